import Derived.Test.YtdchjefneblpgaaGreatP108
import Derived.Test.YtdchjefneblpgaaGreatP78
set_option linter.unusedVariables false
set_option linter.unusedSimpArgs false
namespace Go.Proofs.YtdchjefneblpgaaGreat
open Go.Sx Go.RowKit Go.Proofs.Tryz
theorem ah7(c:bb)(l:List df)(ah:c.sz+4*l.length<=8388608):
  c0 prog (ar f15 0) (xp (l.map df.e) 0 [] (c.aF.nodes.map Node.e) c.aF.ay c.aF.cap (c.ay.map aP.e) (c.bV.map bt.e) (c.tokens.map b2.e) (c.news.map cb.e) (cL c) 0 0) (.exit 0)
   (KD ((dX c l).2.map cu) ((dX c l).1.aF.nodes.map Node.e) (dX c l).1.aF.ay (dX c l).1.aF.cap ((dX c l).1.ay.map aP.e) ((dX c l).1.bV.map bt.e) ((dX c l).1.tokens.map b2.e) ((dX c l).1.news.map cb.e) (cL (dX c l).1) 0 0):=by
 have ak:l.length<=8388608:=by omega
 have k:=e7 (P:=prog) (c:=(ar f15 0)) (cM 0) l.length (fun i:Nat=>xp (l.map df.e) i ((dX c (l.take i)).2.map cu) ((dX c (l.take i)).1.aF.nodes.map Node.e) (dX c (l.take i)).1.aF.ay (dX c (l.take i)).1.aF.cap ((dX c (l.take i)).1.ay.map aP.e) ((dX c (l.take i)).1.bV.map bt.e) ((dX c (l.take i)).1.tokens.map b2.e) ((dX c (l.take i)).1.news.map cb.e) (cL (dX c (l.take i)).1) 0 0) (fun i hi=>by
  obtain⟨p,hp⟩:=cY hi;have aT:=Kp (l.take i) c;have ai:=T2 c l i;rw[T1 c hp];dsimp only;rw[Ko];generalize dX c (l.take i)=o at*;exact afQ ⟨cf hi,bG,bL hi,bF df.e hp,TW o.1 p (by omega),by simp[aT];omega,by simp[aT];omega,yp [(eF o.1 p).2],dw hi ak,aa⟩) (afR ⟨dU,aa⟩)
 rw[k1]at k;exact k
theorem ah8(c:bb)(l:List df)(ah:c.sz+4*l.length<=8388608)(hw:fw c):av 15 [.agg c.e,.one (.J 3 (l.map df.e))] [.agg (dX c l).1.e,.one (.J 1 ((dX c l).2.map cu))]:=
 afS ⟨xS c (by omega) hw,ah7 c l ah,aa⟩
def lU(c:bb):bb×Nat:=((dX c (nY c)).1,sO (dX c (nY c)).2)
theorem ah9{c d:bb}(h:d.aF=c.aF):nY d=nY c:=by unfold nY;rw[h]
theorem Ks(c:bb):m' c (lU c).1:=Kq _ _
theorem T3(c:bb):(lU c).1.sz<=c.sz+400:=by
 have:=DR (nY c) c;have:=RG c;unfold lU;dsimp only;omega
theorem aia(c:bb)(l:List df)(ah:c.sz+4*l.length<=8388608):bT prog 131 [.ref (fj c) (fj (dX c l).1),.ro (.one (.J 3 (l.map df.e)))] (.vals [.one (I (sO (dX c l).2))]):=by
 have ak:l.length<=8388608:=by omega
 have k:=e7 (P:=prog) (c:=(ar f131 0)) (cM 0) l.length (fun i:Nat=>vy (l.map df.e) i (sO (dX c (l.take i)).2) ((dX c (l.take i)).1.aF.nodes.map Node.e) (dX c (l.take i)).1.aF.ay (dX c (l.take i)).1.aF.cap ((dX c (l.take i)).1.ay.map aP.e) ((dX c (l.take i)).1.bV.map bt.e) ((dX c (l.take i)).1.tokens.map b2.e) ((dX c (l.take i)).1.news.map cb.e) (cL (dX c (l.take i)).1)) (fun i hi=>by
  obtain⟨p,hp⟩:=cY hi;have aT:=Kp (l.take i) c;have aE:=ah5 (dX c (l.take i)).2;have ai:=T2 c l i;have bR:=Kr i l;rw[T1 c hp];dsimp only;rw[ah6];generalize dX c (l.take i)=o at*;have st:=TW o.1 p (by omega);cases aq:(eF o.1 p).2 with
  | true=>
   rw[aq]at st;exact ag7 ⟨cf hi,bG,bL hi,bF df.e hp,st,rfl,⟨by omega,by omega⟩,dw hi ak,aa⟩
  | false=>
   rw[aq]at st;exact ag8 ⟨cf hi,bG,bL hi,bF df.e hp,st,rfl,dw hi ak,aa⟩) (ag9 ⟨dU,aa⟩)
 rw[k1]at k;exact aha ⟨k,aa⟩
def gA:Nat->bb->Nat->bb×Nat
 | 0,c,k=>(c,k)
 | n+1,c,k=>if (lU c).2=0 then ((lU c).1,k+1) else gA n (lU c).1 (k+1)
def q6(c:bb)(u7:Int):bb×Nat:=gA (hT u7 0 3000).toNat c 0
theorem T4:∀(n:Nat) (c:bb) (k:Nat),(gA n c k).1.sz<=c.sz+n*400
 | 0,c,k=>fK _
 | n+1,c,k=>by
  have h1:=T3 c;have U:=T4 n (lU c).1 (k+1);unfold gA;split
  ·dsimp only;omega
  omega
theorem T5:∀(n:Nat) (c:bb) (k:Nat),m' c (gA n c k).1
 | 0,c,k=>.rfl
 | n+1,c,k=>by
  unfold gA;split
  ·exact Ks c
  exact (Ks c).trans (T5 n _ _)
theorem aib{n:Nat}{c:bb}{k:Nat}(bJ:¬(lU c).2=0):gA (n+1) c k=gA n (lU c).1 (k+1):=by
 conv=>lhs;unfold gA
 rw[bg bJ]
theorem aic(n:Int):∃k:Nat,hT n 0 3000=k/\k<=3000:=by
 refine⟨(hT n 0 3000).toNat,?_,?_⟩<;>(unfold hT;simp only[show ¬(3000:Int)<0 by omega,mY];split<;>(try split)<;>omega)
theorem HE(n:Nat):((n:Int)==0)=decide (n=0):=by
 rw[Bool.eq_iff_iff];simp only[dY,cK];omega
theorem T6(m:Nat)(hm:m<=3000)(l:List df):∀(n:Nat) (c:bb) (k:Nat),k+n=m->nY c=l->c.sz+n*400<=8388608->
  c0 prog (ar f16 0) (tT (l.map df.e) m ((k:Int)+1) (c.aF.nodes.map Node.e) c.aF.ay c.aF.cap (c.ay.map aP.e) (c.bV.map bt.e) (c.tokens.map b2.e) (c.news.map cb.e) (cL c) 0 0) .ret
    (KB (gA n c k).2 ((gA n c k).1.aF.nodes.map Node.e) (gA n c k).1.aF.ay (gA n c k).1.aF.cap ((gA n c k).1.ay.map aP.e) ((gA n c k).1.bV.map bt.e) ((gA n c k).1.tokens.map b2.e) ((gA n c k).1.news.map cb.e))\/
  (gA n c k).2=m/\c0 prog (ar f16 0) (tT (l.map df.e) m ((k:Int)+1) (c.aF.nodes.map Node.e) c.aF.ay c.aF.cap (c.ay.map aP.e) (c.bV.map bt.e) (c.tokens.map b2.e) (c.news.map cb.e) (cL c) 0 0) (.exit 0)
    (KC m ((gA n c k).1.aF.nodes.map Node.e) (gA n c k).1.aF.ay (gA n c k).1.aF.cap ((gA n c k).1.ay.map aP.e) ((gA n c k).1.bV.map bt.e) ((gA n c k).1.tokens.map b2.e) ((gA n c k).1.news.map cb.e) (cL (gA n c k).1) 0 0)
 | 0,c,k,hk,_,_=>.inr ⟨by unfold gA;omega,.last (cM 0) (agn ⟨eD (by omega),aa⟩)⟩
 | n+1,c,k,hk,ak,ah=>by
  have r:=aia c l (by have:=RG c;rw[ak]at this;omega);have ai:=T3 c;have au:=(Ks c).aF;have e1:lU c=((dX c l).1,sO (dX c l).2):=by unfold lU;rw[ak]
  by_cases bJ:(lU c).2=0
  ·rw[show gA (n+1) c k=((lU c).1,k+1) by unfold gA;rw[br bJ]];rw[e1]at bJ ⊢;exact .inl (.last fi (agm ⟨dZ (by omega),r,by rw[HE];exact j3 bJ,aa⟩))
  rw[aib bJ];have dE:=T6 m hm l n (lU c).1 (k+1) (by omega) ((ah9 au).trans ak) (by omega);rw[e1]at bJ dE ⊢;rcases dE with dE | ⟨Yq,dE⟩
  ·exact .inl (.more (SJ ⟨dZ (by omega),r,by rw[HE];exact ly bJ,⟨by omega,by omega⟩,aa⟩) dE)
  exact .inr ⟨Yq,.more (SJ ⟨dZ (by omega),r,by rw[HE];exact ly bJ,⟨by omega,by omega⟩,aa⟩) dE⟩
theorem aid(c:bb)(u7:Int)(ah:c.sz+1200000<=8388608)(hw:fw c):av 16 [.agg c.e,.one (I u7)] [.agg (q6 c u7).1.e,.one (I (q6 c u7).2)]:=by
 have b:=Dg u7 0 3000;obtain⟨m,hm,aq⟩:=aic u7;unfold q6;rw[hm]at b ⊢;rw[l0];rcases T6 m (by omega) (nY c) m c 0 (by omega) rfl (by omega) with k | ⟨cV,k⟩
 ·exact ago ⟨xS c (by omega) hw,RH c,b,k,aa⟩
 rw[cV];exact agp ⟨xS c (by omega) hw,RH c,b,k,aa⟩
end Go.Proofs.YtdchjefneblpgaaGreat
namespace Go.Proofs.YtdchjefneblpgaaGreat
open Go.Sx Go.RowKit Go.Proofs.Tryz
theorem T7(l:bt)(r:aA):(dR l r).1.cap=l.cap:=by unfold dR;split<;>rfl
theorem T8(l:bt):(dt l).1.cap=l.cap:=by
 unfold dt;split
 ·split<;>rfl
 rfl
theorem T9(l:bt):(eY l).1.cap=l.cap:=by unfold eY;split<;>rfl
structure io (c:bb):Prop where
 tok:c.tokens.length=4
 zm:1<=c.bV.length
 cap:∀l∈c.bV,1<=l.cap/\l.cap<=4
variable{c:bb}{i:Int}
theorem io.dB{l m:bt}(h:io c)(ak:fO c i=some l)(hm:m.cap=l.cap):io (dB c i m):=by
 refine⟨h.tok,by change 1<=(c.bV.set i.toNat m).length;rw[fb];exact h.zm,fun x ag=>?_⟩;rcases n2 ag with ag | rfl
 ·exact h.cap x ag
 rw[hm];exact h.cap l (eX (oQ ak).2.2)
theorem io.setW{x:aP}(h:io c):io (setW c i x):=⟨h.tok,h.zm,h.cap⟩
theorem io.jF{n:List cb}(h:io c):io (jF c n):=⟨h.tok,h.zm,h.cap⟩
theorem io.er{t:b2}(h:io c):io (er c i t):=⟨by change (c.tokens.set i.toNat t).length=4;rw[fb];exact h.tok,h.zm,h.cap⟩
theorem Step.AQ{d:bb}{p:df}(st:Step c p d)(h:io c):io d:=by
 cases st with
 | work x r q hk ag ai aC=>exact h.setW
 | input x r t hk ag ai aC hi=>exact h.setW
 | fh x r t hk ag ai aX=>exact h.setW
 | send x r t l hk ag ai aX ak hsend=>exact (h.dB ak (T7 l r)).setW
 | take l x hk fc ak ag bR=>exact (h.dB ak (T8 l)).setW
 | Fv l hk fc ak ah=>exact h.dB ak (T9 l)
 | token t x gZ hk aty bJ aE bR ag W1=>
  rcases Eg c p.a t x with⟨_,k⟩ | ⟨_,_,⟨_,k⟩ | ⟨_,_,k⟩ | ⟨_,_,_,k⟩ | ⟨_,_,_,k⟩⟩<;>rw[k]
  ·exact h
  ·exact h.er.setW
  ·exact h.er.setW
  ·exact h.er.setW.jF
  exact h.er
 | Ge k n x hk aT aE ag=>exact h.setW.jF
theorem aie(h:io c)(p:df):io (eF c p).1:=by
 rcases S7 c p with⟨_,k⟩ | ⟨_,_,st⟩
 ·rw[k];exact h
 exact st.AQ h
theorem Kt:∀(l:List df) {c:bb},io c->io (dX c l).1
 | [],_,h=>h
 | p::l,_,h=>Kt l (aie h p)
theorem T':∀(n:Nat) {c:bb} (k:Nat),io c->io (gA n c k).1
 | 0,_,_,h=>h
 | n+1,c,k,h=>by
  have h1:io (lU c).1:=Kt (nY c) h;unfold gA;split
  ·exact h1
  exact T' n (k+1) h1
theorem Ua(n:Int):1<=hT n 1 4/\hT n 1 4<=4:=by
 unfold hT;split<;>(try split)<;>(try split)<;>omega
theorem aif{g:b1}{xs:List aA}(h:nG g xs=true):io (iZ g xs):=by
 have aT:=lm (Kd.1 h).1;refine⟨by simp[iZ],?_,fun l ak=>?_⟩
 ·unfold iZ;rw[List.length_replicate];exact Nat.mul_pos (by omega) (by omega)
 rw[List.eq_of_mem_replicate ak];exact Ua g.cap
structure V6 (x:bb):Prop where
 aF:lz x.aF
 AQ:io x
 c5:fw x
 sz:x.sz<=8000
 we:x.ay.length=x.aF.ay.toNat
theorem aih(b:List Int)(c:dC)(ah:c.ok b):∃(d:dC) (x:bb),d.ok b/\V6 x/\bT prog 166 [.cur (c.e b) (d.e b)] (.vals [.agg x.e]):=by
 obtain⟨d1,g,cn,au,bI⟩:=Q9 b c ah;obtain⟨d2,xs,ca,k0,ij,bZ⟩:=PC b d1 cn;obtain⟨d3,ct,cB,r5,_,ch⟩:=amG b d2 40 (by omega) ca;obtain⟨d4,f,e6,ei⟩:=Db b d3 4 cB (by omega);have aT:=amI au (by omega) ij;have ai:=au.size;have bd:=amH aT;have nw:=Q8 g xs (by omega);rw[Kb aT]at nw;have c5:=Ra g xs;have hF:=ah8 (iZ g xs) ct (by omega) c5;have wX:=DR ct (iZ g xs);have Hw:=Kq ct (iZ g xs);have Uk:=Kt ct (aif aT);have zc:(iZ g xs).ay.length=g.ay.toNat:=J' g xs _;have Xa:(iZ g xs).aF=g:=rfl;have cV:=Hw.aF;have cA:=Hw.c5 c5;have fl:=Hw.we;rw[Xa]at cV;rw[zc]at fl;generalize dX (iZ g xs) ct=o at*;cases f with
 | false=>exact⟨d4,o.1,e6,⟨by rw[cV];exact au,Uk,cA,by omega,by rw[cV];exact fl⟩,afl ⟨bI,bZ,nw,Tj ⟨ch,hF,aa⟩,ei,rfl,aa⟩⟩
 | true=>
  obtain⟨d5,n,r3,atF,jE⟩:=dW b d4 12 e6 (by omega);have cN:=aid o.1 n (by omega) cA;have aq:(hT n 0 3000).toNat<=11:=by
   unfold hT;split<;>(try split)<;>(try split)<;>omega
  have atJ:=T4 (hT n 0 3000).toNat o.1 0;have Hu:=T5 (hT n 0 3000).toNat o.1 0;have f1:(q6 o.1 n).1.aF=g:=Hu.aF.trans cV;have f2:fw (q6 o.1 n).1:=Hu.c5 cA;have f3:(q6 o.1 n).1.ay.length=g.ay.toNat:=Hu.we.trans fl;have f4:(q6 o.1 n).1.sz<=8000:=by unfold q6;omega
  have f5:io (q6 o.1 n).1:=T' _ 0 Uk;exact⟨d5,(q6 o.1 n).1,r3,⟨by rw[f1];exact au,f5,f2,f4,by rw[f1];exact f3⟩,afk ⟨bI,bZ,nw,Tj ⟨ch,hF,aa⟩,ei,rfl,afj ⟨jE,cN,aa⟩,aa⟩⟩
structure BD (n:Nat) (l:bt):Prop where
 sz:l.sz<=n
 cap:1<=l.cap/\l.cap<=4
 c5:l.c5<=9223372036854775807
theorem DS(b:List Int):∀(n i:Nat) (l:bt) (c:dC),i+n=8->c.ok b->BD i l->
  ∃(m:bt) (d:dC),d.ok b/\BD 8 m/\c0 prog (ar f327 0) (sq (b.map hd) i l.cap (l.queue.map aA.e) l.eo l.back l.eQ l.c5 0 0 0 0 0 c.i c.h) (.exit 0) (K4 (b.map hd) m.cap (m.queue.map aA.e) m.eo m.back m.eQ m.c5 0 0 0 0 0 d.i d.h)
 | n,i,l,c,pC,ah,ak=>by
  obtain⟨d1,m,cn,aq,bI⟩:=dW b c 9 ah (by omega);have bd:=ak.sz;by_cases h:(i:Int)<m
  ·match n with
   | 0=>omega
   | n+1=>
    obtain⟨d2,k,ca,hk,bZ⟩:=dW b d1 4 cn (by omega);by_cases bz:k=0
    ·have z:=RU l;obtain⟨iJ,d,o,ff,fa⟩:=DS b n (i+1) (dt l).1 d2 (by omega) ca ⟨by omega,by rw[T8];exact ak.cap,TZ l ak.c5⟩;exact⟨iJ,d,o,ff,.more (afy ⟨bI,j3 h,bZ,by simp[bz],SV l (by omega),⟨by omega,by omega⟩,aa⟩) fa⟩
    by_cases e1:k=1
    ·have z:=RV l;obtain⟨iJ,d,o,ff,fa⟩:=DS b n (i+1) (eY l).1 d2 (by omega) ca ⟨by omega,by rw[T9];exact ak.cap,TY l ak.c5⟩;exact⟨iJ,d,o,ff,.more (afz ⟨bI,j3 h,bZ,by simp[bz],by simp[e1],SX l (by omega),⟨by omega,by omega⟩,aa⟩) fa⟩
    obtain⟨d3,r,cB,aD,ch⟩:=Dd b d2 ca;have z:=RT l r;obtain⟨iJ,d,o,ff,fa⟩:=DS b n (i+1) (dR l r).1 d3 (by omega) cB ⟨by omega,by rw[T7];exact ak.cap,TX l r ak.c5⟩;exact⟨iJ,d,o,ff,.more (afB ⟨bI,j3 h,bZ,by simp[bz],by simp[e1],afA ⟨ch,SU l r (by omega),aa⟩,⟨by omega,by omega⟩,aa⟩) fa⟩
  exact⟨l,d1,cn,⟨by omega,ak.cap,ak.c5⟩,.last (cM 0) (afC ⟨bI,ly h,aa⟩)⟩
theorem aii(b:List Int)(c:dC)(ah:c.ok b):∃(d:dC) (l:bt),d.ok b/\BD 8 l/\bT prog 327 [.cur (c.e b) (d.e b)] (.vals [.agg l.e]):=by
 obtain⟨d1,n,cn,aT,bI⟩:=dW b c 4 ah (by omega);obtain⟨l,d,o,ff,fa⟩:=DS b 8 0 (p2 (1+n)) d1 rfl cn ⟨by simp[p2,bt.sz],Ua _,by simp[p2]⟩;exact⟨d,l,o,ff,afD ⟨bI,⟨by omega,by omega⟩,PG (1+n),fa,aa⟩⟩
theorem aij(b:List Int)(c:dC)(ah:c.ok b):∃(d:dC) (l:bt),d.ok b/\BD 9 l/\bT prog 278 [.cur (c.e b) (d.e b)] (.vals [.agg l.e]):=by
 obtain⟨d1,l,cn,⟨bd,hB,sY⟩,bI⟩:=aii b c ah;obtain⟨d2,k,ca,hk,bZ⟩:=dW b d1 14 cn (by omega);have la:l.queue.length<=8:=bd;by_cases bz:k=0
 ·obtain⟨d3,v,cB,bA,ch⟩:=dW b d2 6 ca (by omega);exact⟨d3,⟨l.cap,l.queue,v-1,l.back,l.eQ,l.c5⟩,cB,⟨Nat.le_succ_of_le bd,hB,sY⟩,afE ⟨bI,bZ,by simp[bz],ch,⟨by omega,by omega⟩,aa⟩⟩
 by_cases e1:k=1
 ·obtain⟨d3,v,cB,bA,ch⟩:=dW b d2 6 ca (by omega);exact⟨d3,⟨l.cap,l.queue,l.eo,v-1,l.eQ,l.c5⟩,cB,⟨Nat.le_succ_of_le bd,hB,sY⟩,afF ⟨bI,bZ,by simp[bz],by simp[e1],ch,⟨by omega,by omega⟩,aa⟩⟩
 by_cases e2:k=2
 ·obtain⟨d3,v,cB,bA,ch⟩:=ke b d2 [-1,0,1000000000,1000000001] ca (by simp);exact⟨d3,⟨l.cap,l.queue,l.eo,l.back,v,l.c5⟩,cB,⟨Nat.le_succ_of_le bd,hB,sY⟩,afG ⟨bI,bZ,by simp[bz],by simp[e1],by simp[e2],ch,aa⟩⟩
 by_cases cc:k=3
 ·obtain⟨d3,r,cB,aD,ch⟩:=Rc b d2 ca;have:=afI ⟨bI,bZ,by simp[bz],by simp[e1],by simp[e2],by simp[cc],afH ⟨ch,by simp;omega,by simp;omega,FH r,aa⟩,aa⟩;refine⟨d3,⟨l.cap,l.queue++[r],l.eo,l.back,l.eQ,l.c5⟩,cB,⟨by simp[bt.sz];omega,hB,sY⟩,?_⟩;unfold bt.e;dsimp only;rw[ha];exact this
 by_cases ec:k=4
 ·have wN:((l.queue.map aA.e).length:Int)=l.queue.length:=by simp
  have:=afJ ⟨bI,bZ,by simp[bz],by simp[e1],by simp[e2],by simp[cc],by simp[ec],⟨by omega,by omega⟩,aa⟩;rw[wN]at this;exact⟨d2,⟨l.cap,l.queue,l.eo,l.back,1000000000,1000000000-(l.queue.length:Int)⟩,ca,⟨Nat.le_succ_of_le bd,hB,by dsimp only;omega⟩,this⟩
 exact⟨d2,l,ca,⟨by omega,hB,sY⟩,afK ⟨bI,bZ,by simp[bz],by simp[e1],by simp[e2],by simp[cc],by simp[ec],aa⟩⟩
end Go.Proofs.YtdchjefneblpgaaGreat
namespace Go.Proofs.YtdchjefneblpgaaGreat
open Go.Sx Go.RowKit Go.Proofs.Tryz
theorem aik(b:List Int)(c:dC)(g:b1)(ah:c.ok b)(au:g.nodes.length<=1000):∃(d:dC) (r:aA),d.ok b/\(0<=r.bx.bf/\r.bx.bf<=3)/\bT prog 350 [.cur (c.e b) (d.e b),.ro (.agg g.e)] (.vals [.agg r.e]):=by
 obtain⟨d1,r,cn,⟨_,U,_,_,_⟩,bI⟩:=Dd b c ah;have wN:((g.nodes.map Node.e).length:Int)=g.nodes.length:=by simp
 by_cases bJ:0<g.nodes.length
 ·have aE:decide (((g.nodes.map Node.e).length:Int)>0)=true:=dZ (by omega);obtain⟨d2,k,ca,hk,bZ⟩:=dW b d1 (g.nodes.length:Int) cn (by omega);rw[<-wN]at bZ;obtain⟨d3,x,cB,ch⟩:=Db b d2 4 ca (by omega);cases x with
  | true=>
   obtain⟨d4,t,e6,bR,ei⟩:=dW b d3 2 cB (by omega);exact⟨d4,⟨k,⟨r.bx.bf,5+t⟩,r.key,r.val⟩,e6,by dsimp only;omega,afL ⟨bI,aE,bZ,ch,rfl,ei,⟨by omega,by omega⟩,aa⟩⟩
  | false=>exact⟨d3,⟨k,r.bx,r.key,r.val⟩,cB,by dsimp only;omega,afM ⟨bI,aE,bZ,ch,rfl,aa⟩⟩
 have aE:decide (((g.nodes.map Node.e).length:Int)>0)=false:=eD (by omega);obtain⟨d3,x,cB,ch⟩:=Db b d1 4 cn (by omega);cases x with
 | true=>
  obtain⟨d4,t,e6,bR,ei⟩:=dW b d3 2 cB (by omega);exact⟨d4,⟨r.op,⟨r.bx.bf,5+t⟩,r.key,r.val⟩,e6,by dsimp only;omega,afN ⟨bI,aE,ch,rfl,ei,⟨by omega,by omega⟩,aa⟩⟩
 | false=>exact⟨d3,r,cB,by omega,afO ⟨bI,aE,ch,rfl,aa⟩⟩
structure rm (i:Nat) (w:aP):Prop where
 sz:w.sz<=40+2*i
 bH:w.bH.length=4
 bU:w.bU.length=4
 yn:∀k:Nat,-(i:Int)<=w.bH.getD k 0/\w.bH.getD k 0<=0
theorem rm.mono{i:Nat}{w v:aP}(h:rm i w)(ai:v.sz<=w.sz+2)(h1:v.bH=w.bH)(U:v.bU=w.bU):rm (i+1) v:=by
 refine⟨by have:=h.sz;omega,by rw[h1];exact h.bH,by rw[U];exact h.bU,fun k=>?_⟩;rw[h1];have:=h.yn k;omega
theorem rm.ho{i:Nat}{w:aP}{r:aA}(h:rm i w)(he:0<=r.bx.bf/\r.bx.bf<=3):rm (i+1) (ho w r):=by
 have aK:=h.bH;refine⟨?_,?_,?_,fun k=>?_⟩
 ·have:=RR w r;have:=h.sz;omega
 ·unfold Go.Proofs.YtdchjefneblpgaaGreat.ho lO;dsimp only;rw[fb];exact aK
 ·unfold Go.Proofs.YtdchjefneblpgaaGreat.ho;dsimp only;rw[fb];exact h.bU
 unfold Go.Proofs.YtdchjefneblpgaaGreat.ho lO;dsimp only;by_cases hk:r.bx.bf.toNat=k
 ·subst hk;rw[KN (by omega)];have:=h.yn r.bx.bf.toNat;omega
 rw[Ab hk];have:=h.yn k;omega
theorem ail(g:b1)(w:aP):(fJ g w).1.bH=w.bH/\(fJ g w).1.bU=w.bU:=by
 rcases S4 g w with⟨_,k⟩ | ⟨_,r,q,_,_,k⟩<;>rw[k]<;>exact⟨rfl,rfl⟩
theorem aim(g:b1)(w:aP):(eB g w).1.bH=w.bH/\(eB g w).1.bU=w.bU:=by
 rcases S5 g w with⟨_,k⟩ | ⟨_,r,q,_,_,_,k⟩<;>rw[k]<;>exact⟨rfl,rfl⟩
theorem xu(b:List Int)(g:b1)(au:g.sz<=1000):∀(n i:Nat) (w:aP) (c:dC),i+n=7->c.ok b->rm i w->
  ∃(v:aP) (d:dC),d.ok b/\rm 7 v/\c0 prog (ar f326 0) (p9 (b.map hd) i (w.queue.map aA.e) (w.cg.map aA.e) (w.b8.map aA.e) (w.cells.map Cell.e) (w.bH.map a8) (w.bU.map cu) (w.bK.map cu) (w.b'.map cD.e) (g.nodes.map Node.e) g.ay g.cap c.i c.h) (.exit 0)
   (K9 (b.map hd) (v.queue.map aA.e) (v.cg.map aA.e) (v.b8.map aA.e) (v.cells.map Cell.e) (v.bH.map a8) (v.bU.map cu) (v.bK.map cu) (v.b'.map cD.e) d.i d.h)
 | n,i,w,c,pC,ah,hw=>by
  obtain⟨d1,m,cn,aq,bI⟩:=dW b c 8 ah (by omega);have bd:=hw.sz;have Xe:g.nodes.length<=1000:=by have:=zB (sz:=Node.sz) (xs:=g.nodes) (m:=1000) au;exact this
  by_cases h:(i:Int)<m
  ·match n with
   | 0=>omega
   | n+1=>
    obtain⟨d2,k,ca,hk,bZ⟩:=dW b d1 5 cn (by omega);by_cases bz:k=0
    ·have z:=RQ g w;obtain⟨q1,lf⟩:=aim g w;obtain⟨iJ,d,o,ff,fa⟩:=xu b g au n (i+1) (eB g w).1 d2 (by omega) ca (hw.mono (by omega) q1 lf);exact⟨iJ,d,o,ff,.more (afP ⟨bI,j3 h,bZ,by simp[bz],aix g w (by omega) (by omega),⟨by omega,by omega⟩,aa⟩) fa⟩
    by_cases e1:k=1
    ·obtain⟨d3,r,cB,he,ch⟩:=aik b d2 g ca Xe;obtain⟨iJ,d,o,ff,fa⟩:=xu b g au n (i+1) (ho w r) d3 (by omega) cB (hw.ho he);have ats:=hw.yn r.bx.bf.toNat;have ar5:=ait w r (by omega) hw.bH hw.bU he ⟨by omega,by omega⟩;exact⟨iJ,d,o,ff,.more (ae1 ⟨bI,j3 h,bZ,by simp[bz],by simp[e1],ae0 ⟨ch,ar5,aa⟩,⟨by omega,by omega⟩,aa⟩) fa⟩
    by_cases e2:k=2
    ·have ow:w.cg=[]\/∃r t,w.cg=r::t:=by
      cases w.cg with
      | nil=>exact .inl rfl
      | cons r t=>exact .inr ⟨r,t,rfl⟩
     rcases ow with eO | ⟨r,t0,eO⟩
     ·obtain⟨iJ,d,o,ff,fa⟩:=xu b g au n (i+1) w d2 (by omega) ca (hw.mono (by omega) rfl rfl);have us:=aiv w (by omega) eO;exact⟨iJ,d,o,ff,.more (Th ⟨bI,j3 h,bZ,by simp[bz],by simp[e1],by simp[e2],us,⟨by omega,by omega⟩,aa⟩) fa⟩
     have z:=Jv eO;obtain⟨iJ,d,o,ff,fa⟩:=xu b g au n (i+1) (gy w t0) d2 (by omega) ca (hw.mono (by omega) rfl rfl);have us:=aiu w r t0 (by omega) eO;exact⟨iJ,d,o,ff,.more (Th ⟨bI,j3 h,bZ,by simp[bz],by simp[e1],by simp[e2],us,⟨by omega,by omega⟩,aa⟩) fa⟩
    have z:=RP g w;obtain⟨q1,lf⟩:=ail g w;obtain⟨iJ,d,o,ff,fa⟩:=xu b g au n (i+1) (fJ g w).1 d2 (by omega) ca (hw.mono (by omega) q1 lf);exact⟨iJ,d,o,ff,.more (ae2 ⟨bI,j3 h,bZ,by simp[bz],by simp[e1],by simp[e2],aiw g w (by omega) (by omega),⟨by omega,by omega⟩,aa⟩) fa⟩
  refine⟨w,d1,cn,⟨by omega,hw.bH,hw.bU,fun k=>?_⟩,.last (cM 0) (ae3 ⟨bI,ly h,aa⟩)⟩;have:=hw.yn k;omega
theorem ain(b:List Int)(c:dC)(g:b1)(au:g.sz<=1000)(ah:c.ok b):∃(d:dC) (w:aP),d.ok b/\rm 7 w/\bT prog 326 [.cur (c.e b) (d.e b),.ro (.agg g.e)] (.vals [.agg w.e]):=by
 obtain⟨d1,xs,cn,k0,ij,bI⟩:=PC b c ah;obtain⟨w,d,o,ff,fa⟩:=xu b g au 7 0 (sg xs) d1 rfl cn (by
  refine⟨by simp[sg,aP.sz];omega,by simp[sg],by simp[sg],fun k=>?_⟩;have:(sg xs).bH.getD k 0=0:=by
   change ([0,0,0,0]:List Int).getD k 0=0;rcases k with _ | _ | _ | _ | k<;>simp
  omega)
 exact⟨d,w,o,ff,ae4 ⟨bI,PH xs (by omega),fa,aa⟩⟩
theorem aio(v:Bool):Flat [[B v]]:=dG (by intro d aE;simp only[et,mX,or_false]at aE;subst aE;exact⟨_,rfl⟩)
theorem aip(b:List Int)(c:dC)(g:b1)(au:g.sz<=1000)(ah:c.ok b):∃(d:dC) (w:aP),d.ok b/\w.sz<=100/\bT prog 277 [.cur (c.e b) (d.e b),.ro (.agg g.e)] (.vals [.agg w.e]):=by
 obtain⟨d1,w,cn,hw,bI⟩:=ain b c g au ah;obtain⟨d2,k,ca,hk,bZ⟩:=dW b d1 16 cn (by omega);have bd:=hw.sz;have aK:=hw.bH;have Hq:=bd;simp only[aP.sz]at Hq;have atQ:w.queue.length<=1000:=by omega
 by_cases bz:k=0
 ·obtain⟨d3,r,cB,aD,ch⟩:=Rc b d2 ca;have:=ae6 ⟨bI,bZ,by simp[bz],ae5 ⟨ch,by simp;omega,by simp;omega,FH r,aa⟩,aa⟩;refine⟨d3,⟨w.queue++[r],w.cg,w.b8,w.cells,w.bH,w.bU,w.bK,w.b'⟩,cB,by simp[aP.sz];omega,?_⟩;unfold aP.e;dsimp only;rw[ha];exact this
 by_cases e1:k=1
 ·obtain⟨d3,r,cB,aD,ch⟩:=Dd b d2 ca;have:=ae8 ⟨bI,bZ,by simp[bz],by simp[e1],ae7 ⟨ch,by simp;omega,by simp;omega,FH r,aa⟩,aa⟩;refine⟨d3,⟨w.queue,w.cg,w.b8++[r],w.cells,w.bH,w.bU,w.bK,w.b'⟩,cB,by simp[aP.sz];omega,?_⟩;unfold aP.e;dsimp only;rw[ha];exact this
 by_cases e2:k=2
 ·obtain⟨d3,v,cB,bA,ch⟩:=dW b d2 4 ca (by omega);have wN:((w.bH.map a8).length:Int)=4:=by simp[aK]
  have:=afa ⟨bI,bZ,by simp[bz],by simp[e1],by simp[e2],ae9 ⟨ch,by decide,bA.1,by change v<=_;omega,aa⟩,aa⟩;refine⟨d3,⟨w.queue,w.cg,w.b8,w.cells,w.bH.take v.toNat,w.bU,w.bK,w.b'⟩,cB,by simp[aP.sz];omega,?_⟩;unfold aP.e;dsimp only;rw[uk];exact this
 by_cases cc:k=3
 ·obtain⟨d3,v,cB,bA,ch⟩:=ke b d2 [1000000,1000001,-1000001] ca (by simp);obtain⟨y,bn⟩:=cY (xs:=w.bH) (i:=0) (by omega);have mD:(w.bH.map a8)[0]?=some [I y]:=by rw[dd,bn];rfl
  have:=afc ⟨bI,bZ,by simp[bz],by simp[e1],by simp[e2],by simp[cc],afb ⟨ch,by decide,by simp[aK],mD,aa⟩,aa⟩;refine⟨d3,⟨w.queue,w.cg,w.b8,w.cells,w.bH.set 0 v,w.bU,w.bK,w.b'⟩,cB,by simp[aP.sz];omega,?_⟩;unfold aP.e;dsimp only;rw[iB];exact this
 by_cases ec:k=4
 ·obtain⟨d3,v,cB,bA,ch⟩:=dW b d2 6 ca (by omega);have:=afe ⟨bI,bZ,by simp[bz],by simp[e1],by simp[e2],by simp[cc],by simp[ec],afd ⟨ch,⟨by omega,by omega⟩,by simp;omega,by simp;omega,dG (cD.flat ⟨v-1,false⟩),aa⟩,aa⟩;refine⟨d3,⟨w.queue,w.cg,w.b8,w.cells,w.bH,w.bU,w.bK,w.b'++[⟨v-1,false⟩]⟩,cB,by simp[aP.sz];omega,?_⟩;unfold aP.e;dsimp only;rw[ha];exact this
 by_cases gQ:k=5
 ·obtain⟨d3,v,cB,bA,ch⟩:=dW b d2 2 ca (by omega);have:=aff ⟨bI,bZ,by simp[bz],by simp[e1],by simp[e2],by simp[cc],by simp[ec],by simp[gQ],ch,aa⟩;exact⟨d3,⟨w.queue,w.cg,w.b8,w.cells,w.bH,w.bU,w.bK,[⟨1,false⟩,⟨v,true⟩]⟩,cB,by simp[aP.sz];omega,this⟩
 by_cases lD:k=6
 ·have:=afg ⟨bI,bZ,by simp[bz],by simp[e1],by simp[e2],by simp[cc],by simp[ec],by simp[gQ],by simp[lD],by simp;omega,by simp;omega,aio true,aa⟩;refine⟨d2,⟨w.queue,w.cg,w.b8,w.cells,w.bH,w.bU++[true],w.bK,w.b'⟩,ca,by simp[aP.sz];omega,?_⟩;unfold aP.e;dsimp only;rw[ha];exact this
 by_cases mn:k=7
 ·have:=afh ⟨bI,bZ,by simp[bz],by simp[e1],by simp[e2],by simp[cc],by simp[ec],by simp[gQ],by simp[lD],by simp[mn],by simp;omega,by simp;omega,dG (Cell.flat ⟨0,0,0,0⟩),aa⟩;refine⟨d2,⟨w.queue,w.cg,w.b8,w.cells++[⟨0,0,0,0⟩],w.bH,w.bU,w.bK,w.b'⟩,ca,by simp[aP.sz];omega,?_⟩;unfold aP.e;dsimp only;rw[ha];exact this
 exact⟨d2,w,ca,by omega,afi ⟨bI,bZ,by simp[bz],by simp[e1],by simp[e2],by simp[cc],by simp[ec],by simp[gQ],by simp[lD],by simp[mn],aa⟩⟩
end Go.Proofs.YtdchjefneblpgaaGreat
namespace Go.Proofs.YtdchjefneblpgaaGreat
open Go.Sx Go.RowKit Go.Proofs.Tryz
theorem Ub{α:Type}{sz:α->Nat}{xs:List α}{i:Nat}{x y:α}(h:xs[i]?=some y):eZ sz (xs.set i x)<=eZ sz xs+sz x:=by
 have:=vv (sz:=sz) x h;omega
theorem Uc(b:List Int)(c:dC)(ah:c.ok b):∃(d:dC) (x:bb),d.ok b/\(yf x/\x.sz<=8400)/\bT prog 185 [.cur (c.e b) (d.e b)] (.vals [.agg x.e]):=by
 obtain⟨d1,x,cn,tX,bI⟩:=aih b c ah;have bd:=tX.sz;have Hq:=bd;simp only[bb.sz]at Hq;have atx:=tX.aF.size;have Xg:=tX.aF.ay;have zc:=tX.we;have Nw:=tX.AQ.zm;have GN:=tX.AQ.tok;have hB:=tX.AQ.cap;have sY:=tX.c5;have nums:∀l∈x.bV,az .i64 l.cap/\l.c5<=9223372036854775807:=fun l ak=>⟨⟨by have:=hB l ak;omega,by have:=hB l ak;omega⟩,sY l ak⟩
 have uN:az .i64 x.aF.ay:=⟨by omega,by omega⟩
 have XB:((x.ay.map aP.e).length:Int)=x.ay.length:=by simp
 have s0:((x.bV.map bt.e).length:Int)=x.bV.length:=by simp
 have bC:((x.tokens.map b2.e).length:Int)=4:=by simp[GN]
 have atC:x.bV.length<=8000:=by have:=zB (sz:=bt.sz) (xs:=x.bV) (m:=8000) (by omega);exact this
 obtain⟨d2,k,ca,hk,bZ⟩:=dW b d1 (x.ay.length:Int) cn (by omega);rw[<-XB]at bZ;obtain⟨d3,m,cB,hm,ch⟩:=dW b d2 20 ca (by omega);by_cases bz:m=0
 ·obtain⟨d4,w,e6,hw,ei⟩:=aip b d3 x.aF (by omega) cB;obtain⟨y,bn⟩:=cY (xs:=x.ay) (i:=k.toNat) (by omega);have mD:(x.ay.map aP.e)[k.toNat]?=some y.e:=by rw[dd,bn];rfl
  have:=afn ⟨bI,bZ,ch,by simp[bz],afm ⟨ei,hk.1,by omega,mD,aa⟩,aa⟩;refine⟨d4,⟨x.aF,x.ay.set k.toNat w,x.bV,x.tokens,x.news⟩,e6,⟨⟨uN,nums⟩,?_⟩,?_⟩
  ·have:=Ub (sz:=aP.sz) (x:=w) bn;simp only[bb.sz];omega
  unfold bb.e;dsimp only;rw[iB];exact this
 by_cases e1:m=1
 ·obtain⟨d4,i,e6,hi,ei⟩:=dW b d3 (x.bV.length:Int) cB (by omega);rw[<-s0]at ei;obtain⟨d5,l,r3,ak,jE⟩:=aij b d4 e6;obtain⟨y,bn⟩:=cY (xs:=x.bV) (i:=i.toNat) (by omega);have mD:(x.bV.map bt.e)[i.toNat]?=some y.e:=by rw[dd,bn];rfl
  have:=afp ⟨bI,bZ,ch,by simp[bz],by simp[e1],afo ⟨ei,jE,hi.1,by omega,mD,aa⟩,aa⟩;refine⟨d5,⟨x.aF,x.ay,x.bV.set i.toNat l,x.tokens,x.news⟩,r3,⟨⟨uN,fun z bd=>?_⟩,?_⟩,?_⟩
  ·rcases n2 bd with bd | rfl
   ·exact nums z bd
   exact⟨⟨by have:=ak.cap;omega,by have:=ak.cap;omega⟩,ak.c5⟩
  ·have:=Ub (sz:=bt.sz) (x:=l) bn;have:=ak.sz;simp only[bb.sz];omega
  unfold bb.e;dsimp only;rw[iB];exact this
 by_cases e2:m=2
 ·obtain⟨d4,i,e6,hi,ei⟩:=dW b d3 4 cB (by omega);obtain⟨d5,v,r3,bA,jE⟩:=dW b d4 6 e6 (by omega);obtain⟨y,bn⟩:=cY (xs:=x.tokens) (i:=i.toNat) (by omega);have mD:(x.tokens.map b2.e)[i.toNat]?=some y.e:=by rw[dd,bn];rfl
  have:=aeR ⟨bI,bZ,ch,by simp[bz],by simp[e1],by simp[e2],aeQ ⟨ei,jE,⟨by omega,by omega⟩,hi.1,by omega,mD,aa⟩,aa⟩;refine⟨d5,⟨x.aF,x.ay,x.bV,x.tokens.set i.toNat ⟨y.going,v-1,y.sum,y.bU,y.dT⟩,x.news⟩,r3,⟨⟨uN,nums⟩,?_⟩,?_⟩
  ·simp only[bb.sz,fb];omega
  unfold bb.e;dsimp only;rw[iB];exact this
 by_cases cc:m=3
 ·obtain⟨d4,v,e6,bA,ei⟩:=ke b d3 [1000000,1000001,-1000001,3] cB (by simp);obtain⟨y,bn⟩:=cY (xs:=x.tokens) (i:=0) (by omega);have mD:(x.tokens.map b2.e)[0]?=some y.e:=by rw[dd,bn];rfl
  have:=aeT ⟨bI,bZ,ch,by simp[bz],by simp[e1],by simp[e2],by simp[cc],aeS ⟨ei,by decide,by omega,mD,aa⟩,aa⟩;refine⟨d4,⟨x.aF,x.ay,x.bV,x.tokens.set 0 ⟨y.going,y.place,v,y.bU,y.dT⟩,x.news⟩,e6,⟨⟨uN,nums⟩,?_⟩,?_⟩
  ·simp only[bb.sz,fb];omega
  unfold bb.e;dsimp only;rw[iB];exact this
 by_cases ec:m=4
 ·obtain⟨d4,u,e6,hu,ei⟩:=dW b d3 6 cB (by omega);obtain⟨d5,v,r3,bA,jE⟩:=dW b d4 6 e6 (by omega);have NF:x.news.length<=8000:=by omega
  have:=aeV ⟨bI,bZ,ch,by simp[bz],by simp[e1],by simp[e2],by simp[cc],by simp[ec],aeU ⟨ei,⟨by omega,by omega⟩,jE,⟨by omega,by omega⟩,by simp;omega,by simp;omega,dG (cb.flat ⟨u-1,v-1,false⟩),aa⟩,aa⟩;refine⟨d5,⟨x.aF,x.ay,x.bV,x.tokens,x.news++[⟨u-1,v-1,false⟩]⟩,r3,⟨⟨uN,nums⟩,?_⟩,?_⟩
  ·simp only[bb.sz,hs,List.length_singleton];omega
  unfold bb.e;dsimp only;rw[ha];exact this
 by_cases gQ:m=5
 ·obtain⟨d4,g,e6,au,ei⟩:=agy b d3 cB;have:=aeW ⟨bI,bZ,ch,by simp[bz],by simp[e1],by simp[e2],by simp[cc],by simp[ec],by simp[gQ],ei,aa⟩;refine⟨d4,⟨g,x.ay,x.bV,x.tokens,x.news⟩,e6,⟨⟨⟨by dsimp only;omega,by dsimp only;omega⟩,nums⟩,?_⟩,this⟩;simp only[bb.sz];omega
 by_cases lD:m=6
 ·have:=aeX ⟨bI,bZ,ch,by simp[bz],by simp[e1],by simp[e2],by simp[cc],by simp[ec],by simp[gQ],by simp[lD],by decide,by change (0:Int)<=3;decide,by change (3:Int)<=_;omega,aa⟩;refine⟨d3,⟨x.aF,x.ay,x.bV,x.tokens.take 3,x.news⟩,cB,⟨⟨uN,nums⟩,?_⟩,?_⟩
  ·simp only[bb.sz,lx];omega
  unfold bb.e;dsimp only;rw[uk];exact this
 exact⟨d3,x,cB,⟨⟨uN,nums⟩,by omega⟩,aeY ⟨bI,bZ,ch,by simp[bz],by simp[e1],by simp[e2],by simp[cc],by simp[ec],by simp[gQ],by simp[lD],aa⟩⟩
