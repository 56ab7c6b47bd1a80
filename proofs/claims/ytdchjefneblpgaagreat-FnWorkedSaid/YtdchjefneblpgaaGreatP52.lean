import Derived.Test.YtdchjefneblpgaaGreatP108
import Derived.Test.YtdchjefneblpgaaGreatP78
set_option linter.unusedVariables false
set_option linter.unusedSimpArgs false
namespace Go.Proofs.YtdchjefneblpgaaGreat
open Go.Sx Go.RowKit Go.Proofs.Tryz
theorem aip(c:bd)(l:List dd)(ai:c.sz+4*l.length<=8388608):
  c3 prog (aq f15 0) (xh (l.map dd.e) 0 [] (c.aF.nodes.map Node.e) c.aF.az c.aF.cap (c.az.map aS.e) (c.bZ.map bD.e) (c.tokens.map b0.e) (c.news.map ca.e) (cQ c) 0 0) (.exit 0)
   (KJ ((dZ c l).2.map cv) ((dZ c l).1.aF.nodes.map Node.e) (dZ c l).1.aF.az (dZ c l).1.aF.cap ((dZ c l).1.az.map aS.e) ((dZ c l).1.bZ.map bD.e) ((dZ c l).1.tokens.map b0.e) ((dZ c l).1.news.map ca.e) (cQ (dZ c l).1) 0 0):=by
 have al:l.length<=8388608:=by omega
 have k:=eY (P:=prog) (c:=(aq f15 0)) (cM 0) l.length (fun i:Nat=>xh (l.map dd.e) i ((dZ c (l.take i)).2.map cv) ((dZ c (l.take i)).1.aF.nodes.map Node.e) (dZ c (l.take i)).1.aF.az (dZ c (l.take i)).1.aF.cap ((dZ c (l.take i)).1.az.map aS.e) ((dZ c (l.take i)).1.bZ.map bD.e) ((dZ c (l.take i)).1.tokens.map b0.e) ((dZ c (l.take i)).1.news.map ca.e) (cQ (dZ c (l.take i)).1) 0 0) (fun i hi=>by
  obtain⟨p,hp⟩:=c0 hi;have aW:=KU (l.take i) c;have aj:=Ti c l i;rw[Th c hp];dsimp only;rw[KT];generalize dZ c (l.take i)=o at*;exact ahA ⟨b' hi,bF,bI hi,bG dd.e hp,Tc o.1 p (by omega),by simp[aW];omega,by simp[aW];omega,yh [(eJ o.1 p).2],df hi al,aa⟩) (ahB ⟨dG,aa⟩)
 rw[k3]at k;exact k
theorem aiq(c:bd)(l:List dd)(ai:c.sz+4*l.length<=8388608)(hw:gA c):av 15 [.agg c.e,.one (.J 3 (l.map dd.e))] [.agg (dZ c l).1.e,.one (.J 1 ((dZ c l).2.map cv))]:=
 ahC ⟨Az c (by omega) hw,aip c l ai,aa⟩
def l1(c:bd):bd×Nat:=((dZ c (nX c)).1,sH (dZ c (nX c)).2)
theorem air{c d:bd}(h:d.aF=c.aF):nX d=nX c:=by unfold nX;rw[h]
theorem K3(c:bd):mW c (l1 c).1:=KV _ _
theorem SS(c:bd):(l1 c).1.sz<=c.sz+400:=by
 have:=D8 (nX c) c;have:=RP c;unfold l1;dsimp only;omega
theorem ais(c:bd)(l:List dd)(ai:c.sz+4*l.length<=8388608):bY prog 131 [.ref (fp c) (fp (dZ c l).1),.ro (.one (.J 3 (l.map dd.e)))] (.vals [.one (I (sH (dZ c l).2))]):=by
 have al:l.length<=8388608:=by omega
 have k:=eY (P:=prog) (c:=(aq f131 0)) (cM 0) l.length (fun i:Nat=>vr (l.map dd.e) i (sH (dZ c (l.take i)).2) ((dZ c (l.take i)).1.aF.nodes.map Node.e) (dZ c (l.take i)).1.aF.az (dZ c (l.take i)).1.aF.cap ((dZ c (l.take i)).1.az.map aS.e) ((dZ c (l.take i)).1.bZ.map bD.e) ((dZ c (l.take i)).1.tokens.map b0.e) ((dZ c (l.take i)).1.news.map ca.e) (cQ (dZ c (l.take i)).1)) (fun i hi=>by
  obtain⟨p,hp⟩:=c0 hi;have aW:=KU (l.take i) c;have aD:=aiE (dZ c (l.take i)).2;have aj:=Ti c l i;have bQ:=KW i l;rw[Th c hp];dsimp only;rw[aiF];generalize dZ c (l.take i)=o at*;have st:=Tc o.1 p (by omega);cases ar:(eJ o.1 p).2 with
  | true=>
   rw[ar]at st;exact ahq ⟨b' hi,bF,bI hi,bG dd.e hp,st,rfl,⟨by omega,by omega⟩,df hi al,aa⟩
  | false=>
   rw[ar]at st;exact ahr ⟨b' hi,bF,bI hi,bG dd.e hp,st,rfl,df hi al,aa⟩) (ahs ⟨dG,aa⟩)
 rw[k3]at k;exact aht ⟨k,aa⟩
def gH:Nat->bd->Nat->bd×Nat
 | 0,c,k=>(c,k)
 | n+1,c,k=>if (l1 c).2=0 then ((l1 c).1,k+1) else gH n (l1 c).1 (k+1)
def qT(c:bd)(uY:Int):bd×Nat:=gH (hQ uY 0 3000).toNat c 0
theorem TK:∀(n:Nat) (c:bd) (k:Nat),(gH n c k).1.sz<=c.sz+n*400
 | 0,c,k=>fk _
 | n+1,c,k=>by
  have h1:=SS c;have U:=TK n (l1 c).1 (k+1);unfold gH;split
  ·dsimp only;omega
  omega
theorem TL:∀(n:Nat) (c:bd) (k:Nat),mW c (gH n c k).1
 | 0,c,k=>.rfl
 | n+1,c,k=>by
  unfold gH;split
  ·exact K3 c
  exact (K3 c).trans (TL n _ _)
theorem ait{n:Nat}{c:bd}{k:Nat}(bN:¬(l1 c).2=0):gH (n+1) c k=gH n (l1 c).1 (k+1):=by
 conv=>lhs;unfold gH
 rw[bh bN]
theorem aiu(n:Int):∃k:Nat,hQ n 0 3000=k/\k<=3000:=by
 refine⟨(hQ n 0 3000).toNat,?_,?_⟩<;>(unfold hQ;simp only[show ¬(3000:Int)<0 by omega,lD];split<;>(try split)<;>omega)
theorem HB(n:Nat):((n:Int)==0)=decide (n=0):=by
 rw[Bool.eq_iff_iff];simp only[eD,cU];omega
theorem TM(m:Nat)(hm:m<=3000)(l:List dd):∀(n:Nat) (c:bd) (k:Nat),k+n=m->nX c=l->c.sz+n*400<=8388608->
  c3 prog (aq f16 0) (tM (l.map dd.e) m ((k:Int)+1) (c.aF.nodes.map Node.e) c.aF.az c.aF.cap (c.az.map aS.e) (c.bZ.map bD.e) (c.tokens.map b0.e) (c.news.map ca.e) (cQ c) 0 0) .ret
    (KH (gH n c k).2 ((gH n c k).1.aF.nodes.map Node.e) (gH n c k).1.aF.az (gH n c k).1.aF.cap ((gH n c k).1.az.map aS.e) ((gH n c k).1.bZ.map bD.e) ((gH n c k).1.tokens.map b0.e) ((gH n c k).1.news.map ca.e))\/
  (gH n c k).2=m/\c3 prog (aq f16 0) (tM (l.map dd.e) m ((k:Int)+1) (c.aF.nodes.map Node.e) c.aF.az c.aF.cap (c.az.map aS.e) (c.bZ.map bD.e) (c.tokens.map b0.e) (c.news.map ca.e) (cQ c) 0 0) (.exit 0)
    (KI m ((gH n c k).1.aF.nodes.map Node.e) (gH n c k).1.aF.az (gH n c k).1.aF.cap ((gH n c k).1.az.map aS.e) ((gH n c k).1.bZ.map bD.e) ((gH n c k).1.tokens.map b0.e) ((gH n c k).1.news.map ca.e) (cQ (gH n c k).1) 0 0)
 | 0,c,k,hk,_,_=>.inr ⟨by unfold gH;omega,.last (cM 0) (af5 ⟨eT (by omega),aa⟩)⟩
 | n+1,c,k,hk,al,ai=>by
  have r:=ais c l (by have:=RP c;rw[al]at this;omega);have aj:=SS c;have au:=(K3 c).aF;have e1:l1 c=((dZ c l).1,sH (dZ c l).2):=by unfold l1;rw[al]
  by_cases bN:(l1 c).2=0
  ·rw[show gH (n+1) c k=((l1 c).1,k+1) by unfold gH;rw[br bN]];rw[e1]at bN ⊢;exact .inl (.last fg (af4 ⟨dW (by omega),r,by rw[HB];exact j' bN,aa⟩))
  rw[ait bN];have dP:=TM m hm l n (l1 c).1 (k+1) (by omega) ((air au).trans al) (by omega);rw[e1]at bN dP ⊢;rcases dP with dP | ⟨Yy,dP⟩
  ·exact .inl (.more (TE ⟨dW (by omega),r,by rw[HB];exact lE bN,⟨by omega,by omega⟩,aa⟩) dP)
  exact .inr ⟨Yy,.more (TE ⟨dW (by omega),r,by rw[HB];exact lE bN,⟨by omega,by omega⟩,aa⟩) dP⟩
theorem aiv(c:bd)(uY:Int)(ai:c.sz+1200000<=8388608)(hw:gA c):av 16 [.agg c.e,.one (I uY)] [.agg (qT c uY).1.e,.one (I (qT c uY).2)]:=by
 have b:=Dj uY 0 3000;obtain⟨m,hm,ar⟩:=aiu uY;unfold qT;rw[hm]at b ⊢;rw[oR];rcases TM m (by omega) (nX c) m c 0 (by omega) rfl (by omega) with k | ⟨cT,k⟩
 ·exact af6 ⟨Az c (by omega) hw,RQ c,b,k,aa⟩
 rw[cT];exact af7 ⟨Az c (by omega) hw,RQ c,b,k,aa⟩
end Go.Proofs.YtdchjefneblpgaaGreat
namespace Go.Proofs.YtdchjefneblpgaaGreat
open Go.Sx Go.RowKit Go.Proofs.Tryz
theorem TN(l:bD)(r:aG):(fh l r).1.cap=l.cap:=by unfold fh;split<;>rfl
theorem TO(l:bD):(eB l).1.cap=l.cap:=by
 unfold eB;split
 ·split<;>rfl
 rfl
theorem TP(l:bD):(gw l).1.cap=l.cap:=by unfold gw;split<;>rfl
structure im (c:bd):Prop where
 tok:c.tokens.length=4
 zc:1<=c.bZ.length
 cap:∀l∈c.bZ,1<=l.cap/\l.cap<=4
variable{c:bd}{i:Int}
theorem im.eb{l m:bD}(h:im c)(al:hb c i=some l)(hm:m.cap=l.cap):im (eb c i m):=by
 refine⟨h.tok,by change 1<=(c.bZ.set i.toNat m).length;rw[e5];exact h.zc,fun x ag=>?_⟩;rcases n2 ag with ag | rfl
 ·exact h.cap x ag
 rw[hm];exact h.cap l (eA (qO al).2.2)
theorem im.setW{x:aS}(h:im c):im (setW c i x):=⟨h.tok,h.zc,h.cap⟩
theorem im.jP{n:List ca}(h:im c):im (jP c n):=⟨h.tok,h.zc,h.cap⟩
theorem im.ev{t:b0}(h:im c):im (ev c i t):=⟨by change (c.tokens.set i.toNat t).length=4;rw[e5];exact h.tok,h.zc,h.cap⟩
theorem Step.AI{d:bd}{p:dd}(st:Step c p d)(h:im c):im d:=by
 cases st with
 | work x r q hk ag aj aE=>exact h.setW
 | input x r t hk ag aj aE hi=>exact h.setW
 | fo x r t hk ag aj aZ=>exact h.setW
 | send x r t l hk ag aj aZ al hsend=>exact (h.eb al (TN l r)).setW
 | take l x hk ho al ag bQ=>exact (h.eb al (TO l)).setW
 | Fu l hk ho al ai=>exact h.eb al (TP l)
 | token t x hg hk auj bN aD bQ ag W3=>
  rcases D9 c p.a t x with⟨_,k⟩ | ⟨_,_,⟨_,k⟩ | ⟨_,_,k⟩ | ⟨_,_,_,k⟩ | ⟨_,_,_,k⟩⟩<;>rw[k]
  ·exact h
  ·exact h.ev.setW
  ·exact h.ev.setW
  ·exact h.ev.setW.jP
  exact h.ev
 | Gb k n x hk aW aD ag=>exact h.setW.jP
theorem aiw(h:im c)(p:dd):im (eJ c p).1:=by
 rcases SM c p with⟨_,k⟩ | ⟨_,_,st⟩
 ·rw[k];exact h
 exact st.AI h
theorem K4:∀(l:List dd) {c:bd},im c->im (dZ c l).1
 | [],_,h=>h
 | p::l,_,h=>K4 l (aiw h p)
theorem TQ:∀(n:Nat) {c:bd} (k:Nat),im c->im (gH n c k).1
 | 0,_,_,h=>h
 | n+1,c,k,h=>by
  have h1:im (l1 c).1:=K4 (nX c) h;unfold gH;split
  ·exact h1
  exact TQ n (k+1) h1
theorem TR(n:Int):1<=hQ n 1 4/\hQ n 1 4<=4:=by
 unfold hQ;split<;>(try split)<;>(try split)<;>omega
theorem aix{g:bX}{xs:List aG}(h:nG g xs=true):im (kU g xs):=by
 have aW:=nV (Ke.1 h).1;refine⟨by simp[kU],?_,fun l al=>?_⟩
 ·unfold kU;rw[List.length_replicate];exact Nat.mul_pos (by omega) (by omega)
 rw[List.eq_of_mem_replicate al];exact TR g.cap
structure VV (x:bd):Prop where
 aF:lF x.aF
 AI:im x
 du:gA x
 sz:x.sz<=8000
 vT:x.az.length=x.aF.az.toNat
theorem aiy(b:List Int)(c:dI)(ai:c.ok b):∃(d:dI) (x:bd),d.ok b/\VV x/\bY prog 166 [.cur (c.e b) (d.e b)] (.vals [.agg x.e]):=by
 obtain⟨d1,g,cC,au,bM⟩:=PR b c ai;obtain⟨d2,xs,cc,mQ,jv,b2⟩:=PJ b d1 cC;obtain⟨d3,ct,cH,HO,_,cj⟩:=al7 b d2 40 (by omega) cc;obtain⟨d4,f,fr,ep⟩:=Dg b d3 4 cH (by omega);have aW:=alz au (by omega) jv;have aj:=au.size;have bf:=al8 aW;have nw:=PQ g xs (by omega);rw[Kc aW]at nw;have du:=Ri g xs;have hF:=aiq (kU g xs) ct (by omega) du;have qo:=D8 ct (kU g xs);have Ht:=KV ct (kU g xs);have Ua:=K4 ct (aix aW);have sY:(kU g xs).az.length=g.az.toNat:=IK g xs _;have Xc:(kU g xs).aF=g:=rfl;have cT:=Ht.aF;have b5:=Ht.du du;have fq:=Ht.vT;rw[Xc]at cT;rw[sY]at fq;generalize dZ (kU g xs) ct=o at*;cases f with
 | false=>exact⟨d4,o.1,fr,⟨by rw[cT];exact au,Ua,b5,by omega,by rw[cT];exact fq⟩,agS ⟨bM,b2,nw,Tp ⟨cj,hF,aa⟩,ep,rfl,aa⟩⟩
 | true=>
  obtain⟨d5,n,rT,aup,jN⟩:=dY b d4 12 fr (by omega);have cO:=aiv o.1 n (by omega) b5;have ar:(hQ n 0 3000).toNat<=11:=by
   unfold hQ;split<;>(try split)<;>(try split)<;>omega
  have Yr:=TK (hQ n 0 3000).toNat o.1 0;have Hr:=TL (hQ n 0 3000).toNat o.1 0;have f1:(qT o.1 n).1.aF=g:=Hr.aF.trans cT;have f2:gA (qT o.1 n).1:=Hr.du b5;have f3:(qT o.1 n).1.az.length=g.az.toNat:=Hr.vT.trans fq;have f4:(qT o.1 n).1.sz<=8000:=by unfold qT;omega
  have f5:im (qT o.1 n).1:=TQ _ 0 Ua;exact⟨d5,(qT o.1 n).1,rT,⟨by rw[f1];exact au,f5,f2,f4,by rw[f1];exact f3⟩,agR ⟨bM,b2,nw,Tp ⟨cj,hF,aa⟩,ep,rfl,agQ ⟨jN,cO,aa⟩,aa⟩⟩
structure BA (n:Nat) (l:bD):Prop where
 sz:l.sz<=n
 cap:1<=l.cap/\l.cap<=4
 du:l.du<=9223372036854775807
theorem Eb(b:List Int):∀(n i:Nat) (l:bD) (c:dI),i+n=8->c.ok b->BA i l->
  ∃(m:bD) (d:dI),d.ok b/\BA 8 m/\c3 prog (aq f327 0) (sg (b.map hK) i l.cap (l.queue.map aG.e) l.e0 l.back l.fs l.du 0 0 0 0 0 c.i c.h) (.exit 0) (K' (b.map hK) m.cap (m.queue.map aG.e) m.e0 m.back m.fs m.du 0 0 0 0 0 d.i d.h)
 | n,i,l,c,nr,ai,al=>by
  obtain⟨d1,m,cC,ar,bM⟩:=dY b c 9 ai (by omega);have bf:=al.sz;by_cases h:(i:Int)<m
  ·match n with
   | 0=>omega
   | n+1=>
    obtain⟨d2,k,cc,hk,b2⟩:=dY b d1 4 cC (by omega);by_cases bE:k=0
    ·have z:=R2 l;obtain⟨iL,d,o,fj,fc⟩:=Eb b n (i+1) (eB l).1 d2 (by omega) cc ⟨by omega,by rw[TO];exact al.cap,Tf l al.du⟩;exact⟨iL,d,o,fj,.more (afo ⟨bM,j' h,b2,by simp[bE],SZ l (by omega),⟨by omega,by omega⟩,aa⟩) fc⟩
    by_cases e1:k=1
    ·have z:=R3 l;obtain⟨iL,d,o,fj,fc⟩:=Eb b n (i+1) (gw l).1 d2 (by omega) cc ⟨by omega,by rw[TP];exact al.cap,Te l al.du⟩;exact⟨iL,d,o,fj,.more (afp ⟨bM,j' h,b2,by simp[bE],by simp[e1],S0 l (by omega),⟨by omega,by omega⟩,aa⟩) fc⟩
    obtain⟨d3,r,cH,aA,cj⟩:=Di b d2 cc;have z:=R1 l r;obtain⟨iL,d,o,fj,fc⟩:=Eb b n (i+1) (fh l r).1 d3 (by omega) cH ⟨by omega,by rw[TN];exact al.cap,Td l r al.du⟩;exact⟨iL,d,o,fj,.more (afr ⟨bM,j' h,b2,by simp[bE],by simp[e1],afq ⟨cj,SY l r (by omega),aa⟩,⟨by omega,by omega⟩,aa⟩) fc⟩
  exact⟨l,d1,cC,⟨by omega,al.cap,al.du⟩,.last (cM 0) (afs ⟨bM,lE h,aa⟩)⟩
theorem aiz(b:List Int)(c:dI)(ai:c.ok b):∃(d:dI) (l:bD),d.ok b/\BA 8 l/\bY prog 327 [.cur (c.e b) (d.e b)] (.vals [.agg l.e]):=by
 obtain⟨d1,n,cC,aW,bM⟩:=dY b c 4 ai (by omega);obtain⟨l,d,o,fj,fc⟩:=Eb b 8 0 (pS (1+n)) d1 rfl cC ⟨by simp[pS,bD.sz],TR _,by simp[pS]⟩;exact⟨d,l,o,fj,aft ⟨bM,⟨by omega,by omega⟩,PN (1+n),fc,aa⟩⟩
theorem aiA(b:List Int)(c:dI)(ai:c.ok b):∃(d:dI) (l:bD),d.ok b/\BA 9 l/\bY prog 278 [.cur (c.e b) (d.e b)] (.vals [.agg l.e]):=by
 obtain⟨d1,l,cC,⟨bf,fE,sQ⟩,bM⟩:=aiz b c ai;obtain⟨d2,k,cc,hk,b2⟩:=dY b d1 14 cC (by omega);have lg:l.queue.length<=8:=bf;by_cases bE:k=0
 ·obtain⟨d3,v,cH,bt,cj⟩:=dY b d2 6 cc (by omega);exact⟨d3,⟨l.cap,l.queue,v-1,l.back,l.fs,l.du⟩,cH,⟨Nat.le_succ_of_le bf,fE,sQ⟩,afu ⟨bM,b2,by simp[bE],cj,⟨by omega,by omega⟩,aa⟩⟩
 by_cases e1:k=1
 ·obtain⟨d3,v,cH,bt,cj⟩:=dY b d2 6 cc (by omega);exact⟨d3,⟨l.cap,l.queue,l.e0,v-1,l.fs,l.du⟩,cH,⟨Nat.le_succ_of_le bf,fE,sQ⟩,afv ⟨bM,b2,by simp[bE],by simp[e1],cj,⟨by omega,by omega⟩,aa⟩⟩
 by_cases e2:k=2
 ·obtain⟨d3,v,cH,bt,cj⟩:=kS b d2 [-1,0,1000000000,1000000001] cc (by simp);exact⟨d3,⟨l.cap,l.queue,l.e0,l.back,v,l.du⟩,cH,⟨Nat.le_succ_of_le bf,fE,sQ⟩,afw ⟨bM,b2,by simp[bE],by simp[e1],by simp[e2],cj,aa⟩⟩
 by_cases cb:k=3
 ·obtain⟨d3,r,cH,aA,cj⟩:=Rk b d2 cc;have:=afy ⟨bM,b2,by simp[bE],by simp[e1],by simp[e2],by simp[cb],afx ⟨cj,by simp;omega,by simp;omega,FF r,aa⟩,aa⟩;refine⟨d3,⟨l.cap,l.queue++[r],l.e0,l.back,l.fs,l.du⟩,cH,⟨by simp[bD.sz];omega,fE,sQ⟩,?_⟩;unfold bD.e;dsimp only;rw[hx];exact this
 by_cases ef:k=4
 ·have wH:((l.queue.map aG.e).length:Int)=l.queue.length:=by simp
  have:=aeZ ⟨bM,b2,by simp[bE],by simp[e1],by simp[e2],by simp[cb],by simp[ef],⟨by omega,by omega⟩,aa⟩;rw[wH]at this;exact⟨d2,⟨l.cap,l.queue,l.e0,l.back,1000000000,1000000000-(l.queue.length:Int)⟩,cc,⟨Nat.le_succ_of_le bf,fE,by dsimp only;omega⟩,this⟩
 exact⟨d2,l,cc,⟨by omega,fE,sQ⟩,ae0 ⟨bM,b2,by simp[bE],by simp[e1],by simp[e2],by simp[cb],by simp[ef],aa⟩⟩
end Go.Proofs.YtdchjefneblpgaaGreat
namespace Go.Proofs.YtdchjefneblpgaaGreat
open Go.Sx Go.RowKit Go.Proofs.Tryz
theorem ah0(b:List Int)(c:dI)(g:bX)(ai:c.ok b)(au:g.nodes.length<=1000):∃(d:dI) (r:aG),d.ok b/\(0<=r.bw.bc/\r.bw.bc<=3)/\bY prog 350 [.cur (c.e b) (d.e b),.ro (.agg g.e)] (.vals [.agg r.e]):=by
 obtain⟨d1,r,cC,⟨_,U,_,_,_⟩,bM⟩:=Di b c ai;have wH:((g.nodes.map Node.e).length:Int)=g.nodes.length:=by simp
 by_cases bN:0<g.nodes.length
 ·have aD:decide (((g.nodes.map Node.e).length:Int)>0)=true:=dW (by omega);obtain⟨d2,k,cc,hk,b2⟩:=dY b d1 (g.nodes.length:Int) cC (by omega);rw[<-wH]at b2;obtain⟨d3,x,cH,cj⟩:=Dg b d2 4 cc (by omega);cases x with
  | true=>
   obtain⟨d4,t,fr,bQ,ep⟩:=dY b d3 2 cH (by omega);exact⟨d4,⟨k,⟨r.bw.bc,5+t⟩,r.key,r.val⟩,fr,by dsimp only;omega,ae1 ⟨bM,aD,b2,cj,rfl,ep,⟨by omega,by omega⟩,aa⟩⟩
  | false=>exact⟨d3,⟨k,r.bw,r.key,r.val⟩,cH,by dsimp only;omega,ae2 ⟨bM,aD,b2,cj,rfl,aa⟩⟩
 have aD:decide (((g.nodes.map Node.e).length:Int)>0)=false:=eT (by omega);obtain⟨d3,x,cH,cj⟩:=Dg b d1 4 cC (by omega);cases x with
 | true=>
  obtain⟨d4,t,fr,bQ,ep⟩:=dY b d3 2 cH (by omega);exact⟨d4,⟨r.op,⟨r.bw.bc,5+t⟩,r.key,r.val⟩,fr,by dsimp only;omega,ae3 ⟨bM,aD,cj,rfl,ep,⟨by omega,by omega⟩,aa⟩⟩
 | false=>exact⟨d3,r,cH,by omega,ae4 ⟨bM,aD,cj,rfl,aa⟩⟩
structure q9 (i:Nat) (w:aS):Prop where
 sz:w.sz<=40+2*i
 bK:w.bK.length=4
 bS:w.bS.length=4
 yf:∀k:Nat,-(i:Int)<=w.bK.getD k 0/\w.bK.getD k 0<=0
theorem q9.mono{i:Nat}{w v:aS}(h:q9 i w)(aj:v.sz<=w.sz+2)(h1:v.bK=w.bK)(U:v.bS=w.bS):q9 (i+1) v:=by
 refine⟨by have:=h.sz;omega,by rw[h1];exact h.bK,by rw[U];exact h.bS,fun k=>?_⟩;rw[h1];have:=h.yf k;omega
theorem q9.iA{i:Nat}{w:aS}{r:aG}(h:q9 i w)(he:0<=r.bw.bc/\r.bw.bc<=3):q9 (i+1) (iA w r):=by
 have aH:=h.bK;refine⟨?_,?_,?_,fun k=>?_⟩
 ·have:=RZ w r;have:=h.sz;omega
 ·unfold Go.Proofs.YtdchjefneblpgaaGreat.iA lT;dsimp only;rw[e5];exact aH
 ·unfold Go.Proofs.YtdchjefneblpgaaGreat.iA;dsimp only;rw[e5];exact h.bS
 unfold Go.Proofs.YtdchjefneblpgaaGreat.iA lT;dsimp only;by_cases hk:r.bw.bc.toNat=k
 ·subst hk;rw[KZ (by omega)];have:=h.yf r.bw.bc.toNat;omega
 rw[zY hk];have:=h.yf k;omega
theorem ah1(g:bX)(w:aS):(eo g w).1.bK=w.bK/\(eo g w).1.bS=w.bS:=by
 rcases SJ g w with⟨_,k⟩ | ⟨_,r,q,_,_,k⟩<;>rw[k]<;>exact⟨rfl,rfl⟩
theorem ah2(g:bX)(w:aS):(eC g w).1.bK=w.bK/\(eC g w).1.bS=w.bS:=by
 rcases SK g w with⟨_,k⟩ | ⟨_,r,q,_,_,_,k⟩<;>rw[k]<;>exact⟨rfl,rfl⟩
theorem xi(b:List Int)(g:bX)(au:g.sz<=1000):∀(n i:Nat) (w:aS) (c:dI),i+n=7->c.ok b->q9 i w->
  ∃(v:aS) (d:dI),d.ok b/\q9 7 v/\c3 prog (aq f326 0) (pZ (b.map hK) i (w.queue.map aG.e) (w.cm.map aG.e) (w.b8.map aG.e) (w.cells.map Cell.e) (w.bK.map a') (w.bS.map cv) (w.bC.map cv) (w.b4.map cD.e) (g.nodes.map Node.e) g.az g.cap c.i c.h) (.exit 0)
   (Le (b.map hK) (v.queue.map aG.e) (v.cm.map aG.e) (v.b8.map aG.e) (v.cells.map Cell.e) (v.bK.map a') (v.bS.map cv) (v.bC.map cv) (v.b4.map cD.e) d.i d.h)
 | n,i,w,c,nr,ai,hw=>by
  obtain⟨d1,m,cC,ar,bM⟩:=dY b c 8 ai (by omega);have bf:=hw.sz;have Xg:g.nodes.length<=1000:=by have:=xq (sz:=Node.sz) (xs:=g.nodes) (m:=1000) au;exact this
  by_cases h:(i:Int)<m
  ·match n with
   | 0=>omega
   | n+1=>
    obtain⟨d2,k,cc,hk,b2⟩:=dY b d1 5 cC (by omega);by_cases bE:k=0
    ·have z:=RX g w;obtain⟨q1,lm⟩:=ah2 g w;obtain⟨iL,d,o,fj,fc⟩:=xi b g au n (i+1) (eC g w).1 d2 (by omega) cc (hw.mono (by omega) q1 lm);exact⟨iL,d,o,fj,.more (ae5 ⟨bM,j' h,b2,by simp[bE],aib g w (by omega) (by omega),⟨by omega,by omega⟩,aa⟩) fc⟩
    by_cases e1:k=1
    ·obtain⟨d3,r,cH,he,cj⟩:=ah0 b d2 g cc Xg;obtain⟨iL,d,o,fj,fc⟩:=xi b g au n (i+1) (iA w r) d3 (by omega) cH (hw.iA he);have aub:=hw.yf r.bw.bc.toNat;have asI:=aiZ w r (by omega) hw.bK hw.bS he ⟨by omega,by omega⟩;exact⟨iL,d,o,fj,.more (ae7 ⟨bM,j' h,b2,by simp[bE],by simp[e1],ae6 ⟨cj,asI,aa⟩,⟨by omega,by omega⟩,aa⟩) fc⟩
    by_cases e2:k=2
    ·have oi:w.cm=[]\/∃r t,w.cm=r::t:=by
      cases w.cm with
      | nil=>exact .inl rfl
      | cons r t=>exact .inr ⟨r,t,rfl⟩
     rcases oi with eE | ⟨r,t0,eE⟩
     ·obtain⟨iL,d,o,fj,fc⟩:=xi b g au n (i+1) w d2 (by omega) cc (hw.mono (by omega) rfl rfl);have us:=aia w (by omega) eE;exact⟨iL,d,o,fj,.more (Tn ⟨bM,j' h,b2,by simp[bE],by simp[e1],by simp[e2],us,⟨by omega,by omega⟩,aa⟩) fc⟩
     have z:=RY eE;obtain⟨iL,d,o,fj,fc⟩:=xi b g au n (i+1) (j6 w t0) d2 (by omega) cc (hw.mono (by omega) rfl rfl);have us:=ai0 w r t0 (by omega) eE;exact⟨iL,d,o,fj,.more (Tn ⟨bM,j' h,b2,by simp[bE],by simp[e1],by simp[e2],us,⟨by omega,by omega⟩,aa⟩) fc⟩
    have z:=JC g w;obtain⟨q1,lm⟩:=ah1 g w;obtain⟨iL,d,o,fj,fc⟩:=xi b g au n (i+1) (eo g w).1 d2 (by omega) cc (hw.mono (by omega) q1 lm);exact⟨iL,d,o,fj,.more (ae8 ⟨bM,j' h,b2,by simp[bE],by simp[e1],by simp[e2],Tj g w (by omega) (by omega),⟨by omega,by omega⟩,aa⟩) fc⟩
  refine⟨w,d1,cC,⟨by omega,hw.bK,hw.bS,fun k=>?_⟩,.last (cM 0) (agA ⟨bM,lE h,aa⟩)⟩;have:=hw.yf k;omega
theorem ah3(b:List Int)(c:dI)(g:bX)(au:g.sz<=1000)(ai:c.ok b):∃(d:dI) (w:aS),d.ok b/\q9 7 w/\bY prog 326 [.cur (c.e b) (d.e b),.ro (.agg g.e)] (.vals [.agg w.e]):=by
 obtain⟨d1,xs,cC,mQ,jv,bM⟩:=PJ b c ai;obtain⟨w,d,o,fj,fc⟩:=xi b g au 7 0 (r8 xs) d1 rfl cC (by
  refine⟨by simp[r8,aS.sz];omega,by simp[r8],by simp[r8],fun k=>?_⟩;have:(r8 xs).bK.getD k 0=0:=by
   change ([0,0,0,0]:List Int).getD k 0=0;rcases k with _ | _ | _ | _ | k<;>simp
  omega)
 exact⟨d,w,o,fj,agB ⟨bM,PO xs (by omega),fc,aa⟩⟩
theorem ah4(v:Bool):Flat [[B v]]:=dL (by intro d aD;simp only[eu,mT,or_false]at aD;subst aD;exact⟨_,rfl⟩)
theorem ah5(b:List Int)(c:dI)(g:bX)(au:g.sz<=1000)(ai:c.ok b):∃(d:dI) (w:aS),d.ok b/\w.sz<=100/\bY prog 277 [.cur (c.e b) (d.e b),.ro (.agg g.e)] (.vals [.agg w.e]):=by
 obtain⟨d1,w,cC,hw,bM⟩:=ah3 b c g au ai;obtain⟨d2,k,cc,hk,b2⟩:=dY b d1 16 cC (by omega);have bf:=hw.sz;have aH:=hw.bK;have Hm:=bf;simp only[aS.sz]at Hm;have auB:w.queue.length<=1000:=by omega
 by_cases bE:k=0
 ·obtain⟨d3,r,cH,aA,cj⟩:=Rk b d2 cc;have:=agD ⟨bM,b2,by simp[bE],agC ⟨cj,by simp;omega,by simp;omega,FF r,aa⟩,aa⟩;refine⟨d3,⟨w.queue++[r],w.cm,w.b8,w.cells,w.bK,w.bS,w.bC,w.b4⟩,cH,by simp[aS.sz];omega,?_⟩;unfold aS.e;dsimp only;rw[hx];exact this
 by_cases e1:k=1
 ·obtain⟨d3,r,cH,aA,cj⟩:=Di b d2 cc;have:=agF ⟨bM,b2,by simp[bE],by simp[e1],agE ⟨cj,by simp;omega,by simp;omega,FF r,aa⟩,aa⟩;refine⟨d3,⟨w.queue,w.cm,w.b8++[r],w.cells,w.bK,w.bS,w.bC,w.b4⟩,cH,by simp[aS.sz];omega,?_⟩;unfold aS.e;dsimp only;rw[hx];exact this
 by_cases e2:k=2
 ·obtain⟨d3,v,cH,bt,cj⟩:=dY b d2 4 cc (by omega);have wH:((w.bK.map a').length:Int)=4:=by simp[aH]
  have:=agH ⟨bM,b2,by simp[bE],by simp[e1],by simp[e2],agG ⟨cj,by decide,bt.1,by change v<=_;omega,aa⟩,aa⟩;refine⟨d3,⟨w.queue,w.cm,w.b8,w.cells,w.bK.take v.toNat,w.bS,w.bC,w.b4⟩,cH,by simp[aS.sz];omega,?_⟩;unfold aS.e;dsimp only;rw[q6];exact this
 by_cases cb:k=3
 ·obtain⟨d3,v,cH,bt,cj⟩:=kS b d2 [1000000,1000001,-1000001] cc (by simp);obtain⟨y,bl⟩:=c0 (xs:=w.bK) (i:=0) (by omega);have lh:(w.bK.map a')[0]?=some [I y]:=by rw[dj,bl];rfl
  have:=agJ ⟨bM,b2,by simp[bE],by simp[e1],by simp[e2],by simp[cb],agI ⟨cj,by decide,by simp[aH],lh,aa⟩,aa⟩;refine⟨d3,⟨w.queue,w.cm,w.b8,w.cells,w.bK.set 0 v,w.bS,w.bC,w.b4⟩,cH,by simp[aS.sz];omega,?_⟩;unfold aS.e;dsimp only;rw[jw];exact this
 by_cases ef:k=4
 ·obtain⟨d3,v,cH,bt,cj⟩:=dY b d2 6 cc (by omega);have:=agL ⟨bM,b2,by simp[bE],by simp[e1],by simp[e2],by simp[cb],by simp[ef],agK ⟨cj,⟨by omega,by omega⟩,by simp;omega,by simp;omega,dL (cD.flat ⟨v-1,false⟩),aa⟩,aa⟩;refine⟨d3,⟨w.queue,w.cm,w.b8,w.cells,w.bK,w.bS,w.bC,w.b4++[⟨v-1,false⟩]⟩,cH,by simp[aS.sz];omega,?_⟩;unfold aS.e;dsimp only;rw[hx];exact this
 by_cases gY:k=5
 ·obtain⟨d3,v,cH,bt,cj⟩:=dY b d2 2 cc (by omega);have:=agM ⟨bM,b2,by simp[bE],by simp[e1],by simp[e2],by simp[cb],by simp[ef],by simp[gY],cj,aa⟩;exact⟨d3,⟨w.queue,w.cm,w.b8,w.cells,w.bK,w.bS,w.bC,[⟨1,false⟩,⟨v,true⟩]⟩,cH,by simp[aS.sz];omega,this⟩
 by_cases lJ:k=6
 ·have:=agN ⟨bM,b2,by simp[bE],by simp[e1],by simp[e2],by simp[cb],by simp[ef],by simp[gY],by simp[lJ],by simp;omega,by simp;omega,ah4 true,aa⟩;refine⟨d2,⟨w.queue,w.cm,w.b8,w.cells,w.bK,w.bS++[true],w.bC,w.b4⟩,cc,by simp[aS.sz];omega,?_⟩;unfold aS.e;dsimp only;rw[hx];exact this
 by_cases mi:k=7
 ·have:=agO ⟨bM,b2,by simp[bE],by simp[e1],by simp[e2],by simp[cb],by simp[ef],by simp[gY],by simp[lJ],by simp[mi],by simp;omega,by simp;omega,dL (Cell.flat ⟨0,0,0,0⟩),aa⟩;refine⟨d2,⟨w.queue,w.cm,w.b8,w.cells++[⟨0,0,0,0⟩],w.bK,w.bS,w.bC,w.b4⟩,cc,by simp[aS.sz];omega,?_⟩;unfold aS.e;dsimp only;rw[hx];exact this
 exact⟨d2,w,cc,by omega,agP ⟨bM,b2,by simp[bE],by simp[e1],by simp[e2],by simp[cb],by simp[ef],by simp[gY],by simp[lJ],by simp[mi],aa⟩⟩
end Go.Proofs.YtdchjefneblpgaaGreat
namespace Go.Proofs.YtdchjefneblpgaaGreat
open Go.Sx Go.RowKit Go.Proofs.Tryz
theorem TS{α:Type}{sz:α->Nat}{xs:List α}{i:Nat}{x y:α}(h:xs[i]?=some y):fb sz (xs.set i x)<=fb sz xs+sz x:=by
 have:=vo (sz:=sz) x h;omega
theorem ah6(b:List Int)(c:dI)(ai:c.ok b):∃(d:dI) (x:bd),d.ok b/\(BB x/\x.sz<=8400)/\bY prog 185 [.cur (c.e b) (d.e b)] (.vals [.agg x.e]):=by
 obtain⟨d1,x,cC,tR,bM⟩:=aiy b c ai;have bf:=tR.sz;have Hm:=bf;simp only[bd.sz]at Hm;have aug:=tR.aF.size;have Xi:=tR.aF.az;have sY:=tR.vT;have Nz:=tR.AI.zc;have yZ:=tR.AI.tok;have fE:=tR.AI.cap;have sQ:=tR.du;have nums:∀l∈x.bZ,ay .i64 l.cap/\l.du<=9223372036854775807:=fun l al=>⟨⟨by have:=fE l al;omega,by have:=fE l al;omega⟩,sQ l al⟩
 have uy:ay .i64 x.aF.az:=⟨by omega,by omega⟩
 have XG:((x.az.map aS.e).length:Int)=x.az.length:=by simp
 have yL:((x.bZ.map bD.e).length:Int)=x.bZ.length:=by simp
 have bz:((x.tokens.map b0.e).length:Int)=4:=by simp[yZ]
 have aum:x.bZ.length<=8000:=by have:=xq (sz:=bD.sz) (xs:=x.bZ) (m:=8000) (by omega);exact this
 obtain⟨d2,k,cc,hk,b2⟩:=dY b d1 (x.az.length:Int) cC (by omega);rw[<-XG]at b2;obtain⟨d3,m,cH,hm,cj⟩:=dY b d2 20 cc (by omega);by_cases bE:m=0
 ·obtain⟨d4,w,fr,hw,ep⟩:=ah5 b d3 x.aF (by omega) cH;obtain⟨y,bl⟩:=c0 (xs:=x.az) (i:=k.toNat) (by omega);have lh:(x.az.map aS.e)[k.toNat]?=some y.e:=by rw[dj,bl];rfl
  have:=agU ⟨bM,b2,cj,by simp[bE],agT ⟨ep,hk.1,by omega,lh,aa⟩,aa⟩;refine⟨d4,⟨x.aF,x.az.set k.toNat w,x.bZ,x.tokens,x.news⟩,fr,⟨⟨uy,nums⟩,?_⟩,?_⟩
  ·have:=TS (sz:=aS.sz) (x:=w) bl;simp only[bd.sz];omega
  unfold bd.e;dsimp only;rw[jw];exact this
 by_cases e1:m=1
 ·obtain⟨d4,i,fr,hi,ep⟩:=dY b d3 (x.bZ.length:Int) cH (by omega);rw[<-yL]at ep;obtain⟨d5,l,rT,al,jN⟩:=aiA b d4 fr;obtain⟨y,bl⟩:=c0 (xs:=x.bZ) (i:=i.toNat) (by omega);have lh:(x.bZ.map bD.e)[i.toNat]?=some y.e:=by rw[dj,bl];rfl
  have:=agW ⟨bM,b2,cj,by simp[bE],by simp[e1],agV ⟨ep,jN,hi.1,by omega,lh,aa⟩,aa⟩;refine⟨d5,⟨x.aF,x.az,x.bZ.set i.toNat l,x.tokens,x.news⟩,rT,⟨⟨uy,fun z bf=>?_⟩,?_⟩,?_⟩
  ·rcases n2 bf with bf | rfl
   ·exact nums z bf
   exact⟨⟨by have:=al.cap;omega,by have:=al.cap;omega⟩,al.du⟩
  ·have:=TS (sz:=bD.sz) (x:=l) bl;have:=al.sz;simp only[bd.sz];omega
  unfold bd.e;dsimp only;rw[jw];exact this
 by_cases e2:m=2
 ·obtain⟨d4,i,fr,hi,ep⟩:=dY b d3 4 cH (by omega);obtain⟨d5,v,rT,bt,jN⟩:=dY b d4 6 fr (by omega);obtain⟨y,bl⟩:=c0 (xs:=x.tokens) (i:=i.toNat) (by omega);have lh:(x.tokens.map b0.e)[i.toNat]?=some y.e:=by rw[dj,bl];rfl
  have:=agY ⟨bM,b2,cj,by simp[bE],by simp[e1],by simp[e2],agX ⟨ep,jN,⟨by omega,by omega⟩,hi.1,by omega,lh,aa⟩,aa⟩;refine⟨d5,⟨x.aF,x.az,x.bZ,x.tokens.set i.toNat ⟨y.going,v-1,y.sum,y.bS,y.dq⟩,x.news⟩,rT,⟨⟨uy,nums⟩,?_⟩,?_⟩
  ·simp only[bd.sz,e5];omega
  unfold bd.e;dsimp only;rw[jw];exact this
 by_cases cb:m=3
 ·obtain⟨d4,v,fr,bt,ep⟩:=kS b d3 [1000000,1000001,-1000001,3] cH (by simp);obtain⟨y,bl⟩:=c0 (xs:=x.tokens) (i:=0) (by omega);have lh:(x.tokens.map b0.e)[0]?=some y.e:=by rw[dj,bl];rfl
  have:=af9 ⟨bM,b2,cj,by simp[bE],by simp[e1],by simp[e2],by simp[cb],agZ ⟨ep,by decide,by omega,lh,aa⟩,aa⟩;refine⟨d4,⟨x.aF,x.az,x.bZ,x.tokens.set 0 ⟨y.going,y.place,v,y.bS,y.dq⟩,x.news⟩,fr,⟨⟨uy,nums⟩,?_⟩,?_⟩
  ·simp only[bd.sz,e5];omega
  unfold bd.e;dsimp only;rw[jw];exact this
 by_cases ef:m=4
 ·obtain⟨d4,u,fr,hu,ep⟩:=dY b d3 6 cH (by omega);obtain⟨d5,v,rT,bt,jN⟩:=dY b d4 6 fr (by omega);have NH:x.news.length<=8000:=by omega
  have:=agb ⟨bM,b2,cj,by simp[bE],by simp[e1],by simp[e2],by simp[cb],by simp[ef],aga ⟨ep,⟨by omega,by omega⟩,jN,⟨by omega,by omega⟩,by simp;omega,by simp;omega,dL (ca.flat ⟨u-1,v-1,false⟩),aa⟩,aa⟩;refine⟨d5,⟨x.aF,x.az,x.bZ,x.tokens,x.news++[⟨u-1,v-1,false⟩]⟩,rT,⟨⟨uy,nums⟩,?_⟩,?_⟩
  ·simp only[bd.sz,km,List.length_singleton];omega
  unfold bd.e;dsimp only;rw[hx];exact this
 by_cases gY:m=5
 ·obtain⟨d4,g,fr,au,ep⟩:=agm b d3 cH;have:=agc ⟨bM,b2,cj,by simp[bE],by simp[e1],by simp[e2],by simp[cb],by simp[ef],by simp[gY],ep,aa⟩;refine⟨d4,⟨g,x.az,x.bZ,x.tokens,x.news⟩,fr,⟨⟨⟨by dsimp only;omega,by dsimp only;omega⟩,nums⟩,?_⟩,this⟩;simp only[bd.sz];omega
 by_cases lJ:m=6
 ·have:=agd ⟨bM,b2,cj,by simp[bE],by simp[e1],by simp[e2],by simp[cb],by simp[ef],by simp[gY],by simp[lJ],by decide,by change (0:Int)<=3;decide,by change (3:Int)<=_;omega,aa⟩;refine⟨d3,⟨x.aF,x.az,x.bZ,x.tokens.take 3,x.news⟩,cH,⟨⟨uy,nums⟩,?_⟩,?_⟩
  ·simp only[bd.sz,oV];omega
  unfold bd.e;dsimp only;rw[q6];exact this
 exact⟨d3,x,cH,⟨⟨uy,nums⟩,by omega⟩,age ⟨bM,b2,cj,by simp[bE],by simp[e1],by simp[e2],by simp[cb],by simp[ef],by simp[gY],by simp[lJ],aa⟩⟩
