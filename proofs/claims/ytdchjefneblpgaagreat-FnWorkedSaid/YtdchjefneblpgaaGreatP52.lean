import Derived.Test.YtdchjefneblpgaaGreatP108
import Derived.Test.YtdchjefneblpgaaGreatP78
set_option linter.unusedVariables false
set_option linter.unusedSimpArgs false
namespace Go.Proofs.YtdchjefneblpgaaGreat
open Go.Sx Go.RowKit Go.Proofs.Tryz
theorem ahN(c:bb)(l:List c9)(al:c.sz+4*l.length<=8388608):
  cW prog (ao f15 0) (wO (l.map c9.e) 0 [] (c.aC.nodes.map Node.e) c.aC.ay c.aC.cap (c.ay.map aR.e) (c.bV.map bu.e) (c.tokens.map bW.e) (c.news.map b7.e) (cM c) 0 0) (.exit 0)
   (Kg ((dP c l).2.map cq) ((dP c l).1.aC.nodes.map Node.e) (dP c l).1.aC.ay (dP c l).1.aC.cap ((dP c l).1.ay.map aR.e) ((dP c l).1.bV.map bu.e) ((dP c l).1.tokens.map bW.e) ((dP c l).1.news.map b7.e) (cM (dP c l).1) 0 0):=by
 have ap:l.length<=8388608:=by omega
 have k:=eN (P:=prog) (c:=(ao f15 0)) (cH 0) l.length (fun i:Nat=>wO (l.map c9.e) i ((dP c (l.take i)).2.map cq) ((dP c (l.take i)).1.aC.nodes.map Node.e) (dP c (l.take i)).1.aC.ay (dP c (l.take i)).1.aC.cap ((dP c (l.take i)).1.ay.map aR.e) ((dP c (l.take i)).1.bV.map bu.e) ((dP c (l.take i)).1.tokens.map bW.e) ((dP c (l.take i)).1.news.map b7.e) (cM (dP c (l.take i)).1) 0 0) (fun i hi=>by
  obtain⟨p,hp⟩:=cS hi;have a8:=Kr (l.take i) c;have ai:=SL c l i;rw[SK c hp];dsimp only;rw[Kq];generalize dP c (l.take i)=o at*;exact afw ⟨b6 hi,bw,bE hi,bA c9.e hp,SF o.1 p (by omega),by grind,by grind,xU [(eB o.1 p).2],dc hi ap,aa⟩) (afx ⟨dz,aa⟩)
 rw[la]at k;exact k
theorem ahO(c:bb)(l:List c9)(al:c.sz+4*l.length<=8388608)(hw:gb c):ar 15 [.agg c.e,.one (.J 3 (l.map c9.e))] [.agg (dP c l).1.e,.one (.J 1 ((dP c l).2.map cq))]:=
 afy ⟨z6 c (by omega) hw,ahN c l al,aa⟩
def lC(c:bb):bb×Nat:=((dP c (nx c)).1,sn (dP c (nx c)).2)
theorem ahP{c d:bb}(h:d.aC=c.aC):nx d=nx c:=by grind[nx]
theorem Sm(c:bb):mx c (lC c).1:=Ks _ _
theorem Sn(c:bb):(lC c).1.sz<=c.sz+400:=by
 grind[DJ,nx,RT,lC]
theorem ahQ(c:bb)(l:List c9)(al:c.sz+4*l.length<=8388608):bT prog 131 [.ref (fb c) (fb (dP c l).1),.ro (.one (.J 3 (l.map c9.e)))] (.vals [.one (I (sn (dP c l).2))]):=by
 have ap:l.length<=8388608:=by omega
 have k:=eN (P:=prog) (c:=(ao f131 0)) (cH 0) l.length (fun i:Nat=>u3 (l.map c9.e) i (sn (dP c (l.take i)).2) ((dP c (l.take i)).1.aC.nodes.map Node.e) (dP c (l.take i)).1.aC.ay (dP c (l.take i)).1.aC.cap ((dP c (l.take i)).1.ay.map aR.e) ((dP c (l.take i)).1.bV.map bu.e) ((dP c (l.take i)).1.tokens.map bW.e) ((dP c (l.take i)).1.news.map b7.e) (cM (dP c (l.take i)).1)) (fun i hi=>by
  obtain⟨p,hp⟩:=cS hi;have a8:=Kr (l.take i) c;have aG:=ah0 (dP c (l.take i)).2;have ai:=SL c l i;have bU:=Kt i l;rw[SK c hp];dsimp only;rw[ah1];generalize dP c (l.take i)=o at*;have st:=SF o.1 p (by omega);cases aw:(eB o.1 p).2 with
  | true=>
   rw[aw]at st;exact agN ⟨b6 hi,bw,bE hi,bA c9.e hp,st,rfl,⟨by omega,by omega⟩,dc hi ap,aa⟩
  | false=>
   rw[aw]at st;exact agO ⟨b6 hi,bw,bE hi,bA c9.e hp,st,rfl,dc hi ap,aa⟩) (agP ⟨dz,aa⟩)
 rw[la]at k;exact agQ ⟨k,aa⟩
def gk:Nat->bb->Nat->bb×Nat
 | 0,c,k=>(c,k)
 | n+1,c,k=>if (lC c).2=0 then ((lC c).1,k+1) else gk n (lC c).1 (k+1)
def qC(c:bb)(uC:Int):bb×Nat:=gk (hs uC 0 3000).toNat c 0
theorem Sp:∀(n:Nat) (c:bb) (k:Nat),(gk n c k).1.sz<=c.sz+n*400
 | 0,c,k=>ga _
 | n+1,c,k=>by
  grind[Sn,Sp,lC,gk]
theorem Sq:∀(n:Nat) (c:bb) (k:Nat),mx c (gk n c k).1
 | 0,c,k=>.rfl
 | n+1,c,k=>by
  grind[gk,Sm,Sq]
theorem ahR{n:Nat}{c:bb}{k:Nat}(b5:¬(lC c).2=0):gk (n+1) c k=gk n (lC c).1 (k+1):=by
 simp_all[gk,bG]
theorem ahS(n:Int):∃k:Nat,hs n 0 3000=k/\k<=3000:=by
 refine⟨(hs n 0 3000).toNat,?_,?_⟩<;>(unfold hs;grind)
theorem Sr(m:Nat)(hm:m<=3000)(l:List c9):∀(n:Nat) (c:bb) (k:Nat),k+n=m->nx c=l->c.sz+n*400<=8388608->
  cW prog (ao f16 0) (tr (l.map c9.e) m ((k:Int)+1) (c.aC.nodes.map Node.e) c.aC.ay c.aC.cap (c.ay.map aR.e) (c.bV.map bu.e) (c.tokens.map bW.e) (c.news.map b7.e) (cM c) 0 0) .ret
    (Ke (gk n c k).2 ((gk n c k).1.aC.nodes.map Node.e) (gk n c k).1.aC.ay (gk n c k).1.aC.cap ((gk n c k).1.ay.map aR.e) ((gk n c k).1.bV.map bu.e) ((gk n c k).1.tokens.map bW.e) ((gk n c k).1.news.map b7.e))\/
  (gk n c k).2=m/\cW prog (ao f16 0) (tr (l.map c9.e) m ((k:Int)+1) (c.aC.nodes.map Node.e) c.aC.ay c.aC.cap (c.ay.map aR.e) (c.bV.map bu.e) (c.tokens.map bW.e) (c.news.map b7.e) (cM c) 0 0) (.exit 0)
    (Kf m ((gk n c k).1.aC.nodes.map Node.e) (gk n c k).1.aC.ay (gk n c k).1.aC.cap ((gk n c k).1.ay.map aR.e) ((gk n c k).1.bV.map bu.e) ((gk n c k).1.tokens.map bW.e) ((gk n c k).1.news.map b7.e) (cM (gk n c k).1) 0 0)
 | 0,c,k,hk,_,_=>.inr ⟨by grind[gk],.last (cH 0) (afs ⟨eL (by omega),aa⟩)⟩
 | n+1,c,k,hk,ap,al=>by
  have r:=ahQ c l (by grind[RT]);have ai:=Sn c;have av:=(Sm c).aC;have e1:lC c=((dP c l).1,sn (dP c l).2):=by grind[lC]
  by_cases b5:(lC c).2=0
  ·rw[show gk (n+1) c k=((lC c).1,k+1) by simp_all[gk,bM]];rw[e1]at b5 ⊢;exact .inl (.last e7 (afr ⟨dM (by omega),r,by grind,aa⟩))
  rw[ahR b5];have eH:=Sr m hm l n (lC c).1 (k+1) (by omega) ((ahP av).trans ap) (by omega);rw[e1]at b5 eH ⊢;rcases eH with eH | ⟨XZ,eH⟩
  ·exact .inl (.more (S9 ⟨dM (by omega),r,by grind,⟨by omega,by omega⟩,aa⟩) eH)
  exact .inr ⟨XZ,.more (S9 ⟨dM (by omega),r,by grind,⟨by omega,by omega⟩,aa⟩) eH⟩
theorem ahT(c:bb)(uC:Int)(al:c.sz+1200000<=8388608)(hw:gb c):ar 16 [.agg c.e,.one (I uC)] [.agg (qC c uC).1.e,.one (I (qC c uC).2)]:=by
 have b:=CV uC 0 3000;obtain⟨m,hm,aw⟩:=ahS uC;unfold qC;rw[hm]at b ⊢;rw[pP];rcases Sr m (by omega) (nx c) m c 0 (by omega) rfl (by omega) with k | ⟨c4,k⟩
 ·exact aft ⟨z6 c (by omega) hw,Rk c,b,k,aa⟩
 rw[c4];exact afu ⟨z6 c (by omega) hw,Rk c,b,k,aa⟩
end Go.Proofs.YtdchjefneblpgaaGreat
namespace Go.Proofs.YtdchjefneblpgaaGreat
open Go.Sx Go.RowKit Go.Proofs.Tryz
theorem Ss(l:bu)(r:aB):(e8 l r).1.cap=l.cap:=by grind[e8]
theorem St(l:bu):(ek l).1.cap=l.cap:=by
 grind[ek]
theorem Tm(l:bu):(fX l).1.cap=l.cap:=by grind[fX]
structure hU (c:bb):Prop where
 tok:c.tokens.length=4
 yM:1<=c.bV.length
 cap:∀l∈c.bV,1<=l.cap/\l.cap<=4
variable{c:bb}{i:Int}
theorem hU.dS{l m:bu}(h:hU c)(ap:gM c i=some l)(hm:m.cap=l.cap):hU (dS c i m):=by
 refine⟨h.tok,by change 1<=(c.bV.set i.toNat m).length;rw[gp];exact h.yM,fun x ak=>?_⟩;rcases pR ak with ak | rfl
 ·exact h.cap x ak
 rw[hm];exact h.cap l (eA (qp ap).2.2)
theorem hU.setW{x:aR}(h:hU c):hU (setW c i x):=⟨h.tok,h.yM,h.cap⟩
theorem hU.js{n:List b7}(h:hU c):hU (js c n):=⟨h.tok,h.yM,h.cap⟩
theorem hU.ef{t:bW}(h:hU c):hU (ef c i t):=⟨by change (c.tokens.set i.toNat t).length=4;rw[gp];exact h.tok,h.yM,h.cap⟩
theorem Step.Ae{d:bb}{p:c9}(st:Step c p d)(h:hU c):hU d:=by
 cases st with
 | work x r q hk ak ai aK=>exact h.setW
 | input x r t hk ak ai aK hi=>exact h.setW
 | fe x r t hk ak ai aZ=>exact h.setW
 | send x r t l hk ak ai aZ ap hsend=>exact (h.dS ap (Ss l r)).setW
 | take l x hk je ap ak bU=>exact (h.dS ap (St l)).setW
 | E8 l hk je ap al=>exact h.dS ap (Tm l)
 | token t x hf hk atZ b5 aG bU ak Wx=>
  rcases DK c p.a t x with⟨_,k⟩ | ⟨_,_,⟨_,k⟩ | ⟨_,_,k⟩ | ⟨_,_,_,k⟩ | ⟨_,_,_,k⟩⟩<;>rw[k]
  ·exact h
  ·exact h.ef.setW
  ·exact h.ef.setW
  ·exact h.ef.setW.js
  exact h.ef
 | FL k n x hk a8 aG ak=>exact h.setW.js
theorem ahU(h:hU c)(p:c9):hU (eB c p).1:=by
 rcases SQ c p with⟨_,k⟩ | ⟨_,_,st⟩
 ·grind
 exact st.Ae h
theorem Kx:∀(l:List c9) {c:bb},hU c->hU (dP c l).1
 | [],_,h=>h
 | p::l,_,h=>Kx l (ahU h p)
theorem Tn:∀(n:Nat) {c:bb} (k:Nat),hU c->hU (gk n c k).1
 | 0,_,_,h=>h
 | n+1,c,k,h=>by
  grind[hU,lC,Kx,nx,gk,Tn]
theorem To(n:Int):1<=hs n 1 4/\hs n 1 4<=4:=by
 grind[hs]
theorem ahV{g:bR}{xs:List aB}(h:m' g xs=true):hU (ky g xs):=by
 have a8:=nu (JQ.1 h).1;refine⟨by simp[ky],?_,fun l ap=>?_⟩
 ·unfold ky;rw[List.length_replicate];exact Nat.mul_pos (by omega) (by omega)
 rw[List.eq_of_mem_replicate ap];exact To g.cap
structure Vt (x:bb):Prop where
 aC:lg x.aC
 Ae:hU x
 dh:gb x
 sz:x.sz<=8000
 vx:x.ay.length=x.aC.ay.toNat
theorem ahW(b:List Int)(c:dC)(al:c.ok b):∃(d:dC) (x:bb),d.ok b/\Vt x/\bT prog 166 [.cur (c.e b) (d.e b)] (.vals [.agg x.e]):=by
 obtain⟨d1,g,cy,av,bK⟩:=Pm b c al;obtain⟨d2,xs,ca,ov,kf,b2⟩:=PQ b d1 cy;obtain⟨d3,cn,cC,Hp,_,cg⟩:=alw b d2 40 (by omega) ca;obtain⟨d4,f,ff,ed⟩:=CS b d3 4 cC (by omega);have a8:=aly av (by omega) kf;have ai:=av.size;have bk:=alx a8;have nw:=Pl g xs (by omega);rw[Im a8]at nw;have dh:=Po g xs;have hc:=ahO (ky g xs) cn (by omega) dh;have p':=DJ cn (ky g xs);have G8:=Ks cn (ky g xs);have TI:=Kx cn (ahV a8);have sF:(ky g xs).ay.length=g.ay.toNat:=Ik g xs _;have WI:(ky g xs).aC=g:=rfl;have c4:=G8.aC;have b8:=G8.dh dh;have fs:=G8.vx;rw[WI]at c4;rw[sF]at fs;generalize dP (ky g xs) cn=o at*;cases f with
 | false=>exact⟨d4,o.1,ff,⟨by grind,TI,b8,by omega,by grind⟩,age ⟨bK,b2,nw,Rr ⟨cg,hc,aa⟩,ed,rfl,aa⟩⟩
 | true=>
  obtain⟨d5,n,rD,aua,jq⟩:=dO b d4 12 ff (by omega);have cL:=ahT o.1 n (by omega) b8;have aw:(hs n 0 3000).toNat<=11:=by
   grind[hs]
  have XS:=Sp (hs n 0 3000).toNat o.1 0;have G6:=Sq (hs n 0 3000).toNat o.1 0;have f1:(qC o.1 n).1.aC=g:=G6.aC.trans c4;have f2:gb (qC o.1 n).1:=G6.dh b8;have f3:(qC o.1 n).1.ay.length=g.ay.toNat:=G6.vx.trans fs;have f4:(qC o.1 n).1.sz<=8000:=by grind[qC]
  have f5:hU (qC o.1 n).1:=Tn _ 0 TI;exact⟨d5,(qC o.1 n).1,rD,⟨by grind,f5,f2,f4,by grind⟩,agd ⟨bK,b2,nw,Rr ⟨cg,hc,aa⟩,ed,rfl,agc ⟨jq,cL,aa⟩,aa⟩⟩
structure A7 (n:Nat) (l:bu):Prop where
 sz:l.sz<=n
 cap:1<=l.cap/\l.cap<=4
 dh:l.dh<=9223372036854775807
theorem DO(b:List Int):∀(n i:Nat) (l:bu) (c:dC),i+n=8->c.ok b->A7 i l->
  ∃(m:bu) (d:dC),d.ok b/\A7 8 m/\cW prog (ao f327 0) (r1 (b.map hl) i l.cap (l.queue.map aB.e) l.eO l.back l.fg l.dh 0 0 0 0 0 c.i c.h) (.exit 0) (KF (b.map hl) m.cap (m.queue.map aB.e) m.eO m.back m.fg m.dh 0 0 0 0 0 d.i d.h)
 | n,i,l,c,mN,al,ap=>by
  obtain⟨d1,m,cy,aw,bK⟩:=dO b c 9 al (by omega);have bk:=ap.sz;by_cases h:(i:Int)<m
  ·match n with
   | 0=>omega
   | n+1=>
    obtain⟨d2,k,ca,hk,b2⟩:=dO b d1 4 cy (by omega);by_cases bB:k=0
    ·have z:=Rw l;obtain⟨ik,d,o,fa,e0⟩:=DO b n (i+1) (ek l).1 d2 (by omega) ca ⟨by omega,by rw[St];exact ap.cap,SI l ap.dh⟩;exact⟨ik,d,o,fa,.more (aeL ⟨bK,kh h,b2,by simp[bB],Ti l (by omega),⟨by omega,by omega⟩,aa⟩) e0⟩
    by_cases e1:k=1
    ·have z:=Rx l;obtain⟨ik,d,o,fa,e0⟩:=DO b n (i+1) (fX l).1 d2 (by omega) ca ⟨by omega,by rw[Tm];exact ap.cap,SH l ap.dh⟩;exact⟨ik,d,o,fa,.more (aeM ⟨bK,kh h,b2,by simp[bB],by simp[e1],Tj l (by omega),⟨by omega,by omega⟩,aa⟩) e0⟩
    obtain⟨d3,r,cC,aH,cg⟩:=CU b d2 ca;have z:=Rv l r;obtain⟨ik,d,o,fa,e0⟩:=DO b n (i+1) (e8 l r).1 d3 (by omega) cC ⟨by omega,by rw[Ss];exact ap.cap,SG l r ap.dh⟩;exact⟨ik,d,o,fa,.more (aeO ⟨bK,kh h,b2,by simp[bB],by simp[e1],aeN ⟨cg,Th l r (by omega),aa⟩,⟨by omega,by omega⟩,aa⟩) e0⟩
  exact⟨l,d1,cy,⟨by omega,ap.cap,ap.dh⟩,.last (cH 0) (aeP ⟨bK,mv h,aa⟩)⟩
theorem ahX(b:List Int)(c:dC)(al:c.ok b):∃(d:dC) (l:bu),d.ok b/\A7 8 l/\bT prog 327 [.cur (c.e b) (d.e b)] (.vals [.agg l.e]):=by
 obtain⟨d1,n,cy,a8,bK⟩:=dO b c 4 al (by omega);obtain⟨l,d,o,fa,e0⟩:=DO b 8 0 (pz (1+n)) d1 rfl cy ⟨by simp[pz,bu.sz],To _,by simp[pz]⟩;exact⟨d,l,o,fa,aeQ ⟨bK,⟨by omega,by omega⟩,PU (1+n),e0,aa⟩⟩
theorem ahY(b:List Int)(c:dC)(al:c.ok b):∃(d:dC) (l:bu),d.ok b/\A7 9 l/\bT prog 278 [.cur (c.e b) (d.e b)] (.vals [.agg l.e]):=by
 obtain⟨d1,l,cy,⟨bk,fS,sA⟩,bK⟩:=ahX b c al;obtain⟨d2,k,ca,hk,b2⟩:=dO b d1 14 cy (by omega);have kX:l.queue.length<=8:=bk;by_cases bB:k=0
 ·obtain⟨d3,v,cC,bz,cg⟩:=dO b d2 6 ca (by omega);exact⟨d3,⟨l.cap,l.queue,v-1,l.back,l.fg,l.dh⟩,cC,⟨Nat.le_succ_of_le bk,fS,sA⟩,aeR ⟨bK,b2,by simp[bB],cg,⟨by omega,by omega⟩,aa⟩⟩
 by_cases e1:k=1
 ·obtain⟨d3,v,cC,bz,cg⟩:=dO b d2 6 ca (by omega);exact⟨d3,⟨l.cap,l.queue,l.eO,v-1,l.fg,l.dh⟩,cC,⟨Nat.le_succ_of_le bk,fS,sA⟩,aeS ⟨bK,b2,by simp[bB],by simp[e1],cg,⟨by omega,by omega⟩,aa⟩⟩
 by_cases e2:k=2
 ·obtain⟨d3,v,cC,bz,cg⟩:=kx b d2 [-1,0,1000000000,1000000001] ca (by simp);exact⟨d3,⟨l.cap,l.queue,l.eO,l.back,v,l.dh⟩,cC,⟨Nat.le_succ_of_le bk,fS,sA⟩,aeT ⟨bK,b2,by simp[bB],by simp[e1],by simp[e2],cg,aa⟩⟩
 by_cases cb:k=3
 ·obtain⟨d3,r,cC,aH,cg⟩:=Pq b d2 ca;have:=aeV ⟨bK,b2,by simp[bB],by simp[e1],by simp[e2],by simp[cb],aeU ⟨cg,by simp;omega,by simp;omega,Fh r,aa⟩,aa⟩;refine⟨d3,⟨l.cap,l.queue++[r],l.eO,l.back,l.fg,l.dh⟩,cC,⟨by grind[bu.sz],fS,sA⟩,?_⟩;unfold bu.e;dsimp only;rw[gY];exact this
 by_cases d':k=4
 ·have v':((l.queue.map aB.e).length:Int)=l.queue.length:=by simp
  have:=aeW ⟨bK,b2,by simp[bB],by simp[e1],by simp[e2],by simp[cb],by simp[d'],⟨by omega,by omega⟩,aa⟩;rw[v']at this;exact⟨d2,⟨l.cap,l.queue,l.eO,l.back,1000000000,1000000000-(l.queue.length:Int)⟩,ca,⟨Nat.le_succ_of_le bk,fS,by grind⟩,this⟩
 exact⟨d2,l,ca,⟨by omega,fS,sA⟩,aeX ⟨bK,b2,by simp[bB],by simp[e1],by simp[e2],by simp[cb],by simp[d'],aa⟩⟩
end Go.Proofs.YtdchjefneblpgaaGreat
namespace Go.Proofs.YtdchjefneblpgaaGreat
open Go.Sx Go.RowKit Go.Proofs.Tryz
theorem ahZ(b:List Int)(c:dC)(g:bR)(al:c.ok b)(av:g.nodes.length<=1000):∃(d:dC) (r:aB),d.ok b/\(0<=r.bp.bc/\r.bp.bc<=3)/\bT prog 350 [.cur (c.e b) (d.e b),.ro (.agg g.e)] (.vals [.agg r.e]):=by
 obtain⟨d1,r,cy,⟨_,U,_,_,_⟩,bK⟩:=CU b c al;have v':((g.nodes.map Node.e).length:Int)=g.nodes.length:=by simp
 by_cases b5:0<g.nodes.length
 ·have aG:decide (((g.nodes.map Node.e).length:Int)>0)=true:=dM (by omega);obtain⟨d2,k,ca,hk,b2⟩:=dO b d1 (g.nodes.length:Int) cy (by omega);rw[<-v']at b2;obtain⟨d3,x,cC,cg⟩:=CS b d2 4 ca (by omega);cases x with
  | true=>
   obtain⟨d4,t,ff,bU,ed⟩:=dO b d3 2 cC (by omega);exact⟨d4,⟨k,⟨r.bp.bc,5+t⟩,r.key,r.val⟩,ff,by grind,aeY ⟨bK,aG,b2,cg,rfl,ed,⟨by omega,by omega⟩,aa⟩⟩
  | false=>exact⟨d3,⟨k,r.bp,r.key,r.val⟩,cC,by grind,aep ⟨bK,aG,b2,cg,rfl,aa⟩⟩
 have aG:decide (((g.nodes.map Node.e).length:Int)>0)=false:=eL (by omega);obtain⟨d3,x,cC,cg⟩:=CS b d1 4 cy (by omega);cases x with
 | true=>
  obtain⟨d4,t,ff,bU,ed⟩:=dO b d3 2 cC (by omega);exact⟨d4,⟨r.op,⟨r.bp.bc,5+t⟩,r.key,r.val⟩,ff,by grind,aeq ⟨bK,aG,cg,rfl,ed,⟨by omega,by omega⟩,aa⟩⟩
 | false=>exact⟨d3,r,cC,by omega,aer ⟨bK,aG,cg,rfl,aa⟩⟩
structure qS (i:Nat) (w:aR):Prop where
 sz:w.sz<=40+2*i
 bF:w.bF.length=4
 bO:w.bO.length=4
 xS:∀k:Nat,-(i:Int)<=w.bF.getD k 0/\w.bF.getD k 0<=0
theorem qS.mono{i:Nat}{w v:aR}(h:qS i w)(ai:v.sz<=w.sz+2)(h1:v.bF=w.bF)(U:v.bO=w.bO):qS (i+1) v:=by
 refine⟨by have:=h.sz;omega,by rw[h1];exact h.bF,by rw[U];exact h.bO,fun k=>?_⟩;rw[h1];have:=h.xS k;omega
theorem qS.h6{i:Nat}{w:aR}{r:aB}(h:qS i w)(he:0<=r.bp.bc/\r.bp.bc<=3):qS (i+1) (h6 w r):=by
 have aI:=h.bF;refine⟨?_,?_,?_,fun k=>?_⟩
 ·have:=Si w r;have:=h.sz;omega
 ·unfold Go.Proofs.YtdchjefneblpgaaGreat.h6 lr;dsimp only;rw[gp];exact aI
 ·unfold Go.Proofs.YtdchjefneblpgaaGreat.h6;dsimp only;rw[gp];exact h.bO
 unfold Go.Proofs.YtdchjefneblpgaaGreat.h6 lr;dsimp only;by_cases hk:r.bp.bc.toNat=k
 ·subst hk;rw[SU (by omega)];have:=h.xS r.bp.bc.toNat;omega
 rw[DL hk];have:=h.xS k;omega
theorem ahq(g:bR)(w:aR):(ec g w).1.bF=w.bF/\(ec g w).1.bO=w.bO:=by
 grind[SN]
theorem ahr(g:bR)(w:aR):(eo g w).1.bF=w.bF/\(eo g w).1.bO=w.bO:=by
 grind[SO]
theorem wP(b:List Int)(g:bR)(av:g.sz<=1000):∀(n i:Nat) (w:aR) (c:dC),i+n=7->c.ok b->qS i w->
  ∃(v:aR) (d:dC),d.ok b/\qS 7 v/\cW prog (ao f326 0) (pG (b.map hl) i (w.queue.map aB.e) (w.ch.map aB.e) (w.b3.map aB.e) (w.cells.map Cell.e) (w.bF.map a6) (w.bO.map cq) (w.br.map cq) (w.bZ.map cw.e) (g.nodes.map Node.e) g.ay g.cap c.i c.h) (.exit 0)
   (KK (b.map hl) (v.queue.map aB.e) (v.ch.map aB.e) (v.b3.map aB.e) (v.cells.map Cell.e) (v.bF.map a6) (v.bO.map cq) (v.br.map cq) (v.bZ.map cw.e) d.i d.h)
 | n,i,w,c,mN,al,hw=>by
  obtain⟨d1,m,cy,aw,bK⟩:=dO b c 8 al (by omega);have bk:=hw.sz;have WM:g.nodes.length<=1000:=by have:=wW (sz:=Node.sz) (xs:=g.nodes) (m:=1000) av;exact this
  by_cases h:(i:Int)<m
  ·match n with
   | 0=>omega
   | n+1=>
    obtain⟨d2,k,ca,hk,b2⟩:=dO b d1 5 cy (by omega);by_cases bB:k=0
    ·have z:=Sg g w;obtain⟨q1,l'⟩:=ahr g w;obtain⟨ik,d,o,fa,e0⟩:=wP b g av n (i+1) (eo g w).1 d2 (by omega) ca (hw.mono (by omega) q1 l');exact⟨ik,d,o,fa,.more (aes ⟨bK,kh h,b2,by simp[bB],aip g w (by omega) (by omega),⟨by omega,by omega⟩,aa⟩) e0⟩
    by_cases e1:k=1
    ·obtain⟨d3,r,cC,he,cg⟩:=ahZ b d2 g ca WM;obtain⟨ik,d,o,fa,e0⟩:=wP b g av n (i+1) (h6 w r) d3 (by omega) cC (hw.h6 he);have atN:=hw.xS r.bp.bc.toNat;have asb:=aim w r (by omega) hw.bF hw.bO he ⟨by omega,by omega⟩;exact⟨ik,d,o,fa,.more (aeu ⟨bK,kh h,b2,by simp[bB],by simp[e1],aet ⟨cg,asb,aa⟩,⟨by omega,by omega⟩,aa⟩) e0⟩
    by_cases e2:k=2
    ·have nV:w.ch=[]\/∃r t,w.ch=r::t:=by
      cases w.ch with
      | nil=>grind
      | cons r t=>grind
     rcases nV with eP | ⟨r,t0,eP⟩
     ·obtain⟨ik,d,o,fa,e0⟩:=wP b g av n (i+1) w d2 (by omega) ca (hw.mono (by omega) rfl rfl);have us:=aio w (by omega) eP;exact⟨ik,d,o,fa,.more (Rp ⟨bK,kh h,b2,by simp[bB],by simp[e1],by simp[e2],us,⟨by omega,by omega⟩,aa⟩) e0⟩
     have z:=Sh eP;obtain⟨ik,d,o,fa,e0⟩:=wP b g av n (i+1) (jI w t0) d2 (by omega) ca (hw.mono (by omega) rfl rfl);have us:=ain w r t0 (by omega) eP;exact⟨ik,d,o,fa,.more (Rp ⟨bK,kh h,b2,by simp[bB],by simp[e1],by simp[e2],us,⟨by omega,by omega⟩,aa⟩) e0⟩
    have z:=JN g w;obtain⟨q1,l'⟩:=ahq g w;obtain⟨ik,d,o,fa,e0⟩:=wP b g av n (i+1) (ec g w).1 d2 (by omega) ca (hw.mono (by omega) q1 l');exact⟨ik,d,o,fa,.more (aev ⟨bK,kh h,b2,by simp[bB],by simp[e1],by simp[e2],SM g w (by omega) (by omega),⟨by omega,by omega⟩,aa⟩) e0⟩
  refine⟨w,d1,cy,⟨by omega,hw.bF,hw.bO,fun k=>?_⟩,.last (cH 0) (aew ⟨bK,mv h,aa⟩)⟩;have:=hw.xS k;omega
theorem ahs(b:List Int)(c:dC)(g:bR)(av:g.sz<=1000)(al:c.ok b):∃(d:dC) (w:aR),d.ok b/\qS 7 w/\bT prog 326 [.cur (c.e b) (d.e b),.ro (.agg g.e)] (.vals [.agg w.e]):=by
 obtain⟨d1,xs,cy,ov,kf,bK⟩:=PQ b c al;obtain⟨w,d,o,fa,e0⟩:=wP b g av 7 0 (rS xs) d1 rfl cy (by
  refine⟨by grind[rS,aR.sz],by simp[rS],by simp[rS],fun k=>?_⟩;grind[rS,List,Int])
 exact⟨d,w,o,fa,aex ⟨bK,Pk xs (by omega),e0,aa⟩⟩
theorem aht(v:Bool):Flat [[B v]]:=fV (by grind)
theorem ahu(b:List Int)(c:dC)(g:bR)(av:g.sz<=1000)(al:c.ok b):∃(d:dC) (w:aR),d.ok b/\w.sz<=100/\bT prog 277 [.cur (c.e b) (d.e b),.ro (.agg g.e)] (.vals [.agg w.e]):=by
 obtain⟨d1,w,cy,hw,bK⟩:=ahs b c g av al;obtain⟨d2,k,ca,hk,b2⟩:=dO b d1 16 cy (by omega);have bk:=hw.sz;have aI:=hw.bF;have G1:=bk;simp only[aR.sz]at G1;have aut:w.queue.length<=1000:=by omega
 by_cases bB:k=0
 ·obtain⟨d3,r,cC,aH,cg⟩:=Pq b d2 ca;have:=afZ ⟨bK,b2,by simp[bB],aey ⟨cg,by simp;omega,by simp;omega,Fh r,aa⟩,aa⟩;refine⟨d3,⟨w.queue++[r],w.ch,w.b3,w.cells,w.bF,w.bO,w.br,w.bZ⟩,cC,by grind[aR.sz],?_⟩;unfold aR.e;dsimp only;rw[gY];exact this
 by_cases e1:k=1
 ·obtain⟨d3,r,cC,aH,cg⟩:=CU b d2 ca;have:=af1 ⟨bK,b2,by simp[bB],by simp[e1],af0 ⟨cg,by simp;omega,by simp;omega,Fh r,aa⟩,aa⟩;refine⟨d3,⟨w.queue,w.ch,w.b3++[r],w.cells,w.bF,w.bO,w.br,w.bZ⟩,cC,by grind[aR.sz],?_⟩;unfold aR.e;dsimp only;rw[gY];exact this
 by_cases e2:k=2
 ·obtain⟨d3,v,cC,bz,cg⟩:=dO b d2 4 ca (by omega);have v':((w.bF.map a6).length:Int)=4:=by simp[aI]
  have:=af3 ⟨bK,b2,by simp[bB],by simp[e1],by simp[e2],af2 ⟨cg,by decide,bz.1,by grind,aa⟩,aa⟩;refine⟨d3,⟨w.queue,w.ch,w.b3,w.cells,w.bF.take v.toNat,w.bO,w.br,w.bZ⟩,cC,by grind[aR.sz],?_⟩;unfold aR.e;dsimp only;rw[qQ];exact this
 by_cases cb:k=3
 ·obtain⟨d3,v,cC,bz,cg⟩:=kx b d2 [1000000,1000001,-1000001] ca (by simp);obtain⟨y,bD⟩:=cS (xs:=w.bF) (i:=0) (by omega);have kY:(w.bF.map a6)[0]?=some [I y]:=by rw[dr,bD];rfl
  have:=af5 ⟨bK,b2,by simp[bB],by simp[e1],by simp[e2],by simp[cb],af4 ⟨cg,by decide,by simp[aI],kY,aa⟩,aa⟩;refine⟨d3,⟨w.queue,w.ch,w.b3,w.cells,w.bF.set 0 v,w.bO,w.br,w.bZ⟩,cC,by grind[aR.sz],?_⟩;unfold aR.e;dsimp only;rw[ju];exact this
 by_cases d':k=4
 ·obtain⟨d3,v,cC,bz,cg⟩:=dO b d2 6 ca (by omega);have:=af7 ⟨bK,b2,by simp[bB],by simp[e1],by simp[e2],by simp[cb],by simp[d'],af6 ⟨cg,⟨by omega,by omega⟩,by simp;omega,by simp;omega,fV (cw.flat ⟨v-1,false⟩),aa⟩,aa⟩;refine⟨d3,⟨w.queue,w.ch,w.b3,w.cells,w.bF,w.bO,w.br,w.bZ++[⟨v-1,false⟩]⟩,cC,by grind[aR.sz],?_⟩;unfold aR.e;dsimp only;rw[gY];exact this
 by_cases g':k=5
 ·obtain⟨d3,v,cC,bz,cg⟩:=dO b d2 2 ca (by omega);have:=af8 ⟨bK,b2,by simp[bB],by simp[e1],by simp[e2],by simp[cb],by simp[d'],by simp[g'],cg,aa⟩;exact⟨d3,⟨w.queue,w.ch,w.b3,w.cells,w.bF,w.bO,w.br,[⟨1,false⟩,⟨v,true⟩]⟩,cC,by grind[aR.sz],this⟩
 by_cases ll:k=6
 ·have:=af9 ⟨bK,b2,by simp[bB],by simp[e1],by simp[e2],by simp[cb],by simp[d'],by simp[g'],by simp[ll],by simp;omega,by simp;omega,aht true,aa⟩;refine⟨d2,⟨w.queue,w.ch,w.b3,w.cells,w.bF,w.bO++[true],w.br,w.bZ⟩,ca,by grind[aR.sz],?_⟩;unfold aR.e;dsimp only;rw[gY];exact this
 by_cases nL:k=7
 ·have:=aga ⟨bK,b2,by simp[bB],by simp[e1],by simp[e2],by simp[cb],by simp[d'],by simp[g'],by simp[ll],by simp[nL],by simp;omega,by simp;omega,fV (Cell.flat ⟨0,0,0,0⟩),aa⟩;refine⟨d2,⟨w.queue,w.ch,w.b3,w.cells++[⟨0,0,0,0⟩],w.bF,w.bO,w.br,w.bZ⟩,ca,by grind[aR.sz],?_⟩;unfold aR.e;dsimp only;rw[gY];exact this
 exact⟨d2,w,ca,by omega,agb ⟨bK,b2,by simp[bB],by simp[e1],by simp[e2],by simp[cb],by simp[d'],by simp[g'],by simp[ll],by simp[nL],aa⟩⟩
end Go.Proofs.YtdchjefneblpgaaGreat
namespace Go.Proofs.YtdchjefneblpgaaGreat
open Go.Sx Go.RowKit Go.Proofs.Tryz
theorem Tp{α:Type}{sz:α->Nat}{xs:List α}{i:Nat}{x y:α}(h:xs[i]?=some y):eZ sz (xs.set i x)<=eZ sz xs+sz x:=by
 have:=u0 (sz:=sz) x h;omega
theorem ahv(b:List Int)(c:dC)(al:c.ok b):∃(d:dC) (x:bb),d.ok b/\(A8 x/\x.sz<=8400)/\bT prog 185 [.cur (c.e b) (d.e b)] (.vals [.agg x.e]):=by
 obtain⟨d1,x,cy,tx,bK⟩:=ahW b c al;have bk:=tx.sz;have G1:=bk;simp only[bb.sz]at G1;have atW:=tx.aC.size;have WO:=tx.aC.ay;have sF:=tx.vx;have M6:=tx.Ae.yM;have yz:=tx.Ae.tok;have fS:=tx.Ae.cap;have sA:=tx.dh;have nums:∀l∈x.bV,aJ .i64 l.cap/\l.dh<=9223372036854775807:=fun l ap=>⟨⟨by have:=fS l ap;omega,by have:=fS l ap;omega⟩,sA l ap⟩
 have t':aJ .i64 x.aC.ay:=⟨by omega,by omega⟩
 have W':((x.ay.map aR.e).length:Int)=x.ay.length:=by simp
 have BN:((x.bV.map bu.e).length:Int)=x.bV.length:=by simp
 have bJ:((x.tokens.map bW.e).length:Int)=4:=by simp[yz]
 have at4:x.bV.length<=8000:=by have:=wW (sz:=bu.sz) (xs:=x.bV) (m:=8000) (by omega);exact this
 obtain⟨d2,k,ca,hk,b2⟩:=dO b d1 (x.ay.length:Int) cy (by omega);rw[<-W']at b2;obtain⟨d3,m,cC,hm,cg⟩:=dO b d2 20 ca (by omega);by_cases bB:m=0
 ·obtain⟨d4,w,ff,hw,ed⟩:=ahu b d3 x.aC (by omega) cC;obtain⟨y,bD⟩:=cS (xs:=x.ay) (i:=k.toNat) (by omega);have kY:(x.ay.map aR.e)[k.toNat]?=some y.e:=by rw[dr,bD];rfl
  have:=agh ⟨bK,b2,cg,by simp[bB],agf ⟨ed,hk.1,by omega,kY,aa⟩,aa⟩;refine⟨d4,⟨x.aC,x.ay.set k.toNat w,x.bV,x.tokens,x.news⟩,ff,⟨⟨t',nums⟩,?_⟩,?_⟩
  ·have:=Tp (sz:=aR.sz) (x:=w) bD;simp only[bb.sz];omega
  unfold bb.e;dsimp only;rw[ju];exact this
 by_cases e1:m=1
 ·obtain⟨d4,i,ff,hi,ed⟩:=dO b d3 (x.bV.length:Int) cC (by omega);rw[<-BN]at ed;obtain⟨d5,l,rD,ap,jq⟩:=ahY b d4 ff;obtain⟨y,bD⟩:=cS (xs:=x.bV) (i:=i.toNat) (by omega);have kY:(x.bV.map bu.e)[i.toNat]?=some y.e:=by rw[dr,bD];rfl
  have:=agj ⟨bK,b2,cg,by simp[bB],by simp[e1],agi ⟨ed,jq,hi.1,by omega,kY,aa⟩,aa⟩;refine⟨d5,⟨x.aC,x.ay,x.bV.set i.toNat l,x.tokens,x.news⟩,rD,⟨⟨t',fun z bk=>?_⟩,?_⟩,?_⟩
  ·rcases pR bk with bk | rfl
   ·exact nums z bk
   exact⟨⟨by have:=ap.cap;omega,by have:=ap.cap;omega⟩,ap.dh⟩
  ·have:=Tp (sz:=bu.sz) (x:=l) bD;have:=ap.sz;simp only[bb.sz];omega
  unfold bb.e;dsimp only;rw[ju];exact this
 by_cases e2:m=2
 ·obtain⟨d4,i,ff,hi,ed⟩:=dO b d3 4 cC (by omega);obtain⟨d5,v,rD,bz,jq⟩:=dO b d4 6 ff (by omega);obtain⟨y,bD⟩:=cS (xs:=x.tokens) (i:=i.toNat) (by omega);have kY:(x.tokens.map bW.e)[i.toNat]?=some y.e:=by rw[dr,bD];rfl
  have:=agl ⟨bK,b2,cg,by simp[bB],by simp[e1],by simp[e2],agk ⟨ed,jq,⟨by omega,by omega⟩,hi.1,by omega,kY,aa⟩,aa⟩;refine⟨d5,⟨x.aC,x.ay,x.bV,x.tokens.set i.toNat ⟨y.going,v-1,y.sum,y.bO,y.dm⟩,x.news⟩,rD,⟨⟨t',nums⟩,?_⟩,?_⟩
  ·simp only[bb.sz,gp];omega
  unfold bb.e;dsimp only;rw[ju];exact this
 by_cases cb:m=3
 ·obtain⟨d4,v,ff,bz,ed⟩:=kx b d3 [1000000,1000001,-1000001,3] cC (by simp);obtain⟨y,bD⟩:=cS (xs:=x.tokens) (i:=0) (by omega);have kY:(x.tokens.map bW.e)[0]?=some y.e:=by rw[dr,bD];rfl
  have:=agn ⟨bK,b2,cg,by simp[bB],by simp[e1],by simp[e2],by simp[cb],agm ⟨ed,by decide,by omega,kY,aa⟩,aa⟩;refine⟨d4,⟨x.aC,x.ay,x.bV,x.tokens.set 0 ⟨y.going,y.place,v,y.bO,y.dm⟩,x.news⟩,ff,⟨⟨t',nums⟩,?_⟩,?_⟩
  ·simp only[bb.sz,gp];omega
  unfold bb.e;dsimp only;rw[ju];exact this
 by_cases d':m=4
 ·obtain⟨d4,u,ff,hu,ed⟩:=dO b d3 6 cC (by omega);obtain⟨d5,v,rD,bz,jq⟩:=dO b d4 6 ff (by omega);have Nb:x.news.length<=8000:=by omega
  have:=agp ⟨bK,b2,cg,by simp[bB],by simp[e1],by simp[e2],by simp[cb],by simp[d'],ago ⟨ed,⟨by omega,by omega⟩,jq,⟨by omega,by omega⟩,by simp;omega,by simp;omega,fV (b7.flat ⟨u-1,v-1,false⟩),aa⟩,aa⟩;refine⟨d5,⟨x.aC,x.ay,x.bV,x.tokens,x.news++[⟨u-1,v-1,false⟩]⟩,rD,⟨⟨t',nums⟩,?_⟩,?_⟩
  ·simp only[bb.sz,kI,List.length_singleton];omega
  unfold bb.e;dsimp only;rw[gY];exact this
 by_cases g':m=5
 ·obtain⟨d4,g,ff,av,ed⟩:=afI b d3 cC;have:=afz ⟨bK,b2,cg,by simp[bB],by simp[e1],by simp[e2],by simp[cb],by simp[d'],by simp[g'],ed,aa⟩;refine⟨d4,⟨g,x.ay,x.bV,x.tokens,x.news⟩,ff,⟨⟨⟨by dsimp only;omega,by dsimp only;omega⟩,nums⟩,?_⟩,this⟩;simp only[bb.sz];omega
 by_cases ll:m=6
 ·have:=afA ⟨bK,b2,cg,by simp[bB],by simp[e1],by simp[e2],by simp[cb],by simp[d'],by simp[g'],by simp[ll],by decide,by change (0:Int)<=3;decide,by change (3:Int)<=_;omega,aa⟩;refine⟨d3,⟨x.aC,x.ay,x.bV,x.tokens.take 3,x.news⟩,cC,⟨⟨t',nums⟩,?_⟩,?_⟩
  ·simp only[bb.sz,tH];omega
  unfold bb.e;dsimp only;rw[qQ];exact this
 exact⟨d3,x,cC,⟨⟨t',nums⟩,by omega⟩,afB ⟨bK,b2,cg,by simp[bB],by simp[e1],by simp[e2],by simp[cb],by simp[d'],by simp[g'],by simp[ll],aa⟩⟩
