import Derived.Test.YtdchjefneblpgaaGreatP108
import Derived.Test.YtdchjefneblpgaaGreatP78
set_option linter.unusedVariables false
set_option linter.unusedSimpArgs false
namespace Go.Proofs.YtdchjefneblpgaaGreat
open Go.Sx Go.RowKit Go.Proofs.Tryz
theorem ahJ(c:bb)(l:List c9)(al:c.sz+4*l.length<=8388608):
  cV prog (ao f15 0) (wN (l.map c9.e) 0 [] (c.aC.nodes.map Node.e) c.aC.ay c.aC.cap (c.ay.map aR.e) (c.bW.map bu.e) (c.tokens.map bV.e) (c.news.map b7.e) (cM c) 0 0) (.exit 0)
   (Kf ((dP c l).2.map cq) ((dP c l).1.aC.nodes.map Node.e) (dP c l).1.aC.ay (dP c l).1.aC.cap ((dP c l).1.ay.map aR.e) ((dP c l).1.bW.map bu.e) ((dP c l).1.tokens.map bV.e) ((dP c l).1.news.map b7.e) (cM (dP c l).1) 0 0):=by
 have ap:l.length<=8388608:=by omega
 have k:=eN (P:=prog) (c:=(ao f15 0)) (cH 0) l.length (fun i:Nat=>wN (l.map c9.e) i ((dP c (l.take i)).2.map cq) ((dP c (l.take i)).1.aC.nodes.map Node.e) (dP c (l.take i)).1.aC.ay (dP c (l.take i)).1.aC.cap ((dP c (l.take i)).1.ay.map aR.e) ((dP c (l.take i)).1.bW.map bu.e) ((dP c (l.take i)).1.tokens.map bV.e) ((dP c (l.take i)).1.news.map b7.e) (cM (dP c (l.take i)).1) 0 0) (fun i hi=>by
  obtain⟨p,hp⟩:=cS hi;have a8:=Kp (l.take i) c;have ai:=SK c l i;rw[SJ c hp];dsimp only;rw[Ko];generalize dP c (l.take i)=o at*;exact afs ⟨b6 hi,bw,bE hi,bA c9.e hp,SE o.1 p (by omega),by grind,by grind,xS [(eB o.1 p).2],dc hi ap,aa⟩) (aft ⟨dz,aa⟩)
 rw[k8]at k;exact k
theorem ahK(c:bb)(l:List c9)(al:c.sz+4*l.length<=8388608)(hw:gb c):ar 15 [.agg c.e,.one (.J 3 (l.map c9.e))] [.agg (dP c l).1.e,.one (.J 1 ((dP c l).2.map cq))]:=
 afu ⟨zZ c (by omega) hw,ahJ c l al,aa⟩
def lz(c:bb):bb×Nat:=((dP c (nv c)).1,sn (dP c (nv c)).2)
theorem ahL{c d:bb}(h:d.aC=c.aC):nv d=nv c:=by grind[nv]
theorem Kv(c:bb):mw c (lz c).1:=Kq _ _
theorem Sl(c:bb):(lz c).1.sz<=c.sz+400:=by
 grind[DH,nv,RR,lz]
theorem ahM(c:bb)(l:List c9)(al:c.sz+4*l.length<=8388608):bT prog 131 [.ref (fb c) (fb (dP c l).1),.ro (.one (.J 3 (l.map c9.e)))] (.vals [.one (I (sn (dP c l).2))]):=by
 have ap:l.length<=8388608:=by omega
 have k:=eN (P:=prog) (c:=(ao f131 0)) (cH 0) l.length (fun i:Nat=>u0 (l.map c9.e) i (sn (dP c (l.take i)).2) ((dP c (l.take i)).1.aC.nodes.map Node.e) (dP c (l.take i)).1.aC.ay (dP c (l.take i)).1.aC.cap ((dP c (l.take i)).1.ay.map aR.e) ((dP c (l.take i)).1.bW.map bu.e) ((dP c (l.take i)).1.tokens.map bV.e) ((dP c (l.take i)).1.news.map b7.e) (cM (dP c (l.take i)).1)) (fun i hi=>by
  obtain⟨p,hp⟩:=cS hi;have a8:=Kp (l.take i) c;have aG:=ahW (dP c (l.take i)).2;have ai:=SK c l i;have bU:=Kr i l;rw[SJ c hp];dsimp only;rw[ahX];generalize dP c (l.take i)=o at*;have st:=SE o.1 p (by omega);cases aw:(eB o.1 p).2 with
  | true=>
   rw[aw]at st;exact agJ ⟨b6 hi,bw,bE hi,bA c9.e hp,st,rfl,⟨by omega,by omega⟩,dc hi ap,aa⟩
  | false=>
   rw[aw]at st;exact agK ⟨b6 hi,bw,bE hi,bA c9.e hp,st,rfl,dc hi ap,aa⟩) (agL ⟨dz,aa⟩)
 rw[k8]at k;exact agM ⟨k,aa⟩
def gk:Nat->bb->Nat->bb×Nat
 | 0,c,k=>(c,k)
 | n+1,c,k=>if (lz c).2=0 then ((lz c).1,k+1) else gk n (lz c).1 (k+1)
def qC(c:bb)(uA:Int):bb×Nat:=gk (hq uA 0 3000).toNat c 0
theorem Sm:∀(n:Nat) (c:bb) (k:Nat),(gk n c k).1.sz<=c.sz+n*400
 | 0,c,k=>ga _
 | n+1,c,k=>by
  have h1:=Sl c;have U:=Sm n (lz c).1 (k+1);unfold gk;split
  ·dsimp only;omega
  omega
theorem Sn:∀(n:Nat) (c:bb) (k:Nat),mw c (gk n c k).1
 | 0,c,k=>.rfl
 | n+1,c,k=>by
  unfold gk;split
  ·exact Kv c
  exact (Kv c).trans (Sn n _ _)
theorem ahN{n:Nat}{c:bb}{k:Nat}(b5:¬(lz c).2=0):gk (n+1) c k=gk n (lz c).1 (k+1):=by
 simp_all[gk,bG]
theorem ahO(n:Int):∃k:Nat,hq n 0 3000=k/\k<=3000:=by
 refine⟨(hq n 0 3000).toNat,?_,?_⟩<;>(unfold hq;grind)
theorem Sp(m:Nat)(hm:m<=3000)(l:List c9):∀(n:Nat) (c:bb) (k:Nat),k+n=m->nv c=l->c.sz+n*400<=8388608->
  cV prog (ao f16 0) (tq (l.map c9.e) m ((k:Int)+1) (c.aC.nodes.map Node.e) c.aC.ay c.aC.cap (c.ay.map aR.e) (c.bW.map bu.e) (c.tokens.map bV.e) (c.news.map b7.e) (cM c) 0 0) .ret
    (Kd (gk n c k).2 ((gk n c k).1.aC.nodes.map Node.e) (gk n c k).1.aC.ay (gk n c k).1.aC.cap ((gk n c k).1.ay.map aR.e) ((gk n c k).1.bW.map bu.e) ((gk n c k).1.tokens.map bV.e) ((gk n c k).1.news.map b7.e))\/
  (gk n c k).2=m/\cV prog (ao f16 0) (tq (l.map c9.e) m ((k:Int)+1) (c.aC.nodes.map Node.e) c.aC.ay c.aC.cap (c.ay.map aR.e) (c.bW.map bu.e) (c.tokens.map bV.e) (c.news.map b7.e) (cM c) 0 0) (.exit 0)
    (Ke m ((gk n c k).1.aC.nodes.map Node.e) (gk n c k).1.aC.ay (gk n c k).1.aC.cap ((gk n c k).1.ay.map aR.e) ((gk n c k).1.bW.map bu.e) ((gk n c k).1.tokens.map bV.e) ((gk n c k).1.news.map b7.e) (cM (gk n c k).1) 0 0)
 | 0,c,k,hk,_,_=>.inr ⟨by grind[gk],.last (cH 0) (afo ⟨eL (by omega),aa⟩)⟩
 | n+1,c,k,hk,ap,al=>by
  have r:=ahM c l (by grind[RR]);have ai:=Sl c;have av:=(Kv c).aC;have e1:lz c=((dP c l).1,sn (dP c l).2):=by grind[lz]
  by_cases b5:(lz c).2=0
  ·rw[show gk (n+1) c k=((lz c).1,k+1) by simp_all[gk,bM]];rw[e1]at b5 ⊢;exact .inl (.last e7 (afn ⟨dM (by omega),r,by grind,aa⟩))
  rw[ahN b5];have eH:=Sp m hm l n (lz c).1 (k+1) (by omega) ((ahL av).trans ap) (by omega);rw[e1]at b5 eH ⊢;rcases eH with eH | ⟨XV,eH⟩
  ·exact .inl (.more (S7 ⟨dM (by omega),r,by grind,⟨by omega,by omega⟩,aa⟩) eH)
  exact .inr ⟨XV,.more (S7 ⟨dM (by omega),r,by grind,⟨by omega,by omega⟩,aa⟩) eH⟩
theorem ahP(c:bb)(uA:Int)(al:c.sz+1200000<=8388608)(hw:gb c):ar 16 [.agg c.e,.one (I uA)] [.agg (qC c uA).1.e,.one (I (qC c uA).2)]:=by
 have b:=CT uA 0 3000;obtain⟨m,hm,aw⟩:=ahO uA;unfold qC;rw[hm]at b ⊢;rw[pP];rcases Sp m (by omega) (nv c) m c 0 (by omega) rfl (by omega) with k | ⟨c4,k⟩
 ·exact afp ⟨zZ c (by omega) hw,Ri c,b,k,aa⟩
 rw[c4];exact afq ⟨zZ c (by omega) hw,Ri c,b,k,aa⟩
end Go.Proofs.YtdchjefneblpgaaGreat
namespace Go.Proofs.YtdchjefneblpgaaGreat
open Go.Sx Go.RowKit Go.Proofs.Tryz
theorem Sq(l:bu)(r:aB):(e8 l r).1.cap=l.cap:=by grind[e8]
theorem Sr(l:bu):(ek l).1.cap=l.cap:=by
 grind[ek]
theorem Tk(l:bu):(fX l).1.cap=l.cap:=by grind[fX]
structure hT (c:bb):Prop where
 tok:c.tokens.length=4
 yK:1<=c.bW.length
 cap:∀l∈c.bW,1<=l.cap/\l.cap<=4
variable{c:bb}{i:Int}
theorem hT.dS{l m:bu}(h:hT c)(ap:gL c i=some l)(hm:m.cap=l.cap):hT (dS c i m):=by
 refine⟨h.tok,by change 1<=(c.bW.set i.toNat m).length;rw[gp];exact h.yK,fun x ak=>?_⟩;rcases pR ak with ak | rfl
 ·exact h.cap x ak
 rw[hm];exact h.cap l (eA (qp ap).2.2)
theorem hT.setW{x:aR}(h:hT c):hT (setW c i x):=⟨h.tok,h.yK,h.cap⟩
theorem hT.jq{n:List b7}(h:hT c):hT (jq c n):=⟨h.tok,h.yK,h.cap⟩
theorem hT.ef{t:bV}(h:hT c):hT (ef c i t):=⟨by change (c.tokens.set i.toNat t).length=4;rw[gp];exact h.tok,h.yK,h.cap⟩
theorem Step.Ac{d:bb}{p:c9}(st:Step c p d)(h:hT c):hT d:=by
 cases st with
 | work x r q hk ak ai aK=>exact h.setW
 | input x r t hk ak ai aK hi=>exact h.setW
 | fe x r t hk ak ai aZ=>exact h.setW
 | send x r t l hk ak ai aZ ap hsend=>exact (h.dS ap (Sq l r)).setW
 | take l x hk hU ap ak bU=>exact (h.dS ap (Sr l)).setW
 | E7 l hk hU ap al=>exact h.dS ap (Tk l)
 | token t x hc hk atZ b5 aG bU ak Wt=>
  rcases DI c p.a t x with⟨_,k⟩ | ⟨_,_,⟨_,k⟩ | ⟨_,_,k⟩ | ⟨_,_,_,k⟩ | ⟨_,_,_,k⟩⟩<;>rw[k]
  ·exact h
  ·exact h.ef.setW
  ·exact h.ef.setW
  ·exact h.ef.setW.jq
  exact h.ef
 | FK k n x hk a8 aG ak=>exact h.setW.jq
theorem ahQ(h:hT c)(p:c9):hT (eB c p).1:=by
 rcases SP c p with⟨_,k⟩ | ⟨_,_,st⟩
 ·grind
 exact st.Ac h
theorem Kw:∀(l:List c9) {c:bb},hT c->hT (dP c l).1
 | [],_,h=>h
 | p::l,_,h=>Kw l (ahQ h p)
theorem Tl:∀(n:Nat) {c:bb} (k:Nat),hT c->hT (gk n c k).1
 | 0,_,_,h=>h
 | n+1,c,k,h=>by
  have h1:hT (lz c).1:=Kw (nv c) h;unfold gk;split
  ·exact h1
  exact Tl n (k+1) h1
theorem Tm(n:Int):1<=hq n 1 4/\hq n 1 4<=4:=by
 grind[hq]
theorem ahR{g:bR}{xs:List aB}(h:mZ g xs=true):hT (ky g xs):=by
 have a8:=nt (JP.1 h).1;refine⟨by simp[ky],?_,fun l ap=>?_⟩
 ·unfold ky;rw[List.length_replicate];exact Nat.mul_pos (by omega) (by omega)
 rw[List.eq_of_mem_replicate ap];exact Tm g.cap
structure Vs (x:bb):Prop where
 aC:lb x.aC
 Ac:hT x
 dh:gb x
 sz:x.sz<=8000
 vv:x.ay.length=x.aC.ay.toNat
theorem ahS(b:List Int)(c:dC)(al:c.ok b):∃(d:dC) (x:bb),d.ok b/\Vs x/\bT prog 166 [.cur (c.e b) (d.e b)] (.vals [.agg x.e]):=by
 obtain⟨d1,g,cy,av,bK⟩:=Pk b c al;obtain⟨d2,xs,ca,ou,kf,b2⟩:=PN b d1 cy;obtain⟨d3,cn,cC,Ho,_,cf⟩:=alr b d2 40 (by omega) ca;obtain⟨d4,f,ff,ed⟩:=CQ b d3 4 cC (by omega);have a8:=alu av (by omega) kf;have ai:=av.size;have bl:=als a8;have nw:=Pj g xs (by omega);rw[Il a8]at nw;have dh:=Pm g xs;have ha:=ahK (ky g xs) cn (by omega) dh;have p':=DH cn (ky g xs);have G7:=Kq cn (ky g xs);have TG:=Kw cn (ahR a8);have sF:(ky g xs).ay.length=g.ay.toNat:=Ij g xs _;have WD:(ky g xs).aC=g:=rfl;have c4:=G7.aC;have b8:=G7.dh dh;have fs:=G7.vv;rw[WD]at c4;rw[sF]at fs;generalize dP (ky g xs) cn=o at*;cases f with
 | false=>exact⟨d4,o.1,ff,⟨by grind,TG,b8,by omega,by grind⟩,aga ⟨bK,b2,nw,Rp ⟨cf,ha,aa⟩,ed,rfl,aa⟩⟩
 | true=>
  obtain⟨d5,n,rD,aua,jn⟩:=dO b d4 12 ff (by omega);have cL:=ahP o.1 n (by omega) b8;have aw:(hq n 0 3000).toNat<=11:=by
   grind[hq]
  have XO:=Sm (hq n 0 3000).toNat o.1 0;have G5:=Sn (hq n 0 3000).toNat o.1 0;have f1:(qC o.1 n).1.aC=g:=G5.aC.trans c4;have f2:gb (qC o.1 n).1:=G5.dh b8;have f3:(qC o.1 n).1.ay.length=g.ay.toNat:=G5.vv.trans fs;have f4:(qC o.1 n).1.sz<=8000:=by grind[qC]
  have f5:hT (qC o.1 n).1:=Tl _ 0 TG;exact⟨d5,(qC o.1 n).1,rD,⟨by grind,f5,f2,f4,by grind⟩,af9 ⟨bK,b2,nw,Rp ⟨cf,ha,aa⟩,ed,rfl,af8 ⟨jn,cL,aa⟩,aa⟩⟩
structure A5 (n:Nat) (l:bu):Prop where
 sz:l.sz<=n
 cap:1<=l.cap/\l.cap<=4
 dh:l.dh<=9223372036854775807
theorem DM(b:List Int):∀(n i:Nat) (l:bu) (c:dC),i+n=8->c.ok b->A5 i l->
  ∃(m:bu) (d:dC),d.ok b/\A5 8 m/\cV prog (ao f327 0) (r1 (b.map hh) i l.cap (l.queue.map aB.e) l.eO l.back l.fg l.dh 0 0 0 0 0 c.i c.h) (.exit 0) (KE (b.map hh) m.cap (m.queue.map aB.e) m.eO m.back m.fg m.dh 0 0 0 0 0 d.i d.h)
 | n,i,l,c,mM,al,ap=>by
  obtain⟨d1,m,cy,aw,bK⟩:=dO b c 9 al (by omega);have bl:=ap.sz;by_cases h:(i:Int)<m
  ·match n with
   | 0=>omega
   | n+1=>
    obtain⟨d2,k,ca,hk,b2⟩:=dO b d1 4 cy (by omega);by_cases bB:k=0
    ·have z:=Ru l;obtain⟨ik,d,o,fa,e0⟩:=DM b n (i+1) (ek l).1 d2 (by omega) ca ⟨by omega,by rw[Sr];exact ap.cap,SH l ap.dh⟩;exact⟨ik,d,o,fa,.more (aeH ⟨bK,kh h,b2,by simp[bB],Tg l (by omega),⟨by omega,by omega⟩,aa⟩) e0⟩
    by_cases e1:k=1
    ·have z:=Rv l;obtain⟨ik,d,o,fa,e0⟩:=DM b n (i+1) (fX l).1 d2 (by omega) ca ⟨by omega,by rw[Tk];exact ap.cap,SG l ap.dh⟩;exact⟨ik,d,o,fa,.more (aeI ⟨bK,kh h,b2,by simp[bB],by simp[e1],Th l (by omega),⟨by omega,by omega⟩,aa⟩) e0⟩
    obtain⟨d3,r,cC,aH,cf⟩:=CS b d2 ca;have z:=Rt l r;obtain⟨ik,d,o,fa,e0⟩:=DM b n (i+1) (e8 l r).1 d3 (by omega) cC ⟨by omega,by rw[Sq];exact ap.cap,SF l r ap.dh⟩;exact⟨ik,d,o,fa,.more (aeK ⟨bK,kh h,b2,by simp[bB],by simp[e1],aeJ ⟨cf,Tf l r (by omega),aa⟩,⟨by omega,by omega⟩,aa⟩) e0⟩
  exact⟨l,d1,cy,⟨by omega,ap.cap,ap.dh⟩,.last (cH 0) (aeL ⟨bK,mu h,aa⟩)⟩
theorem ahT(b:List Int)(c:dC)(al:c.ok b):∃(d:dC) (l:bu),d.ok b/\A5 8 l/\bT prog 327 [.cur (c.e b) (d.e b)] (.vals [.agg l.e]):=by
 obtain⟨d1,n,cy,a8,bK⟩:=dO b c 4 al (by omega);obtain⟨l,d,o,fa,e0⟩:=DM b 8 0 (pz (1+n)) d1 rfl cy ⟨by simp[pz,bu.sz],Tm _,by simp[pz]⟩;exact⟨d,l,o,fa,aeM ⟨bK,⟨by omega,by omega⟩,PS (1+n),e0,aa⟩⟩
theorem ahU(b:List Int)(c:dC)(al:c.ok b):∃(d:dC) (l:bu),d.ok b/\A5 9 l/\bT prog 278 [.cur (c.e b) (d.e b)] (.vals [.agg l.e]):=by
 obtain⟨d1,l,cy,⟨bl,fS,sA⟩,bK⟩:=ahT b c al;obtain⟨d2,k,ca,hk,b2⟩:=dO b d1 14 cy (by omega);have kU:l.queue.length<=8:=bl;by_cases bB:k=0
 ·obtain⟨d3,v,cC,bz,cf⟩:=dO b d2 6 ca (by omega);exact⟨d3,⟨l.cap,l.queue,v-1,l.back,l.fg,l.dh⟩,cC,⟨Nat.le_succ_of_le bl,fS,sA⟩,aeN ⟨bK,b2,by simp[bB],cf,⟨by omega,by omega⟩,aa⟩⟩
 by_cases e1:k=1
 ·obtain⟨d3,v,cC,bz,cf⟩:=dO b d2 6 ca (by omega);exact⟨d3,⟨l.cap,l.queue,l.eO,v-1,l.fg,l.dh⟩,cC,⟨Nat.le_succ_of_le bl,fS,sA⟩,aeO ⟨bK,b2,by simp[bB],by simp[e1],cf,⟨by omega,by omega⟩,aa⟩⟩
 by_cases e2:k=2
 ·obtain⟨d3,v,cC,bz,cf⟩:=kx b d2 [-1,0,1000000000,1000000001] ca (by simp);exact⟨d3,⟨l.cap,l.queue,l.eO,l.back,v,l.dh⟩,cC,⟨Nat.le_succ_of_le bl,fS,sA⟩,aeP ⟨bK,b2,by simp[bB],by simp[e1],by simp[e2],cf,aa⟩⟩
 by_cases cb:k=3
 ·obtain⟨d3,r,cC,aH,cf⟩:=Po b d2 ca;have:=aeR ⟨bK,b2,by simp[bB],by simp[e1],by simp[e2],by simp[cb],aeQ ⟨cf,by simp;omega,by simp;omega,Fg r,aa⟩,aa⟩;refine⟨d3,⟨l.cap,l.queue++[r],l.eO,l.back,l.fg,l.dh⟩,cC,⟨by grind[bu.sz],fS,sA⟩,?_⟩;unfold bu.e;dsimp only;rw[hy];exact this
 by_cases d':k=4
 ·have v7:((l.queue.map aB.e).length:Int)=l.queue.length:=by simp
  have:=aeS ⟨bK,b2,by simp[bB],by simp[e1],by simp[e2],by simp[cb],by simp[d'],⟨by omega,by omega⟩,aa⟩;rw[v7]at this;exact⟨d2,⟨l.cap,l.queue,l.eO,l.back,1000000000,1000000000-(l.queue.length:Int)⟩,ca,⟨Nat.le_succ_of_le bl,fS,by grind⟩,this⟩
 exact⟨d2,l,ca,⟨by omega,fS,sA⟩,aeT ⟨bK,b2,by simp[bB],by simp[e1],by simp[e2],by simp[cb],by simp[d'],aa⟩⟩
end Go.Proofs.YtdchjefneblpgaaGreat
namespace Go.Proofs.YtdchjefneblpgaaGreat
open Go.Sx Go.RowKit Go.Proofs.Tryz
theorem ahV(b:List Int)(c:dC)(g:bR)(al:c.ok b)(av:g.nodes.length<=1000):∃(d:dC) (r:aB),d.ok b/\(0<=r.bp.bc/\r.bp.bc<=3)/\bT prog 350 [.cur (c.e b) (d.e b),.ro (.agg g.e)] (.vals [.agg r.e]):=by
 obtain⟨d1,r,cy,⟨_,U,_,_,_⟩,bK⟩:=CS b c al;have v7:((g.nodes.map Node.e).length:Int)=g.nodes.length:=by simp
 by_cases b5:0<g.nodes.length
 ·have aG:decide (((g.nodes.map Node.e).length:Int)>0)=true:=dM (by omega);obtain⟨d2,k,ca,hk,b2⟩:=dO b d1 (g.nodes.length:Int) cy (by omega);rw[<-v7]at b2;obtain⟨d3,x,cC,cf⟩:=CQ b d2 4 ca (by omega);cases x with
  | true=>
   obtain⟨d4,t,ff,bU,ed⟩:=dO b d3 2 cC (by omega);exact⟨d4,⟨k,⟨r.bp.bc,5+t⟩,r.key,r.val⟩,ff,by grind,aeU ⟨bK,aG,b2,cf,rfl,ed,⟨by omega,by omega⟩,aa⟩⟩
  | false=>exact⟨d3,⟨k,r.bp,r.key,r.val⟩,cC,by grind,ael ⟨bK,aG,b2,cf,rfl,aa⟩⟩
 have aG:decide (((g.nodes.map Node.e).length:Int)>0)=false:=eL (by omega);obtain⟨d3,x,cC,cf⟩:=CQ b d1 4 cy (by omega);cases x with
 | true=>
  obtain⟨d4,t,ff,bU,ed⟩:=dO b d3 2 cC (by omega);exact⟨d4,⟨r.op,⟨r.bp.bc,5+t⟩,r.key,r.val⟩,ff,by grind,aem ⟨bK,aG,cf,rfl,ed,⟨by omega,by omega⟩,aa⟩⟩
 | false=>exact⟨d3,r,cC,by omega,aen ⟨bK,aG,cf,rfl,aa⟩⟩
structure qS (i:Nat) (w:aR):Prop where
 sz:w.sz<=40+2*i
 bF:w.bF.length=4
 bO:w.bO.length=4
 xQ:∀k:Nat,-(i:Int)<=w.bF.getD k 0/\w.bF.getD k 0<=0
theorem qS.mono{i:Nat}{w v:aR}(h:qS i w)(ai:v.sz<=w.sz+2)(h1:v.bF=w.bF)(U:v.bO=w.bO):qS (i+1) v:=by
 refine⟨by have:=h.sz;omega,by rw[h1];exact h.bF,by rw[U];exact h.bO,fun k=>?_⟩;rw[h1];have:=h.xQ k;omega
theorem qS.h6{i:Nat}{w:aR}{r:aB}(h:qS i w)(he:0<=r.bp.bc/\r.bp.bc<=3):qS (i+1) (h6 w r):=by
 have aJ:=h.bF;refine⟨?_,?_,?_,fun k=>?_⟩
 ·have:=Sg w r;have:=h.sz;omega
 ·unfold Go.Proofs.YtdchjefneblpgaaGreat.h6 lo;dsimp only;rw[gp];exact aJ
 ·unfold Go.Proofs.YtdchjefneblpgaaGreat.h6;dsimp only;rw[gp];exact h.bO
 unfold Go.Proofs.YtdchjefneblpgaaGreat.h6 lo;dsimp only;by_cases hk:r.bp.bc.toNat=k
 ·subst hk;rw[SS (by omega)];have:=h.xQ r.bp.bc.toNat;omega
 rw[DJ hk];have:=h.xQ k;omega
theorem ahm(g:bR)(w:aR):(ec g w).1.bF=w.bF/\(ec g w).1.bO=w.bO:=by
 grind[SM]
theorem ahn(g:bR)(w:aR):(eo g w).1.bF=w.bF/\(eo g w).1.bO=w.bO:=by
 grind[SN]
theorem wP(b:List Int)(g:bR)(av:g.sz<=1000):∀(n i:Nat) (w:aR) (c:dC),i+n=7->c.ok b->qS i w->
  ∃(v:aR) (d:dC),d.ok b/\qS 7 v/\cV prog (ao f326 0) (pG (b.map hh) i (w.queue.map aB.e) (w.cg.map aB.e) (w.b3.map aB.e) (w.cells.map Cell.e) (w.bF.map a6) (w.bO.map cq) (w.br.map cq) (w.bZ.map cw.e) (g.nodes.map Node.e) g.ay g.cap c.i c.h) (.exit 0)
   (KJ (b.map hh) (v.queue.map aB.e) (v.cg.map aB.e) (v.b3.map aB.e) (v.cells.map Cell.e) (v.bF.map a6) (v.bO.map cq) (v.br.map cq) (v.bZ.map cw.e) d.i d.h)
 | n,i,w,c,mM,al,hw=>by
  obtain⟨d1,m,cy,aw,bK⟩:=dO b c 8 al (by omega);have bl:=hw.sz;have WI:g.nodes.length<=1000:=by have:=wV (sz:=Node.sz) (xs:=g.nodes) (m:=1000) av;exact this
  by_cases h:(i:Int)<m
  ·match n with
   | 0=>omega
   | n+1=>
    obtain⟨d2,k,ca,hk,b2⟩:=dO b d1 5 cy (by omega);by_cases bB:k=0
    ·have z:=Se g w;obtain⟨q1,l7⟩:=ahn g w;obtain⟨ik,d,o,fa,e0⟩:=wP b g av n (i+1) (eo g w).1 d2 (by omega) ca (hw.mono (by omega) q1 l7);exact⟨ik,d,o,fa,.more (aeo ⟨bK,kh h,b2,by simp[bB],ail g w (by omega) (by omega),⟨by omega,by omega⟩,aa⟩) e0⟩
    by_cases e1:k=1
    ·obtain⟨d3,r,cC,he,cf⟩:=ahV b d2 g ca WI;obtain⟨ik,d,o,fa,e0⟩:=wP b g av n (i+1) (h6 w r) d3 (by omega) cC (hw.h6 he);have atN:=hw.xQ r.bp.bc.toNat;have ar7:=aii w r (by omega) hw.bF hw.bO he ⟨by omega,by omega⟩;exact⟨ik,d,o,fa,.more (aeq ⟨bK,kh h,b2,by simp[bB],by simp[e1],aep ⟨cf,ar7,aa⟩,⟨by omega,by omega⟩,aa⟩) e0⟩
    by_cases e2:k=2
    ·have nU:w.cg=[]\/∃r t,w.cg=r::t:=by
      cases w.cg with
      | nil=>grind
      | cons r t=>grind
     rcases nU with eP | ⟨r,t0,eP⟩
     ·obtain⟨ik,d,o,fa,e0⟩:=wP b g av n (i+1) w d2 (by omega) ca (hw.mono (by omega) rfl rfl);have us:=aik w (by omega) eP;exact⟨ik,d,o,fa,.more (Rn ⟨bK,kh h,b2,by simp[bB],by simp[e1],by simp[e2],us,⟨by omega,by omega⟩,aa⟩) e0⟩
     have z:=Sf eP;obtain⟨ik,d,o,fa,e0⟩:=wP b g av n (i+1) (jH w t0) d2 (by omega) ca (hw.mono (by omega) rfl rfl);have us:=aij w r t0 (by omega) eP;exact⟨ik,d,o,fa,.more (Rn ⟨bK,kh h,b2,by simp[bB],by simp[e1],by simp[e2],us,⟨by omega,by omega⟩,aa⟩) e0⟩
    have z:=JM g w;obtain⟨q1,l7⟩:=ahm g w;obtain⟨ik,d,o,fa,e0⟩:=wP b g av n (i+1) (ec g w).1 d2 (by omega) ca (hw.mono (by omega) q1 l7);exact⟨ik,d,o,fa,.more (aer ⟨bK,kh h,b2,by simp[bB],by simp[e1],by simp[e2],SL g w (by omega) (by omega),⟨by omega,by omega⟩,aa⟩) e0⟩
  refine⟨w,d1,cy,⟨by omega,hw.bF,hw.bO,fun k=>?_⟩,.last (cH 0) (aes ⟨bK,mu h,aa⟩)⟩;have:=hw.xQ k;omega
theorem aho(b:List Int)(c:dC)(g:bR)(av:g.sz<=1000)(al:c.ok b):∃(d:dC) (w:aR),d.ok b/\qS 7 w/\bT prog 326 [.cur (c.e b) (d.e b),.ro (.agg g.e)] (.vals [.agg w.e]):=by
 obtain⟨d1,xs,cy,ou,kf,bK⟩:=PN b c al;obtain⟨w,d,o,fa,e0⟩:=wP b g av 7 0 (rS xs) d1 rfl cy (by
  refine⟨by grind[rS,aR.sz],by simp[rS],by simp[rS],fun k=>?_⟩;grind[rS,List,Int])
 exact⟨d,w,o,fa,aet ⟨bK,Ph xs (by omega),e0,aa⟩⟩
theorem ahp(v:Bool):Flat [[B v]]:=fV (by grind)
theorem ahq(b:List Int)(c:dC)(g:bR)(av:g.sz<=1000)(al:c.ok b):∃(d:dC) (w:aR),d.ok b/\w.sz<=100/\bT prog 277 [.cur (c.e b) (d.e b),.ro (.agg g.e)] (.vals [.agg w.e]):=by
 obtain⟨d1,w,cy,hw,bK⟩:=aho b c g av al;obtain⟨d2,k,ca,hk,b2⟩:=dO b d1 16 cy (by omega);have bl:=hw.sz;have aJ:=hw.bF;have G0:=bl;simp only[aR.sz]at G0;have aut:w.queue.length<=1000:=by omega
 by_cases bB:k=0
 ·obtain⟨d3,r,cC,aH,cf⟩:=Po b d2 ca;have:=afV ⟨bK,b2,by simp[bB],aeu ⟨cf,by simp;omega,by simp;omega,Fg r,aa⟩,aa⟩;refine⟨d3,⟨w.queue++[r],w.cg,w.b3,w.cells,w.bF,w.bO,w.br,w.bZ⟩,cC,by grind[aR.sz],?_⟩;unfold aR.e;dsimp only;rw[hy];exact this
 by_cases e1:k=1
 ·obtain⟨d3,r,cC,aH,cf⟩:=CS b d2 ca;have:=afX ⟨bK,b2,by simp[bB],by simp[e1],afW ⟨cf,by simp;omega,by simp;omega,Fg r,aa⟩,aa⟩;refine⟨d3,⟨w.queue,w.cg,w.b3++[r],w.cells,w.bF,w.bO,w.br,w.bZ⟩,cC,by grind[aR.sz],?_⟩;unfold aR.e;dsimp only;rw[hy];exact this
 by_cases e2:k=2
 ·obtain⟨d3,v,cC,bz,cf⟩:=dO b d2 4 ca (by omega);have v7:((w.bF.map a6).length:Int)=4:=by simp[aJ]
  have:=afZ ⟨bK,b2,by simp[bB],by simp[e1],by simp[e2],afY ⟨cf,by decide,bz.1,by grind,aa⟩,aa⟩;refine⟨d3,⟨w.queue,w.cg,w.b3,w.cells,w.bF.take v.toNat,w.bO,w.br,w.bZ⟩,cC,by grind[aR.sz],?_⟩;unfold aR.e;dsimp only;rw[qQ];exact this
 by_cases cb:k=3
 ·obtain⟨d3,v,cC,bz,cf⟩:=kx b d2 [1000000,1000001,-1000001] ca (by simp);obtain⟨y,bD⟩:=cS (xs:=w.bF) (i:=0) (by omega);have kV:(w.bF.map a6)[0]?=some [I y]:=by rw[dr,bD];rfl
  have:=af1 ⟨bK,b2,by simp[bB],by simp[e1],by simp[e2],by simp[cb],af0 ⟨cf,by decide,by simp[aJ],kV,aa⟩,aa⟩;refine⟨d3,⟨w.queue,w.cg,w.b3,w.cells,w.bF.set 0 v,w.bO,w.br,w.bZ⟩,cC,by grind[aR.sz],?_⟩;unfold aR.e;dsimp only;rw[js];exact this
 by_cases d':k=4
 ·obtain⟨d3,v,cC,bz,cf⟩:=dO b d2 6 ca (by omega);have:=af3 ⟨bK,b2,by simp[bB],by simp[e1],by simp[e2],by simp[cb],by simp[d'],af2 ⟨cf,⟨by omega,by omega⟩,by simp;omega,by simp;omega,fV (cw.flat ⟨v-1,false⟩),aa⟩,aa⟩;refine⟨d3,⟨w.queue,w.cg,w.b3,w.cells,w.bF,w.bO,w.br,w.bZ++[⟨v-1,false⟩]⟩,cC,by grind[aR.sz],?_⟩;unfold aR.e;dsimp only;rw[hy];exact this
 by_cases gY:k=5
 ·obtain⟨d3,v,cC,bz,cf⟩:=dO b d2 2 ca (by omega);have:=af4 ⟨bK,b2,by simp[bB],by simp[e1],by simp[e2],by simp[cb],by simp[d'],by simp[gY],cf,aa⟩;exact⟨d3,⟨w.queue,w.cg,w.b3,w.cells,w.bF,w.bO,w.br,[⟨1,false⟩,⟨v,true⟩]⟩,cC,by grind[aR.sz],this⟩
 by_cases lh:k=6
 ·have:=af5 ⟨bK,b2,by simp[bB],by simp[e1],by simp[e2],by simp[cb],by simp[d'],by simp[gY],by simp[lh],by simp;omega,by simp;omega,ahp true,aa⟩;refine⟨d2,⟨w.queue,w.cg,w.b3,w.cells,w.bF,w.bO++[true],w.br,w.bZ⟩,ca,by grind[aR.sz],?_⟩;unfold aR.e;dsimp only;rw[hy];exact this
 by_cases nK:k=7
 ·have:=af6 ⟨bK,b2,by simp[bB],by simp[e1],by simp[e2],by simp[cb],by simp[d'],by simp[gY],by simp[lh],by simp[nK],by simp;omega,by simp;omega,fV (Cell.flat ⟨0,0,0,0⟩),aa⟩;refine⟨d2,⟨w.queue,w.cg,w.b3,w.cells++[⟨0,0,0,0⟩],w.bF,w.bO,w.br,w.bZ⟩,ca,by grind[aR.sz],?_⟩;unfold aR.e;dsimp only;rw[hy];exact this
 exact⟨d2,w,ca,by omega,af7 ⟨bK,b2,by simp[bB],by simp[e1],by simp[e2],by simp[cb],by simp[d'],by simp[gY],by simp[lh],by simp[nK],aa⟩⟩
end Go.Proofs.YtdchjefneblpgaaGreat
namespace Go.Proofs.YtdchjefneblpgaaGreat
open Go.Sx Go.RowKit Go.Proofs.Tryz
theorem Tn{α:Type}{sz:α->Nat}{xs:List α}{i:Nat}{x y:α}(h:xs[i]?=some y):eZ sz (xs.set i x)<=eZ sz xs+sz x:=by
 have:=uX (sz:=sz) x h;omega
theorem ahr(b:List Int)(c:dC)(al:c.ok b):∃(d:dC) (x:bb),d.ok b/\(A6 x/\x.sz<=8400)/\bT prog 185 [.cur (c.e b) (d.e b)] (.vals [.agg x.e]):=by
 obtain⟨d1,x,cy,tv,bK⟩:=ahS b c al;have bl:=tv.sz;have G0:=bl;simp only[bb.sz]at G0;have atW:=tv.aC.size;have WK:=tv.aC.ay;have sF:=tv.vv;have M4:=tv.Ac.yK;have yx:=tv.Ac.tok;have fS:=tv.Ac.cap;have sA:=tv.dh;have nums:∀l∈x.bW,aI .i64 l.cap/\l.dh<=9223372036854775807:=fun l ap=>⟨⟨by have:=fS l ap;omega,by have:=fS l ap;omega⟩,sA l ap⟩
 have tY:aI .i64 x.aC.ay:=⟨by omega,by omega⟩
 have W6:((x.ay.map aR.e).length:Int)=x.ay.length:=by simp
 have BL:((x.bW.map bu.e).length:Int)=x.bW.length:=by simp
 have bJ:((x.tokens.map bV.e).length:Int)=4:=by simp[yx]
 have at4:x.bW.length<=8000:=by have:=wV (sz:=bu.sz) (xs:=x.bW) (m:=8000) (by omega);exact this
 obtain⟨d2,k,ca,hk,b2⟩:=dO b d1 (x.ay.length:Int) cy (by omega);rw[<-W6]at b2;obtain⟨d3,m,cC,hm,cf⟩:=dO b d2 20 ca (by omega);by_cases bB:m=0
 ·obtain⟨d4,w,ff,hw,ed⟩:=ahq b d3 x.aC (by omega) cC;obtain⟨y,bD⟩:=cS (xs:=x.ay) (i:=k.toNat) (by omega);have kV:(x.ay.map aR.e)[k.toNat]?=some y.e:=by rw[dr,bD];rfl
  have:=agc ⟨bK,b2,cf,by simp[bB],agb ⟨ed,hk.1,by omega,kV,aa⟩,aa⟩;refine⟨d4,⟨x.aC,x.ay.set k.toNat w,x.bW,x.tokens,x.news⟩,ff,⟨⟨tY,nums⟩,?_⟩,?_⟩
  ·have:=Tn (sz:=aR.sz) (x:=w) bD;simp only[bb.sz];omega
  unfold bb.e;dsimp only;rw[js];exact this
 by_cases e1:m=1
 ·obtain⟨d4,i,ff,hi,ed⟩:=dO b d3 (x.bW.length:Int) cC (by omega);rw[<-BL]at ed;obtain⟨d5,l,rD,ap,jn⟩:=ahU b d4 ff;obtain⟨y,bD⟩:=cS (xs:=x.bW) (i:=i.toNat) (by omega);have kV:(x.bW.map bu.e)[i.toNat]?=some y.e:=by rw[dr,bD];rfl
  have:=age ⟨bK,b2,cf,by simp[bB],by simp[e1],agd ⟨ed,jn,hi.1,by omega,kV,aa⟩,aa⟩;refine⟨d5,⟨x.aC,x.ay,x.bW.set i.toNat l,x.tokens,x.news⟩,rD,⟨⟨tY,fun z bl=>?_⟩,?_⟩,?_⟩
  ·rcases pR bl with bl | rfl
   ·exact nums z bl
   exact⟨⟨by have:=ap.cap;omega,by have:=ap.cap;omega⟩,ap.dh⟩
  ·have:=Tn (sz:=bu.sz) (x:=l) bD;have:=ap.sz;simp only[bb.sz];omega
  unfold bb.e;dsimp only;rw[js];exact this
 by_cases e2:m=2
 ·obtain⟨d4,i,ff,hi,ed⟩:=dO b d3 4 cC (by omega);obtain⟨d5,v,rD,bz,jn⟩:=dO b d4 6 ff (by omega);obtain⟨y,bD⟩:=cS (xs:=x.tokens) (i:=i.toNat) (by omega);have kV:(x.tokens.map bV.e)[i.toNat]?=some y.e:=by rw[dr,bD];rfl
  have:=agh ⟨bK,b2,cf,by simp[bB],by simp[e1],by simp[e2],agf ⟨ed,jn,⟨by omega,by omega⟩,hi.1,by omega,kV,aa⟩,aa⟩;refine⟨d5,⟨x.aC,x.ay,x.bW,x.tokens.set i.toNat ⟨y.going,v-1,y.sum,y.bO,y.dm⟩,x.news⟩,rD,⟨⟨tY,nums⟩,?_⟩,?_⟩
  ·simp only[bb.sz,gp];omega
  unfold bb.e;dsimp only;rw[js];exact this
 by_cases cb:m=3
 ·obtain⟨d4,v,ff,bz,ed⟩:=kx b d3 [1000000,1000001,-1000001,3] cC (by simp);obtain⟨y,bD⟩:=cS (xs:=x.tokens) (i:=0) (by omega);have kV:(x.tokens.map bV.e)[0]?=some y.e:=by rw[dr,bD];rfl
  have:=agj ⟨bK,b2,cf,by simp[bB],by simp[e1],by simp[e2],by simp[cb],agi ⟨ed,by decide,by omega,kV,aa⟩,aa⟩;refine⟨d4,⟨x.aC,x.ay,x.bW,x.tokens.set 0 ⟨y.going,y.place,v,y.bO,y.dm⟩,x.news⟩,ff,⟨⟨tY,nums⟩,?_⟩,?_⟩
  ·simp only[bb.sz,gp];omega
  unfold bb.e;dsimp only;rw[js];exact this
 by_cases d':m=4
 ·obtain⟨d4,u,ff,hu,ed⟩:=dO b d3 6 cC (by omega);obtain⟨d5,v,rD,bz,jn⟩:=dO b d4 6 ff (by omega);have M':x.news.length<=8000:=by omega
  have:=agl ⟨bK,b2,cf,by simp[bB],by simp[e1],by simp[e2],by simp[cb],by simp[d'],agk ⟨ed,⟨by omega,by omega⟩,jn,⟨by omega,by omega⟩,by simp;omega,by simp;omega,fV (b7.flat ⟨u-1,v-1,false⟩),aa⟩,aa⟩;refine⟨d5,⟨x.aC,x.ay,x.bW,x.tokens,x.news++[⟨u-1,v-1,false⟩]⟩,rD,⟨⟨tY,nums⟩,?_⟩,?_⟩
  ·simp only[bb.sz,kH,List.length_singleton];omega
  unfold bb.e;dsimp only;rw[hy];exact this
 by_cases gY:m=5
 ·obtain⟨d4,g,ff,av,ed⟩:=afE b d3 cC;have:=afv ⟨bK,b2,cf,by simp[bB],by simp[e1],by simp[e2],by simp[cb],by simp[d'],by simp[gY],ed,aa⟩;refine⟨d4,⟨g,x.ay,x.bW,x.tokens,x.news⟩,ff,⟨⟨⟨by dsimp only;omega,by dsimp only;omega⟩,nums⟩,?_⟩,this⟩;simp only[bb.sz];omega
 by_cases lh:m=6
 ·have:=afw ⟨bK,b2,cf,by simp[bB],by simp[e1],by simp[e2],by simp[cb],by simp[d'],by simp[gY],by simp[lh],by decide,by change (0:Int)<=3;decide,by change (3:Int)<=_;omega,aa⟩;refine⟨d3,⟨x.aC,x.ay,x.bW,x.tokens.take 3,x.news⟩,cC,⟨⟨tY,nums⟩,?_⟩,?_⟩
  ·simp only[bb.sz,tF];omega
  unfold bb.e;dsimp only;rw[qQ];exact this
 exact⟨d3,x,cC,⟨⟨tY,nums⟩,by omega⟩,afx ⟨bK,b2,cf,by simp[bB],by simp[e1],by simp[e2],by simp[cb],by simp[d'],by simp[gY],by simp[lh],aa⟩⟩
