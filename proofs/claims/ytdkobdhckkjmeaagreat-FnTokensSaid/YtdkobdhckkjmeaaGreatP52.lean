import Derived.Test.YtdkobdhckkjmeaaGreatP72
import Derived.Test.YtdkobdhckkjmeaaGreatP43
import Derived.Test.YtdkobdhckkjmeaaGreatGX
import Derived.Test.YtdkobdhckkjmeaaGreatGW
import Derived.Test.YtdkobdhckkjmeaaGreatP108
import Derived.Test.YtdkobdhckkjmeaaGreatP78
import Derived.Test.YtdkobdhckkjmeaaGreatP61
set_option linter.unusedVariables false
set_option linter.unusedSimpArgs false
namespace Go.Proofs.YtdkobdhckkjmeaaGreat
open Go.Sx Go.RowKit Go.Proofs.Tryz
theorem qOS(c:Cluster)(l:List Pick)(hc:c.sz+4*l.length≤8388608):
  qam prog (qaa f18 0) (qgR (l.map Pick.e) 0 [] (c.graph.nodes.map Node.e) c.graph.workers c.graph.cap (c.workers.map Worker.e) (c.links.map Link.e) (c.tokens.map Token.e) (c.news.map News.e) (qai c) 0 0) (.exit 0)
   (qnA ((qah c l).2.map eB) ((qah c l).1.graph.nodes.map Node.e) (qah c l).1.graph.workers (qah c l).1.graph.cap ((qah c l).1.workers.map Worker.e) ((qah c l).1.links.map Link.e) ((qah c l).1.tokens.map Token.e) ((qah c l).1.news.map News.e) (qai (qah c l).1) 0 0):=by
 have hl:l.length≤8388608:=by omega
 have k:=qao (P:=prog) (c:=(qaa f18 0)) (qaf 0) l.length (fun i:Nat=>qgR (l.map Pick.e) i ((qah c (l.take i)).2.map eB) ((qah c (l.take i)).1.graph.nodes.map Node.e) (qah c (l.take i)).1.graph.workers (qah c (l.take i)).1.graph.cap ((qah c (l.take i)).1.workers.map Worker.e) ((qah c (l.take i)).1.links.map Link.e) ((qah c (l.take i)).1.tokens.map Token.e) ((qah c (l.take i)).1.news.map News.e) (qai (qah c (l.take i)).1) 0 0) (fun i hi=>by
  obtain⟨p,hp⟩:=qal hi;have hn:=qhU (l.take i) c;have hs:=qj6 c l i;rw[qj5 c hp];dsimp only;rw[qgC];generalize qah c (l.take i)=o at*;exact qNA ⟨lt1 hi,lt0,lt2 hi,qac Pick.e hp,qtK o.1 p (by omega),by simp[hn];omega,by simp[hn];omega,flatB [(stepPick o.1 p).2],up1 hi hl,trivial⟩) (qNB ⟨ge1,trivial⟩)
 rw[zC]at k;exact k
theorem qtM(c:Cluster)(l:List Pick)(hc:c.sz+4*l.length≤8388608)(hw:GotLe c):Rt 18 [.agg c.e,.one (.sl 3 (l.map Pick.e))] [.agg (qah c l).1.e,.one (.sl 1 ((qah c l).2.map eB))]:=
 qNC ⟨qnq c (by omega) hw,qOS c l hc,trivial⟩
def qa4(c:Cluster):Cluster×Nat:=((qah c (qaN c)).1,didOf (qah c (qaN c)).2)
theorem qOU{c d:Cluster}(h:d.graph=c.graph):qaN d=qaN c:=by unfold qaN;rw[h]
theorem qii(c:Cluster):Kept' c (qa4 c).1:=qgD _ _
theorem qnL(c:Cluster):(qa4 c).1.sz≤c.sz+400:=by
 have:=qhV (qaN c) c;have:=qng c;unfold qa4;dsimp only;omega
theorem qOV(c:Cluster)(l:List Pick)(hc:c.sz+4*l.length≤8388608):RetR prog 131 [.ref (runE c) (runE (qah c l).1),.ro (.one (.sl 3 (l.map Pick.e)))] (.vals [.one (I (didOf (qah c l).2))]):=by
 have hl:l.length≤8388608:=by omega
 have k:=qao (P:=prog) (c:=(qaa f131 0)) (qaf 0) l.length (fun i:Nat=>qfH (l.map Pick.e) i (didOf (qah c (l.take i)).2) ((qah c (l.take i)).1.graph.nodes.map Node.e) (qah c (l.take i)).1.graph.workers (qah c (l.take i)).1.graph.cap ((qah c (l.take i)).1.workers.map Worker.e) ((qah c (l.take i)).1.links.map Link.e) ((qah c (l.take i)).1.tokens.map Token.e) ((qah c (l.take i)).1.news.map News.e) (qai (qah c (l.take i)).1)) (fun i hi=>by
  obtain⟨p,hp⟩:=qal hi;have hn:=qhU (l.take i) c;have hd:=qsq (qah c (l.take i)).2;have hs:=qj6 c l i;have ht:=qgE i l;rw[qj5 c hp];dsimp only;rw[qsr];generalize qah c (l.take i)=o at*;have st:=qtK o.1 p (by omega);cases hb:(stepPick o.1 p).2 with
  | true=>
   rw[hb]at st;exact qOg ⟨lt1 hi,lt0,lt2 hi,qac Pick.e hp,st,rfl,⟨by omega,by omega⟩,up1 hi hl,trivial⟩
  | false=>
   rw[hb]at st;exact qOh ⟨lt1 hi,lt0,lt2 hi,qac Pick.e hp,st,rfl,up1 hi hl,trivial⟩) (qOi ⟨ge1,trivial⟩)
 rw[zC]at k;exact qOj ⟨k,trivial⟩
def qaD:Nat→Cluster→Nat→Cluster×Nat
 | 0,c,k=>(c,k)
 | n+1,c,k=>if (qa4 c).2=0 then ((qa4 c).1,k+1) else qaD n (qa4 c).1 (k+1)
def qcd(c:Cluster)(most:Int):Cluster×Nat:=qaD (qaU most 0 3000).toNat c 0
theorem qnM:∀(n:Nat) (c:Cluster) (k:Nat),(qaD n c k).1.sz≤c.sz+n*400
 | 0,c,k=>zO _
 | n+1,c,k=>by
  have h1:=qnL c;have h2:=qnM n (qa4 c).1 (k+1);unfold qaD;split
  ·dsimp only;omega
  ·omega
theorem qko:∀(n:Nat) (c:Cluster) (k:Nat),Kept' c (qaD n c k).1
 | 0,c,k=>.rfl
 | n+1,c,k=>by
  unfold qaD;split
  ·exact qii c
  ·exact (qii c).trans (qko n _ _)
theorem qtN{n:Nat}{c:Cluster}{k:Nat}(h0:¬(qa4 c).2=0):qaD (n+1) c k=qaD n (qa4 c).1 (k+1):=by
 conv=>lhs;unfold qaD
 rw[zo h0]
theorem qtO(n:Int):∃k:Nat,qaU n 0 3000=k∧k≤3000:=by
 refine⟨(qaU n 0 3000).toNat,?_,?_⟩<;>(unfold qaU;simp only[show ¬(3000:Int)<0 by omega,zci];split<;>(try split)<;>omega)
theorem nat0(n:Nat):((n:Int)==0)=decide (n=0):=by
 rw[Bool.eq_iff_iff];simp only[zE,zi];omega
theorem qtP(m:Nat)(hm:m≤3000)(l:List Pick):∀(n:Nat) (c:Cluster) (k:Nat),k+n=m→qaN c=l→c.sz+n*400≤8388608→
  qam prog (qaa f19 0) (qeB (l.map Pick.e) m ((k:Int)+1) (c.graph.nodes.map Node.e) c.graph.workers c.graph.cap (c.workers.map Worker.e) (c.links.map Link.e) (c.tokens.map Token.e) (c.news.map News.e) (qai c) 0 0) .ret
    (qny (qaD n c k).2 ((qaD n c k).1.graph.nodes.map Node.e) (qaD n c k).1.graph.workers (qaD n c k).1.graph.cap ((qaD n c k).1.workers.map Worker.e) ((qaD n c k).1.links.map Link.e) ((qaD n c k).1.tokens.map Token.e) ((qaD n c k).1.news.map News.e))∨
  (qaD n c k).2=m∧qam prog (qaa f19 0) (qeB (l.map Pick.e) m ((k:Int)+1) (c.graph.nodes.map Node.e) c.graph.workers c.graph.cap (c.workers.map Worker.e) (c.links.map Link.e) (c.tokens.map Token.e) (c.news.map News.e) (qai c) 0 0) (.exit 0)
    (qnz m ((qaD n c k).1.graph.nodes.map Node.e) (qaD n c k).1.graph.workers (qaD n c k).1.graph.cap ((qaD n c k).1.workers.map Worker.e) ((qaD n c k).1.links.map Link.e) ((qaD n c k).1.tokens.map Token.e) ((qaD n c k).1.news.map News.e) (qai (qaD n c k).1) 0 0)
 | 0,c,k,hk,_,_=>.inr ⟨by unfold qaD;omega,.last (qaf 0) (qNw ⟨dF (by omega),trivial⟩)⟩
 | n+1,c,k,hk,hl,hc=>by
  have r:=qOV c l (by have:=qng c;rw[hl]at this;omega);have hs:=qnL c;have hg:=(qii c).graph;have e1:qa4 c=((qah c l).1,didOf (qah c l).2):=by unfold qa4;rw[hl]
  by_cases h0:(qa4 c).2=0
  ·rw[show qaD (n+1) c k=((qa4 c).1,k+1) by unfold qaD;rw[zp h0]];rw[e1]at h0 ⊢;exact .inl (.last qaE (qNv ⟨dT (by omega),r,by rw[nat0];exact zap h0,trivial⟩))
  ·rw[qtN h0];have ih:=qtP m hm l n (qa4 c).1 (k+1) (by omega) ((qOU hg).trans hl) (by omega);rw[e1]at h0 ih ⊢;rcases ih with ih | ⟨ih1,ih⟩
   ·exact .inl (.more (qti ⟨dT (by omega),r,by rw[nat0];exact zt h0,⟨by omega,by omega⟩,trivial⟩) ih)
   ·exact .inr ⟨ih1,.more (qti ⟨dT (by omega),r,by rw[nat0];exact zt h0,⟨by omega,by omega⟩,trivial⟩) ih⟩
theorem qOX(c:Cluster)(most:Int)(hc:c.sz+1200000≤8388608)(hw:GotLe c):Rt 19 [.agg c.e,.one (I most)] [.agg (qcd c most).1.e,.one (I (qcd c most).2)]:=by
 have b:=qjt most 0 3000;obtain⟨m,hm,hb⟩:=qtO most;unfold qcd;rw[hm]at b ⊢;rw[zae];rcases qtP m (by omega) (qaN c) m c 0 (by omega) rfl (by omega) with k | ⟨k1,k⟩
 ·exact qNx ⟨qnq c (by omega) hw,qsI c,b,k,trivial⟩
 ·rw[k1];exact qNy ⟨qnq c (by omega) hw,qsI c,b,k,trivial⟩
end Go.Proofs.YtdkobdhckkjmeaaGreat
namespace Go.Proofs.YtdkobdhckkjmeaaGreat
open Go.Sx Go.RowKit Go.Proofs.Tryz
theorem sendOn_cap(l:Link)(r:Record):(qay l r).1.cap=l.cap:=by unfold qay;split<;>rfl
theorem takeFrom_cap(l:Link):(qaq l).1.cap=l.cap:=by
 unfold qaq;split
 ·split<;>rfl
 ·rfl
theorem creditBack_cap(l:Link):(qaQ l).1.cap=l.cap:=by unfold qaQ;split<;>rfl
structure Shp (c:Cluster):Prop where
 tok:c.tokens.length=4
 lnk:1≤c.links.length
 cap:∀l∈c.links,1≤l.cap∧l.cap≤4
theorem Shp.setL{c:Cluster}{i:Int}{l m:Link}(h:Shp c)(hl:lAt c i=some l)(hm:m.cap=l.cap):Shp (setL c i m):=by
 refine⟨h.tok,by change 1≤(c.links.set i.toNat m).length;rw[zn];exact h.lnk,fun x hx=>?_⟩;rcases zbf hx with hx | rfl
 ·exact h.cap x hx
 ·rw[hm];exact h.cap l (qag (qbl hl).2.2)
theorem Shp.setW{c:Cluster}{i:Int}{x:Worker}(h:Shp c):Shp (setW c i x):=⟨h.tok,h.lnk,h.cap⟩
theorem Shp.setN{c:Cluster}{n:List News}(h:Shp c):Shp (setN c n):=⟨h.tok,h.lnk,h.cap⟩
theorem Shp.setT{c:Cluster}{i:Int}{t:Token}(h:Shp c):Shp (setT c i t):=⟨by change (c.tokens.set i.toNat t).length=4;rw[zn];exact h.tok,h.lnk,h.cap⟩
theorem Step.shp{c d:Cluster}{p:Pick}(st:Step c p d)(h:Shp c):Shp d:=by
 cases st with
 | work x r q hk hx hs hq=>exact h.setW
 | input x r t hk hx hs hq hi=>exact h.setW
 | keep x r t hk hx hs ho=>exact h.setW
 | send x r t l hk hx hs ho hl hsend=>exact (h.setL hl (sendOn_cap l r)).setW
 | take l x hk hab hl hx ht=>exact (h.setL hl (takeFrom_cap l)).setW
 | credit l hk hab hl hc=>exact h.setL hl (creditBack_cap l)
 | token t x x0 hk hin' h0 hd ht hx hdid=>
  rcases qcY c p.a t x with⟨_,k⟩ | ⟨_,_,⟨_,k⟩ | ⟨_,_,k⟩ | ⟨_,_,_,k⟩ | ⟨_,_,_,k⟩⟩<;>rw[k]
  ·exact h
  ·exact h.setT.setW
  ·exact h.setT.setW
  ·exact h.setT.setW.setN
  ·exact h.setT
 | hear k n x hk hn hd hx=>exact h.setW.setN
theorem shp_pick{c:Cluster}(h:Shp c)(p:Pick):Shp (stepPick c p).1:=by
 rcases qfK c p with⟨_,k⟩ | ⟨_,_,st⟩
 ·rw[k];exact h
 ·exact st.shp h
theorem shp_run:∀(l:List Pick) {c:Cluster},Shp c→Shp (qah c l).1
 | [],_,h=>h
 | p::l,_,h=>shp_run l (shp_pick h p)
theorem shp_fairGo:∀(n:Nat) {c:Cluster} (k:Nat),Shp c→Shp (qaD n c k).1
 | 0,_,_,h=>h
 | n+1,c,k,h=>by
  have h1:Shp (qa4 c).1:=shp_run (qaN c) h;unfold qaD;split
  ·exact h1
  ·exact shp_fairGo n (k+1) h1
theorem brought14(n:Int):1≤qaU n 1 4∧qaU n 1 4≤4:=by
 unfold qaU;split<;>(try split)<;>(try split)<;>omega
theorem shp_new{g:Graph}{xs:List Record}(h:newOk g xs=true):Shp (qaI g xs):=by
 have hn:=qa7 (qh8.1 h).1;refine⟨by simp[qaI],?_,fun l hl=>?_⟩
 ·unfold qaI;rw[List.length_replicate];exact Nat.mul_pos (by omega) (by omega)
 ·rw[List.eq_of_mem_replicate hl];exact brought14 g.cap
structure Smooth (x:Cluster):Prop where
 graph:Drawn x.graph
 shp:Shp x
 got:GotLe x
 sz:x.sz≤8000
 wlen:x.workers.length=x.graph.workers.toNat
theorem spec_l14Cluster_any(b:List Int)(c:Cur)(hc:c.ok b):∃(d:Cur) (x:Cluster),d.ok b∧Smooth x∧RetR prog 202 [.cur (c.e b) (d.e b)] (.vals [.agg x.e]):=by
 obtain⟨d1,g,o1,hg,r1⟩:=qq0 b c hc;obtain⟨d2,xs,o2,x1,x2,r2⟩:=qqr b d1 o1;obtain⟨d3,ps,o3,p1,_,r3⟩:=qq2 b d2 40 (by omega) o2;obtain⟨d4,f,o4,r4⟩:=qp1 b d3 4 o3 (by omega);have hn:=qkc hg (by omega) x2;have hs:=hg.size;have hz:=qsU hn;have nw:=qsT g xs (by omega);rw[qka hn]at nw;have got:=qsV g xs;have rp:=qtM (qaI g xs) ps (by omega) got;have hz2:=qhV ps (qaI g xs);have kp:=qgD ps (qaI g xs);have sh:=shp_run ps (shp_new hn);have hwl:(qaI g xs).workers.length=g.workers.toNat:=qgP g xs _;have hg0:(qaI g xs).graph=g:=rfl;have k1:=kp.graph;have k2:=kp.got got;have k3:=kp.wlen;rw[hg0]at k1;rw[hwl]at k3;generalize qah (qaI g xs) ps=o at*;cases f with
 | false=>exact⟨d4,o.1,o4,⟨by rw[k1];exact hg,sh,k2,by omega,by rw[k1];exact k3⟩,qMb ⟨r1,r2,nw,qsW _ _ _ _ _ _ _ _ _ _ _ _ _ _ _ _ _ _ _ _ _ _ _ _ _ _ ⟨r3,rp,trivial⟩,r4,rfl,trivial⟩⟩
 | true=>
  obtain⟨d5,n,o5,hn5,r5⟩:=qbV b d4 12 o4 (by omega);have fr:=qOX o.1 n (by omega) k2;have hb:(qaU n 0 3000).toNat≤11:=by
   unfold qaU;split<;>(try split)<;>(try split)<;>omega
  have hz3:=qnM (qaU n 0 3000).toNat o.1 0;have kf:=qko (qaU n 0 3000).toNat o.1 0;have f1:(qcd o.1 n).1.graph=g:=kf.graph.trans k1;have f2:GotLe (qcd o.1 n).1:=kf.got k2;have f3:(qcd o.1 n).1.workers.length=g.workers.toNat:=kf.wlen.trans k3;have f4:(qcd o.1 n).1.sz≤8000:=by unfold qcd;omega
  have f5:Shp (qcd o.1 n).1:=shp_fairGo _ 0 sh;exact⟨d5,(qcd o.1 n).1,o5,⟨by rw[f1];exact hg,f5,f2,f4,by rw[f1];exact f3⟩,qMa ⟨r1,r2,nw,qsW _ _ _ _ _ _ _ _ _ _ _ _ _ _ _ _ _ _ _ _ _ _ _ _ _ _ ⟨r3,rp,trivial⟩,r4,rfl,qL9 _ _ _ _ _ _ _ _ _ _ _ _ _ _ _ _ _ _ _ _ _ _ _ _ _ _ _ _ _ _ _ _ _ _ _ _ ⟨r5,fr,trivial⟩,trivial⟩⟩
structure LinkIn (n:Nat) (l:Link):Prop where
 sz:l.sz≤n
 cap:1≤l.cap∧l.cap≤4
 got:l.got≤9223372036854775807
theorem link_loop(b:List Int):∀(n i:Nat) (l:Link) (c:Cur),i+n=8→c.ok b→LinkIn i l→
  ∃(m:Link) (d:Cur),d.ok b∧LinkIn 8 m∧qam prog (qaa f316 0) (spec_l06Link_L0 (b.map eU) i l.cap (l.queue.map Record.e) l.credits l.back l.sent l.got 0 0 0 0 0 c.i c.h) (.exit 0) (spec_l06Link_X0 (b.map eU) m.cap (m.queue.map Record.e) m.credits m.back m.sent m.got 0 0 0 0 0 d.i d.h)
 | n,i,l,c,hin,hc,hl=>by
  obtain⟨d1,m,o1,hb,r1⟩:=qbV b c 9 hc (by omega);have hz:=hl.sz;by_cases h:(i:Int)<m
  ·match n with
   | 0=>omega
   | n+1=>
    obtain⟨d2,k,o2,hk,r2⟩:=qbV b d1 4 o1 (by omega);by_cases e0:k=0
    ·have z:=qJG l;obtain⟨m',d,o,y1,y2⟩:=link_loop b n (i+1) (qaq l).1 d2 (by omega) o2 ⟨by omega,by rw[takeFrom_cap];exact hl.cap,qJL l hl.got⟩;exact⟨m',d,o,y1,.more (spec_l06Link_L0_s0 ⟨r1,zap h,r2,by simp[e0],qOn l (by omega),⟨by omega,by omega⟩,trivial⟩) y2⟩
    by_cases e1:k=1
    ·have z:=qJH l;obtain⟨m',d,o,y1,y2⟩:=link_loop b n (i+1) (qaQ l).1 d2 (by omega) o2 ⟨by omega,by rw[creditBack_cap];exact hl.cap,qJK l hl.got⟩;exact⟨m',d,o,y1,.more (spec_l06Link_L0_s1 ⟨r1,zap h,r2,by simp[e0],by simp[e1],qOo l (by omega),⟨by omega,by omega⟩,trivial⟩) y2⟩
    ·obtain⟨d3,r,o3,hr,r3⟩:=spec_l05Record_ret b d2 o2;have z:=qJF l r;obtain⟨m',d,o,y1,y2⟩:=link_loop b n (i+1) (qay l r).1 d3 (by omega) o3 ⟨by omega,by rw[sendOn_cap];exact hl.cap,qJJ l r hl.got⟩;exact⟨m',d,o,y1,.more (spec_l06Link_L0_s2 ⟨r1,zap h,r2,by simp[e0],by simp[e1],spec_l06Link_R6_r8 _ _ _ _ _ _ _ _ _ _ _ _ _ _ _ _ _ _ _ _ _ _ _ _ _ _ _ _ _ _ _ ⟨r3,qOm l r (by omega),trivial⟩,⟨by omega,by omega⟩,trivial⟩) y2⟩
  ·exact⟨l,d1,o1,⟨by omega,hl.cap,hl.got⟩,.last (qaf 0) (spec_l06Link_L0_x3 ⟨r1,zt h,trivial⟩)⟩
theorem spec_l06Link_ret(b:List Int)(c:Cur)(hc:c.ok b):∃(d:Cur) (l:Link),d.ok b∧LinkIn 8 l∧RetR prog 316 [.cur (c.e b) (d.e b)] (.vals [.agg l.e]):=by
 obtain⟨d1,n,o1,hn,r1⟩:=qbV b c 4 hc (by omega);obtain⟨l,d,o,y1,y2⟩:=link_loop b 8 0 (qbG (1+n)) d1 rfl o1 ⟨by simp[qbG,Link.sz],brought14 _,by simp[qbG]⟩;exact⟨d,l,o,y1,spec_l06Link_p0 ⟨r1,⟨by omega,by omega⟩,qLY (1+n),y2,trivial⟩⟩
theorem spec_l06Any_ret(b:List Int)(c:Cur)(hc:c.ok b):∃(d:Cur) (l:Link),d.ok b∧LinkIn 9 l∧RetR prog 270 [.cur (c.e b) (d.e b)] (.vals [.agg l.e]):=by
 obtain⟨d1,l,o1,⟨hz,hcap,hgot⟩,r1⟩:=spec_l06Link_ret b c hc;obtain⟨d2,k,o2,hk,r2⟩:=qbV b d1 14 o1 (by omega);have hql:l.queue.length≤8:=hz;by_cases e0:k=0
 ·obtain⟨d3,v,o3,hv,r3⟩:=qbV b d2 6 o2 (by omega);exact⟨d3,⟨l.cap,l.queue,v-1,l.back,l.sent,l.got⟩,o3,⟨Nat.le_succ_of_le hz,hcap,hgot⟩,spec_l06Any_p0 ⟨r1,r2,by simp[e0],r3,⟨by omega,by omega⟩,trivial⟩⟩
 by_cases e1:k=1
 ·obtain⟨d3,v,o3,hv,r3⟩:=qbV b d2 6 o2 (by omega);exact⟨d3,⟨l.cap,l.queue,l.credits,v-1,l.sent,l.got⟩,o3,⟨Nat.le_succ_of_le hz,hcap,hgot⟩,spec_l06Any_p1 ⟨r1,r2,by simp[e0],by simp[e1],r3,⟨by omega,by omega⟩,trivial⟩⟩
 by_cases e2:k=2
 ·obtain⟨d3,v,o3,hv,r3⟩:=qwv b d2 [-1,0,1000000000,1000000001] o2 (by simp);exact⟨d3,⟨l.cap,l.queue,l.credits,l.back,v,l.got⟩,o3,⟨Nat.le_succ_of_le hz,hcap,hgot⟩,spec_l06Any_p2 ⟨r1,r2,by simp[e0],by simp[e1],by simp[e2],r3,trivial⟩⟩
 by_cases e3:k=3
 ·obtain⟨d3,r,o3,hr,r3⟩:=spec_l05Any_ret b d2 o2;have:=spec_l06Any_p3 ⟨r1,r2,by simp[e0],by simp[e1],by simp[e2],by simp[e3],spec_l06Any_R10_r2 _ _ _ _ _ _ _ _ _ _ _ _ _ _ _ _ _ ⟨r3,by simp;omega,by simp;omega,flatR r,trivial⟩,trivial⟩;refine⟨d3,⟨l.cap,l.queue++[r],l.credits,l.back,l.sent,l.got⟩,o3,⟨by simp[Link.sz];omega,hcap,hgot⟩,?_⟩;unfold Link.e;dsimp only;rw[zU];exact this
 by_cases e4:k=4
 ·have hlm:((l.queue.map Record.e).length:Int)=l.queue.length:=by simp
  have:=spec_l06Any_p4 ⟨r1,r2,by simp[e0],by simp[e1],by simp[e2],by simp[e3],by simp[e4],⟨by omega,by omega⟩,trivial⟩;rw[hlm]at this;exact⟨d2,⟨l.cap,l.queue,l.credits,l.back,1000000000,1000000000-(l.queue.length:Int)⟩,o2,⟨Nat.le_succ_of_le hz,hcap,by dsimp only;omega⟩,this⟩
 ·exact⟨d2,l,o2,⟨by omega,hcap,hgot⟩,spec_l06Any_p5 ⟨r1,r2,by simp[e0],by simp[e1],by simp[e2],by simp[e3],by simp[e4],trivial⟩⟩
end Go.Proofs.YtdkobdhckkjmeaaGreat
namespace Go.Proofs.YtdkobdhckkjmeaaGreat
open Go.Sx Go.RowKit Go.Proofs.Tryz
theorem spec_l10Record_ret(b:List Int)(c:Cur)(g:Graph)(hc:c.ok b)(hg:g.nodes.length≤1000):∃(d:Cur) (r:Record),d.ok b∧(0≤r.stamp.epoch∧r.stamp.epoch≤3)∧RetR prog 337 [.cur (c.e b) (d.e b),.ro (.agg g.e)] (.vals [.agg r.e]):=by
 obtain⟨d1,r,o1,⟨_,h2,_,_,_⟩,r1⟩:=spec_l05Record_ret b c hc;have hlm:((g.nodes.map Node.e).length:Int)=g.nodes.length:=by simp
 by_cases h0:0<g.nodes.length
 ·have hd:decide (((g.nodes.map Node.e).length:Int)>0)=true:=dT (by omega);obtain⟨d2,k,o2,hk,r2⟩:=qbV b d1 (g.nodes.length:Int) o1 (by omega);rw[←hlm]at r2;obtain⟨d3,x,o3,r3⟩:=qp1 b d2 4 o2 (by omega);cases x with
  | true=>
   obtain⟨d4,t,o4,ht,r4⟩:=qbV b d3 2 o3 (by omega);exact⟨d4,⟨k,⟨r.stamp.epoch,5+t⟩,r.key,r.val⟩,o4,by dsimp only;omega,spec_l10Record_p0 ⟨r1,hd,r2,r3,rfl,r4,⟨by omega,by omega⟩,trivial⟩⟩
  | false=>exact⟨d3,⟨k,r.stamp,r.key,r.val⟩,o3,by dsimp only;omega,spec_l10Record_p1 ⟨r1,hd,r2,r3,rfl,trivial⟩⟩
 ·have hd:decide (((g.nodes.map Node.e).length:Int)>0)=false:=dF (by omega);obtain⟨d3,x,o3,r3⟩:=qp1 b d1 4 o1 (by omega);cases x with
  | true=>
   obtain⟨d4,t,o4,ht,r4⟩:=qbV b d3 2 o3 (by omega);exact⟨d4,⟨r.op,⟨r.stamp.epoch,5+t⟩,r.key,r.val⟩,o4,by dsimp only;omega,spec_l10Record_p2 ⟨r1,hd,r3,rfl,r4,⟨by omega,by omega⟩,trivial⟩⟩
  | false=>exact⟨d3,r,o3,by omega,spec_l10Record_p3 ⟨r1,hd,r3,rfl,trivial⟩⟩
structure WorkIn (i:Nat) (w:Worker):Prop where
 sz:w.sz≤40+2*i
 sums:w.sums.length=4
 black:w.black.length=4
 ents:∀k:Nat,-(i:Int)≤w.sums.getD k 0∧w.sums.getD k 0≤0
theorem WorkIn.mono{i:Nat}{w v:Worker}(h:WorkIn i w)(hs:v.sz≤w.sz+2)(h1:v.sums=w.sums)(h2:v.black=w.black):WorkIn (i+1) v:=by
 refine⟨by have:=h.sz;omega,by rw[h1];exact h.sums,by rw[h2];exact h.black,fun k=>?_⟩;rw[h1];have:=h.ents k;omega
theorem WorkIn.received{i:Nat}{w:Worker}{r:Record}(h:WorkIn i w)(he:0≤r.stamp.epoch∧r.stamp.epoch≤3):WorkIn (i+1) (received w r):=by
 have h4:=h.sums;refine⟨?_,?_,?_,fun k=>?_⟩
 ·have:=qJC w r;have:=h.sz;omega
 ·unfold Go.Proofs.YtdkobdhckkjmeaaGreat.received incAt;dsimp only;rw[zn];exact h4
 ·unfold Go.Proofs.YtdkobdhckkjmeaaGreat.received;dsimp only;rw[zn];exact h.black
 ·unfold Go.Proofs.YtdkobdhckkjmeaaGreat.received incAt;dsimp only;by_cases hk:r.stamp.epoch.toNat=k
  ·subst hk;rw[qkh (by omega)];have:=h.ents r.stamp.epoch.toNat;omega
  ·rw[qfL hk];have:=h.ents k;omega
theorem workOn_same(g:Graph)(w:Worker):(qaY g w).1.sums=w.sums∧(qaY g w).1.black=w.black:=by
 rcases qOy g w with⟨_,k⟩ | ⟨_,r,q,_,_,k⟩<;>rw[k]<;>exact⟨rfl,rfl⟩
theorem takeInput_same(g:Graph)(w:Worker):(qaZ g w).1.sums=w.sums∧(qaZ g w).1.black=w.black:=by
 rcases qOz g w with⟨_,k⟩ | ⟨_,r,q,_,_,_,k⟩<;>rw[k]<;>exact⟨rfl,rfl⟩
theorem worker_loop(b:List Int)(g:Graph)(hg:g.sz≤1000):∀(n i:Nat) (w:Worker) (c:Cur),i+n=7→c.ok b→WorkIn i w→
  ∃(v:Worker) (d:Cur),d.ok b∧WorkIn 7 v∧qam prog (qaa f315 0) (spec_l12Worker_L0 (b.map eU) i (w.queue.map Record.e) (w.staged.map Record.e) (w.inputs.map Record.e) (w.cells.map Cell.e) (w.sums.map eI) (w.black.map eB) (w.caps.map eB) (w.dones.map Done.e) (g.nodes.map Node.e) g.workers g.cap c.i c.h) (.exit 0)
   (spec_l12Worker_X0 (b.map eU) (v.queue.map Record.e) (v.staged.map Record.e) (v.inputs.map Record.e) (v.cells.map Cell.e) (v.sums.map eI) (v.black.map eB) (v.caps.map eB) (v.dones.map Done.e) d.i d.h)
 | n,i,w,c,hin,hc,hw=>by
  obtain⟨d1,m,o1,hb,r1⟩:=qbV b c 8 hc (by omega);have hz:=hw.sz;have hgl:g.nodes.length≤1000:=by have:=qlY (sz:=Node.sz) (xs:=g.nodes) (m:=1000) hg;exact this
  by_cases h:(i:Int)<m
  ·match n with
   | 0=>omega
   | n+1=>
    obtain⟨d2,k,o2,hk,r2⟩:=qbV b d1 5 o1 (by omega);by_cases e0:k=0
    ·have z:=qJz g w;obtain⟨q1,q2⟩:=takeInput_same g w;obtain⟨m',d,o,y1,y2⟩:=worker_loop b g hg n (i+1) (qaZ g w).1 d2 (by omega) o2 (hw.mono (by omega) q1 q2);exact⟨m',d,o,y1,.more (spec_l12Worker_L0_s0 ⟨r1,zap h,r2,by simp[e0],spec_TakeInput_ret g w (by omega) (by omega),⟨by omega,by omega⟩,trivial⟩) y2⟩
    by_cases e1:k=1
    ·obtain⟨d3,r,o3,he,r3⟩:=spec_l10Record_ret b d2 g o2 hgl;obtain⟨m',d,o,y1,y2⟩:=worker_loop b g hg n (i+1) (received w r) d3 (by omega) o3 (hw.received he);have hent:=hw.ents r.stamp.epoch.toNat;have rc:=spec_Received_ret w r (by omega) hw.sums hw.black he ⟨by omega,by omega⟩;exact⟨m',d,o,y1,.more (spec_l12Worker_L0_s1 ⟨r1,zap h,r2,by simp[e0],by simp[e1],spec_l12Worker_R10_r8 _ _ _ _ _ _ _ _ _ _ _ _ _ _ _ _ _ _ _ _ _ _ _ _ _ _ _ _ _ _ _ _ ⟨r3,rc,trivial⟩,⟨by omega,by omega⟩,trivial⟩) y2⟩
    by_cases e2:k=2
    ·have hcs:w.staged=[]∨∃r t,w.staged=r::t:=by
      cases w.staged with
      | nil=>exact .inl rfl
      | cons r t=>exact .inr ⟨r,t,rfl⟩
     rcases hcs with hst | ⟨r,t0,hst⟩
     ·obtain⟨m',d,o,y1,y2⟩:=worker_loop b g hg n (i+1) w d2 (by omega) o2 (hw.mono (by omega) rfl rfl);have us:=spec_Unstaged_none w (by omega) hst;exact⟨m',d,o,y1,.more (spec_l12Worker_L0_s2 ⟨r1,zap h,r2,by simp[e0],by simp[e1],by simp[e2],us,⟨by omega,by omega⟩,trivial⟩) y2⟩
     ·have z:=qsl hst;obtain⟨m',d,o,y1,y2⟩:=worker_loop b g hg n (i+1) (qbf w t0) d2 (by omega) o2 (hw.mono (by omega) rfl rfl);have us:=spec_Unstaged_ret w r t0 (by omega) hst;exact⟨m',d,o,y1,.more (spec_l12Worker_L0_s2 ⟨r1,zap h,r2,by simp[e0],by simp[e1],by simp[e2],us,⟨by omega,by omega⟩,trivial⟩) y2⟩
    ·have z:=qJy g w;obtain⟨q1,q2⟩:=workOn_same g w;obtain⟨m',d,o,y1,y2⟩:=worker_loop b g hg n (i+1) (qaY g w).1 d2 (by omega) o2 (hw.mono (by omega) q1 q2);exact⟨m',d,o,y1,.more (spec_l12Worker_L0_s3 ⟨r1,zap h,r2,by simp[e0],by simp[e1],by simp[e2],spec_WorkOn_ret g w (by omega) (by omega),⟨by omega,by omega⟩,trivial⟩) y2⟩
  ·refine⟨w,d1,o1,⟨by omega,hw.sums,hw.black,fun k=>?_⟩,.last (qaf 0) (spec_l12Worker_L0_x4 ⟨r1,zt h,trivial⟩)⟩;have:=hw.ents k;omega
theorem spec_l12Worker_ret(b:List Int)(c:Cur)(g:Graph)(hg:g.sz≤1000)(hc:c.ok b):∃(d:Cur) (w:Worker),d.ok b∧WorkIn 7 w∧RetR prog 315 [.cur (c.e b) (d.e b),.ro (.agg g.e)] (.vals [.agg w.e]):=by
 obtain⟨d1,xs,o1,x1,x2,r1⟩:=qqr b c hc;obtain⟨w,d,o,y1,y2⟩:=worker_loop b g hg 7 0 (qcb xs) d1 rfl o1 (by
  refine⟨by simp[qcb,Worker.sz];omega,by simp[qcb],by simp[qcb],fun k=>?_⟩;have:(qcb xs).sums.getD k 0=0:=by
   change ([0,0,0,0]:List Int).getD k 0=0;rcases k with _ | _ | _ | _ | k<;>simp
  omega)
 exact⟨d,w,o,y1,spec_l12Worker_p0 ⟨r1,qL0 xs (by omega),y2,trivial⟩⟩
theorem flat1B(v:Bool):Flat [[B v]]:=qat (by intro d hd;simp only[zL,zbu,or_false]at hd;subst hd;exact⟨_,rfl⟩)
theorem spec_l12Any_ret(b:List Int)(c:Cur)(g:Graph)(hg:g.sz≤1000)(hc:c.ok b):∃(d:Cur) (w:Worker),d.ok b∧w.sz≤100∧RetR prog 269 [.cur (c.e b) (d.e b),.ro (.agg g.e)] (.vals [.agg w.e]):=by
 obtain⟨d1,w,o1,hw,r1⟩:=spec_l12Worker_ret b c g hg hc;obtain⟨d2,k,o2,hk,r2⟩:=qbV b d1 16 o1 (by omega);have hz:=hw.sz;have h4:=hw.sums;have hzz:=hz;simp only[Worker.sz]at hzz;have mq:w.queue.length≤1000:=by omega
 by_cases e0:k=0
 ·obtain⟨d3,r,o3,hr,r3⟩:=spec_l05Any_ret b d2 o2;have:=spec_l12Any_p0 ⟨r1,r2,by simp[e0],spec_l12Any_R4_r2 _ _ _ _ _ _ _ _ _ _ _ _ _ _ _ _ _ _ _ _ _ _ ⟨r3,by simp;omega,by simp;omega,flatR r,trivial⟩,trivial⟩;refine⟨d3,⟨w.queue++[r],w.staged,w.inputs,w.cells,w.sums,w.black,w.caps,w.dones⟩,o3,by simp[Worker.sz];omega,?_⟩;unfold Worker.e;dsimp only;rw[zU];exact this
 by_cases e1:k=1
 ·obtain⟨d3,r,o3,hr,r3⟩:=spec_l05Record_ret b d2 o2;have:=spec_l12Any_p1 ⟨r1,r2,by simp[e0],by simp[e1],spec_l12Any_R6_r5 _ _ _ _ _ _ _ _ _ _ _ _ _ _ _ _ _ _ _ _ _ _ ⟨r3,by simp;omega,by simp;omega,flatR r,trivial⟩,trivial⟩;refine⟨d3,⟨w.queue,w.staged,w.inputs++[r],w.cells,w.sums,w.black,w.caps,w.dones⟩,o3,by simp[Worker.sz];omega,?_⟩;unfold Worker.e;dsimp only;rw[zU];exact this
 by_cases e2:k=2
 ·obtain⟨d3,v,o3,hv,r3⟩:=qbV b d2 4 o2 (by omega);have hlm:((w.sums.map eI).length:Int)=4:=by simp[h4]
  have:=spec_l12Any_p2 ⟨r1,r2,by simp[e0],by simp[e1],by simp[e2],spec_l12Any_R8_r8 _ _ _ _ _ _ _ _ _ _ _ _ _ _ _ _ _ _ ⟨r3,by decide,hv.1,by change v≤_;omega,trivial⟩,trivial⟩;refine⟨d3,⟨w.queue,w.staged,w.inputs,w.cells,w.sums.take v.toNat,w.black,w.caps,w.dones⟩,o3,by simp[Worker.sz];omega,?_⟩;unfold Worker.e;dsimp only;rw[zcr];exact this
 by_cases e3:k=3
 ·obtain⟨d3,v,o3,hv,r3⟩:=qwv b d2 [1000000,1000001,-1000001] o2 (by simp);obtain⟨y,hy⟩:=qal (xs:=w.sums) (i:=0) (by omega);have hye:(w.sums.map eI)[0]?=some [I y]:=by rw[zr,hy];rfl
  have:=spec_l12Any_p3 ⟨r1,r2,by simp[e0],by simp[e1],by simp[e2],by simp[e3],spec_l12Any_R10_r11 _ _ _ _ _ _ _ _ _ _ _ _ _ _ _ _ _ _ _ ⟨r3,by decide,by simp[h4],hye,trivial⟩,trivial⟩;refine⟨d3,⟨w.queue,w.staged,w.inputs,w.cells,w.sums.set 0 v,w.black,w.caps,w.dones⟩,o3,by simp[Worker.sz];omega,?_⟩;unfold Worker.e;dsimp only;rw[zau];exact this
 by_cases e4:k=4
 ·obtain⟨d3,v,o3,hv,r3⟩:=qbV b d2 6 o2 (by omega);have:=spec_l12Any_p4 ⟨r1,r2,by simp[e0],by simp[e1],by simp[e2],by simp[e3],by simp[e4],spec_l12Any_R12_r14 _ _ _ _ _ _ _ _ _ _ _ _ _ _ _ _ _ _ ⟨r3,⟨by omega,by omega⟩,by simp;omega,by simp;omega,qat (Done.flat ⟨v-1,false⟩),trivial⟩,trivial⟩;refine⟨d3,⟨w.queue,w.staged,w.inputs,w.cells,w.sums,w.black,w.caps,w.dones++[⟨v-1,false⟩]⟩,o3,by simp[Worker.sz];omega,?_⟩;unfold Worker.e;dsimp only;rw[zU];exact this
 by_cases e5:k=5
 ·obtain⟨d3,v,o3,hv,r3⟩:=qbV b d2 2 o2 (by omega);have:=spec_l12Any_p5 ⟨r1,r2,by simp[e0],by simp[e1],by simp[e2],by simp[e3],by simp[e4],by simp[e5],r3,trivial⟩;exact⟨d3,⟨w.queue,w.staged,w.inputs,w.cells,w.sums,w.black,w.caps,[⟨1,false⟩,⟨v,true⟩]⟩,o3,by simp[Worker.sz];omega,this⟩
 by_cases e6:k=6
 ·have:=spec_l12Any_p6 ⟨r1,r2,by simp[e0],by simp[e1],by simp[e2],by simp[e3],by simp[e4],by simp[e5],by simp[e6],by simp;omega,by simp;omega,flat1B true,trivial⟩;refine⟨d2,⟨w.queue,w.staged,w.inputs,w.cells,w.sums,w.black++[true],w.caps,w.dones⟩,o2,by simp[Worker.sz];omega,?_⟩;unfold Worker.e;dsimp only;rw[zU];exact this
 by_cases e7:k=7
 ·have:=spec_l12Any_p7 ⟨r1,r2,by simp[e0],by simp[e1],by simp[e2],by simp[e3],by simp[e4],by simp[e5],by simp[e6],by simp[e7],by simp;omega,by simp;omega,qat (Cell.flat ⟨0,0,0,0⟩),trivial⟩;refine⟨d2,⟨w.queue,w.staged,w.inputs,w.cells++[⟨0,0,0,0⟩],w.sums,w.black,w.caps,w.dones⟩,o2,by simp[Worker.sz];omega,?_⟩;unfold Worker.e;dsimp only;rw[zU];exact this
 ·exact⟨d2,w,o2,by omega,spec_l12Any_p8 ⟨r1,r2,by simp[e0],by simp[e1],by simp[e2],by simp[e3],by simp[e4],by simp[e5],by simp[e6],by simp[e7],trivial⟩⟩
end Go.Proofs.YtdkobdhckkjmeaaGreat
namespace Go.Proofs.YtdkobdhckkjmeaaGreat
open Go.Sx Go.RowKit Go.Proofs.Tryz
theorem szS_set'{α:Type}{sz:α→Nat}{xs:List α}{i:Nat}{x y:α}(h:xs[i]?=some y):szS sz (xs.set i x)≤szS sz xs+sz x:=by
 have:=qj3 (sz:=sz) x h;omega
theorem spec_l14Any_ret(b:List Int)(c:Cur)(hc:c.ok b):∃(d:Cur) (x:Cluster),d.ok b∧(Nums x∧x.sz≤8400)∧RetR prog 162 [.cur (c.e b) (d.e b)] (.vals [.agg x.e]):=by
 obtain⟨d1,x,o1,sm,r1⟩:=spec_l14Cluster_any b c hc;have hz:=sm.sz;have hzz:=hz;simp only[Cluster.sz]at hzz;have hgs:=sm.graph.size;have hgw:=sm.graph.workers;have hwl:=sm.wlen;have hll:=sm.shp.lnk;have htl:=sm.shp.tok;have hcap:=sm.shp.cap;have hgot:=sm.got;have nums:∀l∈x.links,inInt .i64 l.cap∧l.got≤9223372036854775807:=fun l hl=>⟨⟨by have:=hcap l hl;omega,by have:=hcap l hl;omega⟩,hgot l hl⟩
 have gin:inInt .i64 x.graph.workers:=⟨by omega,by omega⟩
 have hlw:((x.workers.map Worker.e).length:Int)=x.workers.length:=by simp
 have hlk:((x.links.map Link.e).length:Int)=x.links.length:=by simp
 have hlt:((x.tokens.map Token.e).length:Int)=4:=by simp[htl]
 have hlin:x.links.length≤8000:=by have:=qlY (sz:=Link.sz) (xs:=x.links) (m:=8000) (by omega);exact this
 obtain⟨d2,k,o2,hk,r2⟩:=qbV b d1 (x.workers.length:Int) o1 (by omega);rw[←hlw]at r2;obtain⟨d3,m,o3,hm,r3⟩:=qbV b d2 20 o2 (by omega);by_cases e0:m=0
 ·obtain⟨d4,w,o4,hw,r4⟩:=spec_l12Any_ret b d3 x.graph (by omega) o3;obtain⟨y,hy⟩:=qal (xs:=x.workers) (i:=k.toNat) (by omega);have hye:(x.workers.map Worker.e)[k.toNat]?=some y.e:=by rw[zr,hy];rfl
  have:=spec_l14Any_p0 ⟨r1,r2,r3,by simp[e0],spec_l14Any_R5_r2 _ _ _ _ _ _ _ _ _ _ _ _ _ _ _ _ _ _ _ _ _ _ _ _ _ _ _ _ _ _ ⟨r4,hk.1,by omega,hye,trivial⟩,trivial⟩;refine⟨d4,⟨x.graph,x.workers.set k.toNat w,x.links,x.tokens,x.news⟩,o4,⟨⟨gin,nums⟩,?_⟩,?_⟩
  ·have:=szS_set' (sz:=Worker.sz) (x:=w) hy;simp only[Cluster.sz];omega
  ·unfold Cluster.e;dsimp only;rw[zau];exact this
 by_cases e1:m=1
 ·obtain⟨d4,i,o4,hi,r4⟩:=qbV b d3 (x.links.length:Int) o3 (by omega);rw[←hlk]at r4;obtain⟨d5,l,o5,hl,r5⟩:=spec_l06Any_ret b d4 o4;obtain⟨y,hy⟩:=qal (xs:=x.links) (i:=i.toNat) (by omega);have hye:(x.links.map Link.e)[i.toNat]?=some y.e:=by rw[zr,hy];rfl
  have:=spec_l14Any_p1 ⟨r1,r2,r3,by simp[e0],by simp[e1],spec_l14Any_R7_r5 _ _ _ _ _ _ _ _ _ _ _ _ _ _ _ _ _ _ _ _ _ _ _ _ _ _ _ _ _ ⟨r4,r5,hi.1,by omega,hye,trivial⟩,trivial⟩;refine⟨d5,⟨x.graph,x.workers,x.links.set i.toNat l,x.tokens,x.news⟩,o5,⟨⟨gin,fun z hz=>?_⟩,?_⟩,?_⟩
  ·rcases zbf hz with hz | rfl
   ·exact nums z hz
   ·exact⟨⟨by have:=hl.cap;omega,by have:=hl.cap;omega⟩,hl.got⟩
  ·have:=szS_set' (sz:=Link.sz) (x:=l) hy;have:=hl.sz;simp only[Cluster.sz];omega
  ·unfold Cluster.e;dsimp only;rw[zau];exact this
 by_cases e2:m=2
 ·obtain⟨d4,i,o4,hi,r4⟩:=qbV b d3 4 o3 (by omega);obtain⟨d5,v,o5,hv,r5⟩:=qbV b d4 6 o4 (by omega);obtain⟨y,hy⟩:=qal (xs:=x.tokens) (i:=i.toNat) (by omega);have hye:(x.tokens.map Token.e)[i.toNat]?=some y.e:=by rw[zr,hy];rfl
  have:=spec_l14Any_p2 _ _ _ _ _ _ _ _ _ _ _ _ _ _ _ _ _ _ _ _ _ _ _ _ _ _ ⟨r1,r2,r3,by simp[e0],by simp[e1],by simp[e2],spec_l14Any_R9_r8 _ _ _ _ _ _ _ _ _ _ _ _ _ _ _ _ _ _ _ _ _ _ _ ⟨r4,r5,⟨by omega,by omega⟩,hi.1,by omega,hye,trivial⟩,trivial⟩;refine⟨d5,⟨x.graph,x.workers,x.links,x.tokens.set i.toNat ⟨y.going,v-1,y.sum,y.black,y.capped⟩,x.news⟩,o5,⟨⟨gin,nums⟩,?_⟩,?_⟩
  ·simp only[Cluster.sz,zn];omega
  ·unfold Cluster.e;dsimp only;rw[zau];exact this
 by_cases e3:m=3
 ·obtain⟨d4,v,o4,hv,r4⟩:=qwv b d3 [1000000,1000001,-1000001,3] o3 (by simp);obtain⟨y,hy⟩:=qal (xs:=x.tokens) (i:=0) (by omega);have hye:(x.tokens.map Token.e)[0]?=some y.e:=by rw[zr,hy];rfl
  have:=spec_l14Any_p3 _ _ _ _ _ _ _ _ _ _ _ _ _ _ _ _ _ _ _ _ _ _ _ _ _ ⟨r1,r2,r3,by simp[e0],by simp[e1],by simp[e2],by simp[e3],spec_l14Any_R11_r11 _ _ _ _ _ _ _ _ _ _ _ _ _ _ _ _ _ _ _ _ ⟨r4,by decide,by omega,hye,trivial⟩,trivial⟩;refine⟨d4,⟨x.graph,x.workers,x.links,x.tokens.set 0 ⟨y.going,y.place,v,y.black,y.capped⟩,x.news⟩,o4,⟨⟨gin,nums⟩,?_⟩,?_⟩
  ·simp only[Cluster.sz,zn];omega
  ·unfold Cluster.e;dsimp only;rw[zau];exact this
 by_cases e4:m=4
 ·obtain⟨d4,u,o4,hu,r4⟩:=qbV b d3 6 o3 (by omega);obtain⟨d5,v,o5,hv,r5⟩:=qbV b d4 6 o4 (by omega);have hnl:x.news.length≤8000:=by omega
  have:=spec_l14Any_p4 ⟨r1,r2,r3,by simp[e0],by simp[e1],by simp[e2],by simp[e3],by simp[e4],spec_l14Any_R13_r14 _ _ _ _ _ _ _ _ _ _ _ _ _ _ _ _ _ _ ⟨r4,⟨by omega,by omega⟩,r5,⟨by omega,by omega⟩,by simp;omega,by simp;omega,qat (News.flat ⟨u-1,v-1,false⟩),trivial⟩,trivial⟩;refine⟨d5,⟨x.graph,x.workers,x.links,x.tokens,x.news++[⟨u-1,v-1,false⟩]⟩,o5,⟨⟨gin,nums⟩,?_⟩,?_⟩
  ·simp only[Cluster.sz,zab,List.length_singleton];omega
  ·unfold Cluster.e;dsimp only;rw[zU];exact this
 by_cases e5:m=5
 ·obtain⟨d4,g,o4,hg,r4⟩:=spec_l08Any_ret b d3 o3;have:=spec_l14Any_p5 ⟨r1,r2,r3,by simp[e0],by simp[e1],by simp[e2],by simp[e3],by simp[e4],by simp[e5],r4,trivial⟩;refine⟨d4,⟨g,x.workers,x.links,x.tokens,x.news⟩,o4,⟨⟨⟨by dsimp only;omega,by dsimp only;omega⟩,nums⟩,?_⟩,this⟩;simp only[Cluster.sz];omega
 by_cases e6:m=6
 ·have:=spec_l14Any_p6 ⟨r1,r2,r3,by simp[e0],by simp[e1],by simp[e2],by simp[e3],by simp[e4],by simp[e5],by simp[e6],by decide,by change (0:Int)≤3;decide,by change (3:Int)≤_;omega,trivial⟩;refine⟨d3,⟨x.graph,x.workers,x.links,x.tokens.take 3,x.news⟩,o3,⟨⟨gin,nums⟩,?_⟩,?_⟩
  ·simp only[Cluster.sz,zay];omega
  ·unfold Cluster.e;dsimp only;rw[zcr];exact this
 ·exact⟨d3,x,o3,⟨⟨gin,nums⟩,by omega⟩,spec_l14Any_p7 ⟨r1,r2,r3,by simp[e0],by simp[e1],by simp[e2],by simp[e3],by simp[e4],by simp[e5],by simp[e6],trivial⟩⟩
