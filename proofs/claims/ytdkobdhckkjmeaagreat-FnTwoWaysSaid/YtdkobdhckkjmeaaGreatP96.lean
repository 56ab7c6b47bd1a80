/- A fair run of a drawn cluster comes to its end in fewer than 3000 rounds, and then all is done. -/
import Derived.Test.YtdkobdhckkjmeaaGreatP89
import Derived.Test.YtdkobdhckkjmeaaGreatT1
import Derived.Test.YtdkobdhckkjmeaaGreatGN
import Derived.Test.YtdkobdhckkjmeaaGreatP86
import Derived.Test.YtdkobdhckkjmeaaGreatP41
set_option linter.unusedVariables false
set_option linter.unusedSimpArgs false
namespace Go.Proofs.YtdkobdhckkjmeaaGreat
open Go.Sx Go.RowKit Go.Proofs.Tryz
def und(e:Int)(c:Cluster):Nat:=if done0 e c=true then 0 else 1
def NewsB(c:Cluster):Prop:=c.news.length+2*(und 0 c+und 1 c+und 2 c+und 3 c)≤8
theorem qPO{c d:Cluster}{i e:Int}{x y:Worker}(hx:wAt c i=some x)(hw:d.workers=c.workers.set i.toNat y)(h:qaA x e=true→qaA y e=true):done0 e c=true→done0 e d=true:=by
 intro hc;obtain⟨_,_,x3⟩:=qaD hx;unfold done0 wAt at hc ⊢;rw[zp (by decide),hw];rw[zp (by decide)]at hc;by_cases hi:i.toNat=0
 ·rw[hi]at x3 ⊢;rw[show (0:Int).toNat=0 from rfl]at hc ⊢;rw[qcM x3];rw[x3]at hc;exact h hc
 ·rw[zad,zo (show ¬i.toNat=(0:Int).toNat from hi)];exact hc
theorem qis{c d:Cluster}{i e:Int}{x y:Worker}(hx:wAt c i=some x)(hw:d.workers=c.workers.set i.toNat y)(h:qaA x e=true→qaA y e=true):und e d≤und e c:=by
 unfold und;by_cases hc:done0 e c=true
 ·rw[zp hc,zp (qPO hx hw h hc)];exact zO _
 ·rw[zo hc];split<;>omega
theorem qeJ{c d:Cluster}{i:Int}{x y:Worker}(h:NewsB c)(hx:wAt c i=some x)(hw:d.workers=c.workers.set i.toNat y)(hd:∀e,qaA x e=true→qaA y e=true)(hn:d.news.length≤c.news.length):NewsB d:=by
 have u0:=qis (d:=d) hx hw (hd 0);have u1:=qis (d:=d) hx hw (hd 1);have u2:=qis (d:=d) hx hw (hd 2);have u3:=qis (d:=d) hx hw (hd 3);unfold NewsB at h ⊢;omega
theorem NewsB.step{c d:Cluster}{p:Pick}(h:NewsB c)(hl:c.workers.length≤3)(st:Step c p d):NewsB d:=by
 cases st with
 | work x r q hk hx hs hq=>exact qeJ h hx rfl (fun _ k=>k) (zO _)
 | input x r t hk hx hs hq hi=>exact qeJ h hx rfl (fun _ k=>k) (zO _)
 | keep x r t hk hx hs ho=>exact qeJ h hx rfl (fun _ k=>k) (zO _)
 | send x r t l hk hx hs ho hl' hsend=>exact qeJ h hx rfl (fun _ k=>k) (zO _)
 | take l x hk hab hl' hx ht=>exact qeJ h hx rfl (fun _ k=>k) (zO _)
 | credit l hk hab hl' hc=>exact h
 | token t x x0 hk hin h0 hd ht hx hdid=>
  rcases qcX c p.a t x with⟨_,k⟩ | ⟨_,_,⟨_,k⟩ | ⟨_,_,k⟩ | ⟨_,hpos,_,k⟩ | ⟨_,_,_,k⟩⟩
  ·rw[k];exact h
  ·rw[k];exact qeJ h hx rfl (fun _ k=>k) (zO _)
  ·rw[k];exact qeJ h hx rfl (fun _ k=>k) (zO _)
  ·rw[k];have hz:t.place=0:=by have:=(qaD hx).1;omega
   rw[hz,h0]at hx;obtain rfl:x0=x:=zx hx;simp only[inR,zi]at hin;generalize hD:setN (setW (setT c p.a ⟨false,t.place,t.sum,t.black,t.capped⟩) 0 (told x0 p.a (t.capped||x0.caps.getD p.a.toNat false))) (c.news++qaR (c.workers.length-1) p.a (t.capped||x0.caps.getD p.a.toNat false))=D;have hw:D.workers=c.workers.set (0:Int).toNat (told x0 p.a (t.capped||x0.caps.getD p.a.toNat false)):=by rw[←hD];rfl
   have hnl:D.news.length≤c.news.length+2:=by
    rw[←hD];simp only[setN,zab,qaR,zb,zct];omega
   have mono:∀e,und e D≤und e c:=fun e=>qis h0 hw fun k=>by rw[qeE,k,Bool.true_or]
   have own:und p.a D=0∧und p.a c=1:=by
    have hD0:wAt D 0=some (told x0 p.a (t.capped||x0.caps.getD p.a.toNat false)):=by
     unfold wAt;rw[zp (by decide),hw];exact qcM (qaD h0).2.2
    unfold und;rw[qcN hD0,qcN h0,qeE,hd];simp
   have u0:=mono 0;have u1:=mono 1;have u2:=mono 2;have u3:=mono 3;have hcase:p.a=0∨p.a=1∨p.a=2∨p.a=3:=by omega
   unfold NewsB at h ⊢;rcases hcase with h1 | h1 | h1 | h1<;>(rw[h1]at own;omega)
  ·rw[k];exact h
 | hear k n x hk hn hd hx=>
  refine qeJ (y:=hears x n) h hx rfl (fun e q=>by rw[qke,q,Bool.true_or]) ?_;exact qsv _ _
structure Live (P:Par) (S:Int) (c:Cluster):Prop where
 run:Run P S c
 fin:∀e:Int,0≤e∧e≤3→Fin e c
 news:NewsB c
 small:c.workers.length≤3
theorem Live.step{P:Par}{S:Int}{c:Cluster}(h:Live P S c)(hS:S<200000)(p:Pick):Live P (S+1) (stepPick c p).1:=by
 have h1:=h.run.step hS p;have hl:=(qnb c p).wlen;rcases qfM c p with⟨_,h2⟩ | ⟨_,_,st⟩
 ·rw[h2]at h1 ⊢;exact⟨h1,h.fin,h.news,h.small⟩
 ·exact⟨h1,fun e he=>(h.fin e he).step (h.run.all.inv e he) he h.run.all.ok st,h.news.step h.small st,by rw[hl];exact h.small⟩
theorem Live.runs{P:Par}:∀(l:List Pick) {S:Int} {c:Cluster},Live P S c→S+l.length≤200000→Live P (S+l.length) (qah c l).1
 | [],S,c,h,_=>by simpa[qah]using h
 | p::l,S,c,h,hS=>by
  simp only[zq]at hS ⊢;have:=Live.runs l (h.step (by omega) p) (by omega);simp only[qah];rw[show S+((l.length+1:Nat):Int)=S+1+l.length by omega];exact this
theorem Live.mono{P:Par}{S T:Int}{c:Cluster}(h:Live P S c)(hT:S≤T):Live P T c:=⟨⟨h.run.all.mono hT,h.run.of⟩,h.fin,h.news,h.small⟩
theorem Live.new{g:Graph}{xs:List Record}(hg:Drawn g)(hx:∀r∈xs,Input r)(hl:xs.length≤5):∃P:Par,P.xs=xs∧Live P 0 (qaI g xs):=by
 have hn:=qkr hg (by omega) hx;obtain⟨⟨k,a,b,c,v,hk,ha,hb,_,hv,hnn⟩,hw,_⟩:=hg;have hws:∀x∈(qaI g xs).workers,∃w:Nat,x=qcc (own g xs w):=fun x hx=>by
  obtain⟨i,hi⟩:=List.getElem?_of_mem hx;exact⟨i,(qko hi).1⟩
 have hlen:(qaI g xs).workers.length=g.workers.toNat:=qgT g xs _;have hd0:∀e,done0 e (qaI g xs)=false:=fun e=>by
  obtain⟨x0,hx0⟩:∃x0,wAt (qaI g xs) 0=some x0:=qcC (by decide) (by rw[hlen];omega);rw[qcN hx0];obtain⟨w,rfl⟩:=hws x0 (qag (w0_of hx0));rfl
 refine⟨⟨k,a,b,c,v,xs⟩,rfl,⟨AllInv.new hn,hk,ha,hb,hv,hnn,hx,⟨fun x hx' r hr=>?_,fun l hl r hr=>?_,fun x hx' r hr=>?_⟩⟩,fun e he=>⟨fun _=>⟨?_,rfl⟩,fun hf=>?_,⟨false,fun x hx' d hd=>?_,fun n hn=>?_,fun hf=>?_⟩⟩,?_,by rw[hlen];omega⟩
 ·obtain⟨w,rfl⟩:=hws x hx';simp[qcc]at hr
 ·rw[List.eq_of_mem_replicate hl]at hr;simp[qbG]at hr
 ·obtain⟨w,rfl⟩:=hws x hx';exact (qkn hr).1
 ·unfold toldW;rw[zP];intro x hx';obtain⟨w,rfl⟩:=hws x hx';simp[qaA,qcc]
 ·rw[hd0]at hf;cases hf
 ·obtain⟨w,rfl⟩:=hws x hx';simp[qcc]at hd
 ·simp[qaI]at hn
 ·rw[hd0]at hf;cases hf
 ·unfold NewsB und;rw[hd0,hd0,hd0,hd0];simp[qaI]
theorem qkB{S e:Int}{c:Cluster}(h:AllInv S c)(hl:c.workers.length≤3):tau e c≤11:=by
 unfold tau;split
 ·omega
 cases ht:tAt c e with
 | none=>exact Nat.zero_le _
 | some t=>
  obtain⟨⟨h1,h2⟩,_⟩:=qdF.1 (qgE h.ok ht);have hwl:=(qaH.1 h.ok).2.1;dsimp only;unfold tauT;split
  ·split
   ·omega
   ·split<;>omega
  ·split<;>omega
theorem quv{P:Par}{S:Int}{c:Cluster}(h:Live P S c):qdJ c≤140:=by
 have t0:=qkB (e:=0) h.run.all h.small;have t1:=qkB (e:=1) h.run.all h.small;have t2:=qkB (e:=2) h.run.all h.small;have t3:=qkB (e:=3) h.run.all h.small;have hn:=h.news;unfold NewsB at hn;unfold qdJ;omega
theorem quw(b:Bool)(l:List Bool):didOf (b::l)=(if b=true then 1 else 0)+didOf l:=by
 cases b<;>simp[didOf]<;>omega
theorem qkC{P:Par}:∀(l:List Pick) {S:Int} {c:Cluster},Live P S c→S+l.length≤200000→Still c→Still (qah c l).1∧qdJ (qah c l).1+didOf (qah c l).2≤qdJ c
 | [],S,c,_,_,hs=>⟨hs,zO _⟩
 | p::l,S,c,h,hS,hs=>by
  simp only[zq]at hS;simp only[qah,quw];rcases qfM c p with⟨k1,k2⟩ | ⟨_,k1,st⟩
  ·rw[k2,k1,zo (by decide),zv];exact qkC l (h.mono (T:=S+1) (by omega)) (by omega) hs
  ·obtain⟨s1,s2⟩:=qPN h.run.all hs h.small st;obtain⟨i1,i2⟩:=qkC l (h.step (by omega) p) (by omega) s1;rw[k1,zp rfl];exact⟨i1,by omega⟩
theorem qux:∀(l:List Pick) (c:Cluster),didOf (qah c l).2=0→(qah c l).1=c∧∀p∈l,(stepPick c p).2=false
 | [],c,_=>⟨rfl,fun p hp=>by cases hp⟩
 | p::l,c,h=>by
  simp only[qah,quw]at h ⊢;cases hb:(stepPick c p).2 with
  | true=>rw[hb,zp rfl]at h;omega
  | false=>
   rw[qJE hb]at h ⊢;obtain⟨h1,h2⟩:=qux l c (by omega);refine⟨h1,fun q hq=>?_⟩;rcases zL.1 hq with rfl | hq
   ·exact hb
   ·exact h2 q hq
theorem quy{P:Par}:∀(m:Nat) {S:Int} {c:Cluster} (k M:Nat),Live P S c→S+44*m≤200000→M<m→((Still c∧qdJ c≤M)∨phi P c+141≤M)→
  ∃(d:Cluster) (j:Nat) (T:Int),qaE m c k=(d,k+j)∧j≤M+1∧Live P T d∧T≤200000∧d.graph=c.graph∧∀p∈qaO d,(stepPick d p).2=false
 | 0,S,c,k,M,_,_,hM,_=>by omega
 | m+1,S,c,k,M,h,hS,hM,hc=>by
  obtain⟨_,hal⟩:=qnY (qa8 (qaH.1 h.run.all.ok).1);unfold qaE;by_cases h0:(qa6 c).2=0
  ·rw[zp h0];obtain⟨n1,n2⟩:=qux (qaO c) c h0;exact⟨c,1,S,by rw[show (qa6 c).1=c from n1],by omega,h,by omega,rfl,n2⟩
  ·rw[zo h0];have hl:Live P (S+44) (qa6 c).1:=(h.runs (qaO c) (by omega)).mono (by omega);have hgr:=(qiq c).graph;have next:(Still (qa6 c).1∧qdJ (qa6 c).1≤M-1)∨phi P (qa6 c).1+141≤M-1:=by
    by_cases hs:Still c
    ·obtain⟨s1,s2⟩:=qkC (qaO c) h (by omega) hs;have hd:0<didOf (qah c (qaO c)).2:=Nat.pos_of_ne_zero h0;rcases hc with⟨_,hc⟩ | hc
     ·exact .inl ⟨s1,by unfold qa6;dsimp only;omega⟩
     ·have:=quv h;exact .inl ⟨s1,by unfold qa6;dsimp only;omega⟩
    ·rcases hc with⟨hc,_⟩ | hc
     ·exact absurd hc hs
     have hlt:=qPJ h.run (by omega) hs;by_cases hs1:Still (qa6 c).1
     ·have:=quv hl;exact .inl ⟨hs1,by omega⟩
     ·exact .inr (by omega)
   have hM1:1≤M:=by
    rcases hc with⟨hs,hc⟩ | hc
    ·obtain⟨_,s2⟩:=qkC (qaO c) h (by omega) hs;have hd:0<didOf (qah c (qaO c)).2:=Nat.pos_of_ne_zero h0;omega
    ·omega
   obtain⟨d,j,T,e1,e2,e3,e4,e5,e6⟩:=quy m (k+1) (M-1) hl (by omega) (by omega) next;exact⟨d,j+1,T,by rw[e1];congr 1;omega,by omega,e3,e4,e5.trans hgr,e6⟩
structure Ended (c:Cluster):Prop where
 still:Still c
 done:∀e:Int,0≤e∧e≤3→∀x∈c.workers,qaA x e=true
 news:c.news=[]
theorem qPP{c:Cluster}{e:Int}(he:0≤e∧e≤3):(⟨6,e,0⟩:Pick)∈qaO c:=by
 have hcase:e=0∨e=1∨e=2∨e=3:=by omega
 unfold qaO;refine zJ _ ?_;rcases hcase with rfl | rfl | rfl | rfl<;>decide
theorem Live.ended{P:Par}{T:Int}{c:Cluster}(h:Live P T c)(hT:T≤200000)(hno:∀p∈qaO c,(stepPick c p).2=false):Ended c:=by
 have hok:=h.run.all.ok;obtain⟨hg,hwl,_⟩:=qaH.1 hok;have hn:=qa8 hg;have hs:Still c:=quq hok fun p hp _=>⟨c,T,hok,h.run.all.bound,hT,.rfl,hno p hp⟩
 have hnews:c.news=[]:=by
  cases hnn:c.news with
  | nil=>rfl
  | cons n ns=>
   exfalso;have hb:=qm8 hok (k:=0) (n:=n) (by rw[hnn];rfl);simp only[qbQ,inR,zy,zX,zi]at hb;obtain⟨w,hw⟩:∃w:Nat,n.dest=w:=⟨n.dest.toNat,by omega⟩
   obtain⟨x,hx⟩:∃x,wAt c (w:Int)=some x:=qcC (by omega) (by omega);have hp:=hno ⟨7,w,0⟩ (by
    unfold qaO;rw[qnX hn];exact zI _ (zI _ (qup (w:=w) (by omega) (by simp[qbz]))))
   have hf:c.news.findIdx? (fun m=>m.dest==(w:Int))=some 0:=by
    rw[hnn,List.findIdx?_cons,hw];simp
   have h7:stepPick c ⟨7,(w:Int),0⟩=qby c w:=rfl;rw[h7]at hp;unfold qby at hp;rw[hf]at hp;dsimp only at hp;rw[zp hok,hnn]at hp;simp only[zag,hx]at hp;cases hp
 refine⟨hs,fun e he x hx=>?_,hnews⟩;obtain⟨x0,hx0⟩:∃x0,wAt c 0=some x0:=qcC (by decide) (by omega);obtain⟨t,ht⟩:=qsg hok (e:=e) (by simp only[inR,zi];exact he);obtain⟨⟨p0,p1⟩,_⟩:=qdF.1 (qgE hok ht);obtain⟨y,hy⟩:∃y,wAt c t.place=some y:=qcC p0 (by omega);have hd0:qaA x0 e=true:=by
  refine Classical.byContradiction fun hd=>?_
  have hd:qaA x0 e=false:=by simpa using hd
  have hp:=hno ⟨6,e,0⟩ (qPP he);have h6:stepPick c ⟨6,e,0⟩=tokenAt c e t y:=by
   change qbc c e=_;unfold qbc;rw[zp (by rw[hok];simp only[inR,zbl,zi];exact he),hx0,ht];dsimp only;rw[hd,zo (by decide),hy]
  rw[h6]at hp;have hpass:=(hs.quiet e).1 y (qag (qaD hy).2.2);unfold tokenAt at hp;rw[zp hpass]at hp;cases hg:t.going with
  | false=>rw[hg]at hp;cases hp
  | true=>
   rw[hg,zo (by decide)]at hp;split at hp
   ·split at hp
    ·cases hp
    ·rename_i hir;refine hir ?_;have b1:=h.run.all.bound.toks t (qag (qfI ht).2.2) hg;have b2:=h.run.all.bound.at hy e.toNat;simp only[inR,zi];omega
   ·split at hp<;>cases hp
 obtain⟨i,hi⟩:=List.getElem?_of_mem hx;by_cases hi0:i=0
 ·subst hi0;rw[w0_of hx0]at hi;cases hi;exact hd0
 ·rcases (h.fin e he).reach (by rw[qcN hx0];exact hd0) i x (by omega) hi with r | ⟨n,r,_⟩
  ·exact r
  ·rw[hnews]at r;cases r
theorem qPQ{g:Graph}{xs:List Record}(hg:Drawn g)(hx:∀r∈xs,Input r)(hl:xs.length≤5){c:Cluster}{P:Par}{S:Int}(hP:P.xs=xs)(hc:Live P S c)(hS:S≤60000)(hphi:phi P c≤xs.length*554):
  ∃(d:Cluster) (j:Nat) (T:Int),qce c 3000=(d,j)∧j<3000∧Live P T d∧T≤200000∧d.graph=c.graph∧Ended d∧∀p∈qaO d,(stepPick d p).2=false:=by
 have hb:(qaV 3000 0 3000).toNat=3000:=by decide
 obtain⟨d,j,T,e1,e2,e3,e4,e5,e6⟩:=quy (P:=P) 3000 (c:=c) 0 2911 hc (by omega) (by omega) (.inr (by omega));refine⟨d,j,T,?_,by omega,e3,e4,e5,e3.ended e4 e6,e6⟩;unfold qce;rw[hb,e1,zv]
theorem qn0{P:Par}:∀(l:List Pick) {S:Int} {c:Cluster},Run P S c→S+l.length≤200000→phi P (qah c l).1≤phi P c
 | [],_,c,_,_=>zO _
 | p::l,S,c,h,hS=>by
  simp only[zq]at hS;have ih:=qn0 l (h.step (by omega) p) (by omega);simp only[qah];rcases qfM c p with⟨_,k2⟩ | ⟨_,_,st⟩
  ·rw[k2]at ih ⊢;exact ih
  ·have:=qtt h.of h.all.owns h.all.ok st;omega
structure Grown (g:Graph) (xs:List Record) (c:Cluster):Prop where
 drawn:Drawn g
 input:∀r∈xs,Input r
 few:xs.length≤5
 live:∃(P:Par) (S:Int),P.xs=xs∧Live P S c∧S≤60000∧phi P c≤xs.length*554
 graph:c.graph=g
theorem Grown.new{g:Graph}{xs:List Record}(hg:Drawn g)(hx:∀r∈xs,Input r)(hl:xs.length≤5):Grown g xs (qaI g xs):=by
 obtain⟨P,hP,h⟩:=Live.new hg hx hl;subst hP;exact⟨hg,hx,hl,⟨P,0,rfl,h,by omega,qtv (qkr hg (by omega) hx) hx⟩,rfl⟩
end Go.Proofs.YtdkobdhckkjmeaaGreat
namespace Go.Proofs.YtdkobdhckkjmeaaGreat
open Go.Sx Go.RowKit Go.Proofs.Tryz
def qd3(x:Worker)(e:Int):Done×Bool:=
 match x.dones.find? (fun d=>d.epoch==e) with
 | some d=>(d,true)
 | none=>(⟨0,false⟩,false)
theorem quz(x:Worker)(e:Int)(hx:x.sz≤8388608):Rt 20 [.agg x.e,.one (I e)] [.agg (qd3 x e).1.e,.one (B (qd3 x e).2)]:=by
 have hl:x.dones.length≤8388608:=by simp only[Worker.sz]at hx;omega
 let st:=fun i:Nat=>qe9 e i 0 false (x.queue.map Record.e) (x.staged.map Record.e) (x.inputs.map Record.e) (x.cells.map Cell.e) (x.sums.map eI) (x.black.map eB) (x.caps.map eB) (x.dones.map Done.e)
 have step:∀i,i<x.dones.length→(∀b,x.dones[i]?=some b→(b.epoch==e)=false)→Tr prog (qaa f20 0) (st i) .normal (st (i+1)):=by
  intro i hi h;obtain⟨a,ha⟩:=qal hi;exact qxg ⟨lt1 hi,lt0,lt2 hi,qac Done.e ha,h a ha,up1 hi hl,trivial⟩
 rcases ql1 (fun d:Done=>d.epoch==e) x.dones with⟨h1,h2⟩ | ⟨i,a,h1,h2,h3,h4⟩
 ·simp only[qd3,h1];have l:=qao (qaf 0) x.dones.length st (fun i hi=>step i hi fun b hb=>h2 b (qag hb)) (qxh ⟨ge1,trivial⟩);exact qxj ⟨l,trivial⟩
 ·simp only[qd3,h3];have hi:=lt_of h1;have l:=qao qaF i st (fun j hj=>step j (by omega) fun b hb=>h4 j b hj hb) (qxf ⟨lt1 hi,lt0,lt2 hi,qac Done.e h1,h2,lt0,lt2 hi,qac Done.e h1,trivial⟩);exact qxi ⟨l,trivial⟩
end Go.Proofs.YtdkobdhckkjmeaaGreat
namespace Go.Proofs.YtdkobdhckkjmeaaGreat
open Go.Sx Go.RowKit Go.Proofs.Tryz
theorem qPR{x:Worker}{e:Int}{b:Bool}(hd:qaA x e=true)(hb:∀d∈x.dones,d.epoch=e→d.capped=b):qd3 x e=(⟨e,b⟩,true):=by
 unfold qd3;unfold qaA at hd;rw[zcj]at hd;cases hf:x.dones.find? (fun d=>d.epoch==e) with
 | none=>
  rw[List.find?_eq_none]at hf;obtain⟨d,h1,h2⟩:=hd;exact absurd h2 (hf d h1)
 | some d=>
  have h1:=List.mem_of_find?_eq_some hf;have h2:d.epoch=e:=by simpa using List.find?_some hf
  have h3:=hb d h1 h2;obtain⟨de,dc⟩:=d;simp only at h2 h3;rw[h2,h3]
theorem qPS{P:Par}{T:Int}{c:Cluster}(h:Live P T c)(he:Ended c){e:Int}(h4:0≤e∧e≤3):∃f:Done,(∀x∈c.workers,qd3 x e=(f,true))∧(f.capped=false→∀x∈c.workers,cE e x=false):=by
 obtain⟨b,b1,b2,b3⟩:=(h.fin e h4).flag;refine⟨⟨e,b⟩,fun x hx=>qPR (he.done e h4 x hx) (b1 x hx),fun hf x hx=>?_⟩;obtain⟨hg,hwl,_⟩:=qaH.1 h.run.all.ok;have hn:=qa8 hg;obtain⟨x0,hx0⟩:∃x0,wAt c 0=some x0:=qcC (by decide) (by omega);exact b3 (by rw[qcN hx0];exact he.done e h4 x0 (qag (w0_of hx0))) hf x hx
end Go.Proofs.YtdkobdhckkjmeaaGreat
namespace Go.Proofs.YtdkobdhckkjmeaaGreat
open Go.Sx Go.RowKit Go.Proofs.Tryz
def PdC(c:Cluster)(r:Record):Prop:=(∃x∈c.workers,r∈x.queue∨r∈x.staged)∨∃l∈c.links,r∈l.queue
def InC(e:Int)(c:Cluster)(z:Cell):Prop:=∃x∈c.workers,∃r∈x.inputs,r.stamp.epoch=e∧cellOf r=z
def memC(c:Cluster)(i:Nat):List Cell:=match c.workers[i]? with | some x=>x.cells | none=>[]
def owC(n k:Int):Nat:=(qay k n).toNat
def capdC(e:Int)(c:Cluster):Prop:=∃x∈c.workers,cE e x=true
def GhostC(e:Int)(xs:List Record)(c:Cluster):Prop:=∃H,Ghost c.graph (qEu c.graph e xs) (qmF e xs) e H (PdC c) (InC e c) (memC c) (owC c.graph.workers) (capdC e c)
section
variable {c : Cluster} {i : Int} {x y : Worker} {l m : Link} {r : Record}
theorem pd_oldW(hx:wAt c i=some x)(h:PdC c r):(r∈x.queue∨r∈x.staged)∨PdC (setW c i y) r:=by
 rcases h with⟨z,hz,h⟩ | h
 ·obtain⟨j,hj⟩:=List.getElem?_of_mem hz;by_cases hji:j=i.toNat
  ·subst hji;rw[(qaD hx).2.2]at hj;cases hj;exact .inl h
  ·exact .inr (.inl ⟨z,qag (qh2 hj hji),h⟩)
 ·exact .inr (.inr h)
theorem pd_newW(h:PdC (setW c i y) r):PdC c r∨(r∈y.queue∨r∈y.staged):=by
 rcases h with⟨z,hz,h⟩ | h
 ·rcases zbf hz with hz | rfl
  ·exact .inl (.inl ⟨z,hz,h⟩)
  ·exact .inr h
 ·exact .inl (.inr h)
theorem pd_atW(hx:wAt c i=some x)(h:r∈y.queue∨r∈y.staged):PdC (setW c i y) r:=.inl ⟨y,qag (qcM (qaD hx).2.2),h⟩
theorem pd_ofW(hx:wAt c i=some x)(h:r∈x.queue∨r∈x.staged):PdC c r:=.inl ⟨x,qag (qaD hx).2.2,h⟩
theorem pd_oldL(hl:lAt c i=some l)(h:PdC c r):r∈l.queue∨PdC (setL c i m) r:=by
 rcases h with h | ⟨z,hz,h⟩
 ·exact .inr (.inl h)
 ·obtain⟨j,hj⟩:=List.getElem?_of_mem hz;by_cases hji:j=i.toNat
  ·subst hji;rw[(qbl hl).2.2]at hj;cases hj;exact .inl h
  ·exact .inr (.inr ⟨z,qag (qh2 hj hji),h⟩)
theorem pd_newL(h:PdC (setL c i m) r):PdC c r∨r∈m.queue:=by
 rcases h with h | ⟨z,hz,h⟩
 ·exact .inl (.inl h)
 ·rcases zbf hz with hz | rfl
  ·exact .inl (.inr ⟨z,hz,h⟩)
  ·exact .inr h
theorem pd_atL(hl:lAt c i=some l)(h:r∈m.queue):PdC (setL c i m) r:=.inr ⟨m,qag (qcM (qbl hl).2.2),h⟩
theorem pd_ofL(hl:lAt c i=some l)(h:r∈l.queue):PdC c r:=.inr ⟨l,qag (qbl hl).2.2,h⟩
theorem in_setW{e:Int}{z:Cell}(hx:wAt c i=some x)(h:InC e c z):(∃r∈x.inputs,r.stamp.epoch=e∧cellOf r=z)∨InC e (setW c i y) z:=by
 obtain⟨w,hw,h⟩:=h;obtain⟨j,hj⟩:=List.getElem?_of_mem hw;by_cases hji:j=i.toNat
 ·subst hji;rw[(qaD hx).2.2]at hj;cases hj;exact .inl h
 ·exact .inr ⟨w,qag (qh2 hj hji),h⟩
theorem in_same{e:Int}{z:Cell}(hx:wAt c i=some x)(hy:y.inputs=x.inputs)(h:InC e c z):InC e (setW c i y) z:=by
 rcases in_setW (y:=y) hx h with⟨r,hr,h⟩ | h
 ·exact⟨y,qag (qcM (qaD hx).2.2),r,by rw[hy];exact hr,h⟩
 ·exact h
theorem mem_setW(hx:wAt c i=some x)(j:Nat):memC (setW c i y) j=if j=i.toNat then y.cells else memC c j:=by
 unfold memC setW;dsimp only;by_cases hj:j=i.toNat
 ·rw[zp hj,hj,qcM (qaD hx).2.2]
 ·rw[zo hj,zad,zo (fun q=>hj q.symm)]
theorem mem_at(hx:wAt c i=some x):memC c i.toNat=x.cells:=by
 unfold memC;rw[(qaD hx).2.2]
theorem mem_same(hx:wAt c i=some x)(hy:y.cells=x.cells)(j:Nat):memC (setW c i y) j=memC c j:=by
 rw[mem_setW hx];split
 ·rename_i hj;rw[hj,mem_at hx,hy]
 ·rfl
theorem capd_setW{e:Int}(hx:wAt c i=some x)(hy:cE e x=true→cE e y=true)(h:capdC e c):capdC e (setW c i y):=by
 obtain⟨w,hw,h⟩:=h;obtain⟨j,hj⟩:=List.getElem?_of_mem hw;by_cases hji:j=i.toNat
 ·subst hji;rw[(qaD hx).2.2]at hj;cases hj;exact⟨y,qag (qcM (qaD hx).2.2),hy h⟩
 ·exact⟨w,qag (qh2 hj hji),h⟩
end
theorem ghost_quiet{e:Int}{xs:List Record}{c:Cluster}{i:Int}{x y:Worker}(h:GhostC e xs c)(hx:wAt c i=some x)(h1:y.queue=x.queue)(h2:y.staged=x.staged)(h3:y.inputs=x.inputs)(h4:y.cells=x.cells)(h5:y.caps=x.caps){d:Cluster}(hd:d.workers=(setW c i y).workers)(hl:d.links=c.links)(hgr:d.graph=c.graph):GhostC e xs d:=by
 obtain⟨H,h⟩:=h;have pd:∀q,PdC d q↔PdC (setW c i y) q:=fun q=>by unfold PdC;rw[hd,hl];rfl
 refine⟨H,?_⟩;rw[hgr];refine h.move (fun j=>?_) (fun k=>?_) (fun q hq=>?_) (fun q hq _=>.inl ?_) (fun z hz=>.inl ?_)
 ·rw[←mem_same (y:=y) hx h4 j];unfold memC;rw[hd]
 ·have:=capd_setW (y:=y) hx (by unfold cE;rw[h5];exact id) k;unfold capdC at this ⊢;rw[hd];exact this
 ·rw[pd];rcases pd_oldW (y:=y) hx hq with k | k
  ·exact pd_atW hx (by rw[h1,h2];exact k)
  ·exact k
 ·rcases pd_newW ((pd q).1 hq) with k | k
  ·exact k
  ·exact pd_ofW hx (by rw[h1,h2]at k;exact k)
 ·have:=in_same (y:=y) hx h3 hz;unfold InC at this ⊢;rw[hd];exact this
theorem input_cell{e:Int}{xs:List Record}{r:Record}(hr:r∈xs)(he:r.stamp.epoch=e)(hok:qaC r=true)(h0:r.op=0):cellOf r∈qmF e xs:=by
 unfold qmF;refine zbm.2 ⟨r,List.mem_filter.2 ⟨List.mem_filter.2 ⟨hr,by simpa using he⟩,hok⟩,?_⟩;unfold cellsOf cellOf;rw[h0,he]
theorem GhostC.step {e : Int} {xs : List Record} {c d : Cluster} {p : Pick} (h : GhostC e xs c) (he : 0 ≤ e ∧ e ≤ 3) (hok : qai c = true) (ow : Owns c) (hin : ∀ x ∈ c.workers, ∀ r ∈ x.inputs, r ∈ xs) (st : Step c p d) : GhostC e xs d := by
  have hg := (qaH.1 hok).1;have fi := fixpoint_inv hg he xs;have nil : ∀ x, Dom (fun a => a ∈ qEu c.graph e xs ∨ a ∈ ([] : List Cell)) x → Dom (fun a => a ∈ qEu c.graph e xs) x := fun x hx => hx.mono fun a ha => .self (ha.resolve_right (by simp))
  cases st with
  | work x r q hk hx hs hq =>
    obtain ⟨H, h⟩ := h;have hb := (qbd.1 (qbu hok hx)).1;have hl3 := (qh4 (qbu hok hx)).2.2;rw [hq, qdc] at hb;have hre := qdE hb.1;have hmx := mem_at hx;have hrm : r ∈ x.queue := by rw [hq]; exact zm ..
    have hcaps : cE e x = true → cE e (⟨q, (qav c.graph x.cells r).2.1, x.inputs, (qav c.graph x.cells r).1, x.sums, x.black, (if capped c.graph r then x.caps.set r.stamp.epoch.toNat true else x.caps), x.dones⟩ : Worker) = true := by
      intro k;unfold cE at k ⊢;dsimp only;split
      · by_cases hee : r.stamp.epoch.toNat = e.toNat
        · rw [hee, qkd (by omega)]
        · rw [qfN hee]; exact k
      · exact k
    generalize hy : (⟨q, (qav c.graph x.cells r).2.1, x.inputs, (qav c.graph x.cells r).1, x.sums, x.black, (if capped c.graph r then x.caps.set r.stamp.epoch.toNat true else x.caps), x.dones⟩ : Worker) = y at *;have yq : y.queue = q := by rw [← hy]
    have ys : y.staged = (qav c.graph (memC c p.a.toNat) r).2.1 := by rw [← hy, hmx]
    have yc : y.cells = (qav c.graph (memC c p.a.toNat) r).1 := by rw [← hy, hmx]
    have yi : y.inputs = x.inputs := by rw [← hy]
    have P1 : ∀ a, PdC c a → PdC (setW c p.a y) a ∨ a = r := fun a ha => by
      rcases pd_oldW (y := y) hx ha with k | k
      · rw [hq, hs] at k;rcases k with k | k
        · rcases zL.1 k with rfl | k
          · exact .inr rfl
          · exact .inl (pd_atW hx (.inl (by rw [yq]; exact k)))
        · cases k
      · exact .inl k
    have P2 : ∀ a ∈ (qav c.graph (memC c p.a.toNat) r).2.1, PdC (setW c p.a y) a := fun a ha => pd_atW hx (.inr (by rw [ys]; exact ha))
    have P3 : ∀ a, PdC (setW c p.a y) a → PdC c a ∨ a ∈ (qav c.graph (memC c p.a.toNat) r).2.1 := fun a ha => by
      rcases pd_newW ha with k | k
      · exact .inl k
      · rcases k with k | k
        · exact .inl (pd_ofW hx (.inl (by rw [hq]; rw [yq] at k; exact zg _ k)))
        · exact .inr (by rw [ys] at k; exact k)
    have m1 : memC (setW c p.a y) p.a.toNat = (qav c.graph (memC c p.a.toNat) r).1 := by rw [mem_setW hx, zp rfl, yc]
    have m2 : ∀ j, j ≠ p.a.toNat → memC (setW c p.a y) j = memC c j := fun j hj => by rw [mem_setW hx, zo hj]
    have c1 : capdC e c → capdC e (setW c p.a y) := capd_setW hx hcaps;have I1 : ∀ z, InC e c z → InC e (setW c p.a y) z := fun z hz => in_same hx yi hz
    by_cases hee : r.stamp.epoch = e
    · have := h.work hg (fun z hz w hw => nil w (fi.closed z hz w hw)) (fun z hz => (fi.fit z (.inl hz)).2.1) (i := p.a.toNat) (mem' := memC (setW c p.a y)) (Pd' := PdC (setW c p.a y)) (capd' := capdC e (setW c p.a y)) hb.1 hee (pd_ofW hx (.inl hrm)) (by have := (ow.at hx).1 r hrm; unfold owC; omega) P1 P2 P3 m1 m2 c1 (fun hcp => ⟨y, qag (qcM (qaD hx).2.2), by
          rw [← hy];unfold cE;dsimp only;rw [zp hcp, hee, qkd (by omega)]⟩)
      exact ⟨_, this.move (fun _ => rfl) id (fun _ k => k) (fun _ k _ => .inl k) fun z hz => .inl (I1 z hz)⟩
    · have := h.other hg (i := p.a.toNat) (mem' := memC (setW c p.a y)) (Pd' := PdC (setW c p.a y)) (capd' := capdC e (setW c p.a y)) hb.1 hee P1 P3 m1 m2 c1;exact ⟨_, this.move (fun _ => rfl) id (fun _ k => k) (fun _ k _ => .inl k) fun z hz => .inl (I1 z hz)⟩
  | input x r t hk hx hs hq hi =>
    obtain ⟨H, h⟩ := h;have hb := (qbd.1 (qbu hok hx)).2.2.1;have hib := (qbd.1 (qbu hok hx)).2.2.2.2.2.2.2.1;rw [hi] at hb hib;rw [qdc] at hb;have hr := hb.1;simp only [qbB, zy, zX] at hr;have hop : r.op = 0 := by
      have := qfH hib (i := 0) (a := r) rfl;unfold inBad at this;simp only [zy, bne_eq_false_iff_eq] at this;exact this.1.1
    have hrx := hin x (qag (qaD hx).2.2) r (by rw [hi]; exact zm ..);refine ⟨H, h.move (mem_same hx rfl) (capd_setW hx id) (fun a ha => ?_) (fun a ha hae => ?_) (fun z hz => ?_)⟩
    · rcases pd_oldW (y := ⟨[r], [], t, x.cells, x.sums, x.black, x.caps, x.dones⟩) hx ha with k | k
      · rw [hq, hs] at k; simp at k
      · exact k
    · rcases pd_newW ha with k | k
      · exact .inl k
      · obtain rfl : a = r := by simpa using k
        have hm := input_cell hrx hae hr.1 hop;exact .inr ⟨nil _ (fi.ins _ hm), inputCell_fit hg he _ hm⟩
    · rcases in_setW (y := ⟨[r], [], t, x.cells, x.sums, x.black, x.caps, x.dones⟩) hx hz with ⟨a, ha, hae, haz⟩ | k
      · rw [hi] at ha;rcases zL.1 ha with rfl | ha
        · exact .inr ⟨a, pd_atW hx (.inl (zm ..)), hae, haz⟩
        · exact .inl ⟨_, qag (qcM (qaD hx).2.2), a, ha, hae, haz⟩
      · exact .inl k
  | keep x r t hk hx hs ho =>
    obtain ⟨H, h⟩ := h;refine ⟨H, h.move (mem_same hx rfl) (capd_setW hx id) (fun a ha => ?_) (fun a ha _ => .inl ?_) (fun z hz => .inl (in_same hx rfl hz))⟩
    · rcases pd_oldW (y := kept (qbf x t) r) hx ha with k | k
      · rw [hs] at k;rcases k with k | k
        · exact pd_atW hx (.inl (zI _ k))
        · rcases zL.1 k with rfl | k
          · exact pd_atW hx (.inl (zJ _ (zm ..)))
          · exact pd_atW hx (.inr k)
      · exact k
    · rcases pd_newW ha with k | k | k
      · exact k
      · rcases zaz.1 k with k | k
        · exact pd_ofW hx (.inl k)
        · obtain rfl : a = r := by simpa using k
          exact pd_ofW hx (.inr (by rw [hs]; exact zm ..))
      · exact pd_ofW hx (.inr (by rw [hs]; exact zg _ k))
  | send x r t l hk hx hs ho hl hsend =>
    obtain ⟨H, h⟩ := h;obtain ⟨_, _, _, e1⟩ := qh1 hsend;have lq : (qaz l r).1.queue = l.queue ++ [r] := by rw [e1]
    generalize (qaz l r).1 = m at *;generalize hpl : qaw c.graph p.a (qay r.key c.graph.workers) = k at *;have hx' : wAt (setL c k m) p.a = some x := hx;refine ⟨H, h.move (fun j => (mem_same (y := qbZ (qbf x t) r.stamp.epoch) hx' rfl j).trans rfl) (fun q => capd_setW (c := setL c k m) hx' id q) (fun a ha => ?_) (fun a ha _ => .inl ?_) (fun z hz => .inl (in_same (c := setL c k m) hx' rfl hz))⟩
    · rcases pd_oldL (m := m) hl ha with q | q
      · have := pd_atL (m := m) hl (r := a) (by rw [lq]; exact zI _ q);rcases pd_oldW (y := qbZ (qbf x t) r.stamp.epoch) hx' this with q2 | q2
        · rw [hs] at q2;rcases q2 with q2 | q2
          · exact pd_atW hx' (.inl q2)
          · rcases zL.1 q2 with rfl | q2
            · exact .inr ⟨m, qag (qcM (qbl hl).2.2), by rw [lq]; exact zI _ q⟩
            · exact pd_atW hx' (.inr q2)
        · exact q2
      · rcases pd_oldW (y := qbZ (qbf x t) r.stamp.epoch) hx' q with q2 | q2
        · rw [hs] at q2;rcases q2 with q2 | q2
          · exact pd_atW hx' (.inl q2)
          · rcases zL.1 q2 with rfl | q2
            · exact .inr ⟨m, qag (qcM (qbl hl).2.2), by rw [lq]; exact zJ _ (zm ..)⟩
            · exact pd_atW hx' (.inr q2)
        · exact q2
    · rcases pd_newW ha with q | q | q
      · rcases pd_newL q with q | q
        · exact q
        · rw [lq] at q;rcases zaz.1 q with q | q
          · exact pd_ofL hl q
          · obtain rfl : a = r := by simpa using q
            exact pd_ofW hx (.inr (by rw [hs]; exact zm ..))
      · exact pd_ofW hx (.inl q)
      · exact pd_ofW hx (.inr (by rw [hs]; exact zg _ q))
  | take l x hk hab hl hx ht =>
    obtain ⟨H, h⟩ := h;obtain ⟨_, r, q, hq, e2, e1⟩ := qfK ht;have lq : (qaq l).1.queue = q := by rw [e1]
    rw [e2];generalize (qaq l).1 = m at *;generalize hpl : qaw c.graph p.a p.b = k at *;have hx' : wAt (setL c k m) p.b = some x := hx;refine ⟨H, h.move (fun j => (mem_same (y := received x r) hx' rfl j).trans rfl) (fun q => capd_setW (c := setL c k m) hx' id q) (fun a ha => ?_) (fun a ha _ => .inl ?_) (fun z hz => .inl (in_same (c := setL c k m) hx' rfl hz))⟩
    · have old : ∀ a, PdC (setL c k m) a → PdC (setW (setL c k m) p.b (received x r)) a := fun a q => by
        rcases pd_oldW (y := received x r) hx' q with q2 | q2
        · rcases q2 with q2 | q2
          · exact pd_atW hx' (.inl (zI _ q2))
          · exact pd_atW hx' (.inr q2)
        · exact q2
      rcases pd_oldL (m := m) hl ha with q1 | q1
      · rw [hq] at q1;rcases zL.1 q1 with rfl | q1
        · exact pd_atW hx' (.inl (zJ _ (zm ..)))
        · exact old a (pd_atL hl (by rw [lq]; exact q1))
      · exact old a q1
    · rcases pd_newW ha with q1 | q1 | q1
      · rcases pd_newL q1 with q1 | q1
        · exact q1
        · exact pd_ofL hl (by rw [hq]; rw [lq] at q1; exact zg _ q1)
      · rcases zaz.1 q1 with q1 | q1
        · exact pd_ofW hx (.inl q1)
        · obtain rfl : a = r := by simpa using q1
          exact pd_ofL hl (by rw [hq]; exact zm ..)
      · exact pd_ofW hx (.inr q1)
  | credit l hk hab hl hc =>
    obtain ⟨H, h⟩ := h;rcases qfL l with ⟨k, _⟩ | ⟨_, _, _, e1⟩
    · rw [hc] at k; cases k
    have lq : (qaQ l).1.queue = l.queue := by rw [e1]
    refine ⟨H, h.move (fun _ => rfl) id (fun a ha => ?_) (fun a ha _ => .inl ?_) (fun z hz => .inl hz)⟩
    · rcases pd_oldL (m := (qaQ l).1) hl ha with k | k
      · exact pd_atL hl (by rw [lq]; exact k)
      · exact k
    · rcases pd_newL ha with k | k
      · exact k
      · exact pd_ofL hl (by rw [lq] at k; exact k)
  | token t x x0 hk hin' h0 hd ht hx hdid =>
    rcases qcX c p.a t x with ⟨_, k⟩ | ⟨_, _, ⟨_, k⟩ | ⟨_, _, k⟩ | ⟨_, hpos, _, k⟩ | ⟨_, _, _, k⟩⟩
    · rw [k]; exact h
    · rw [k]; exact ghost_quiet h (y := qaB x p.a) hx rfl rfl rfl rfl rfl rfl rfl rfl
    · rw [k]; exact ghost_quiet h (y := qaB x p.a) hx rfl rfl rfl rfl rfl rfl rfl rfl
    · rw [k];have hz : t.place = 0 := by have := (qaD hx).1; omega
      rw [hz] at hx;exact ghost_quiet h (y := told x p.a (t.capped || x.caps.getD p.a.toNat false)) hx rfl rfl rfl rfl rfl rfl rfl rfl
    · rw [k]; exact ghost_quiet h (y := x) hx rfl rfl rfl rfl rfl (qh3 (qaD hx).2.2).symm rfl rfl
  | hear k n x hk hn hd hx =>
    refine ghost_quiet h (y := hears x n) hx ?_ ?_ ?_ ?_ ?_ rfl rfl rfl <;> (unfold hears; split <;> rfl)
theorem own_of{g:Graph}{xs:List Record}{r:Record}(hr:r∈xs)(he:0≤r.stamp.epoch∧r.stamp.epoch≤3):r∈own g xs (qay r.key g.workers):=by
 unfold own ownTo ownAt;refine zar.2 ⟨r.stamp.epoch.toNat,List.mem_range.2 (by omega),List.mem_filter.2 ⟨hr,?_⟩⟩;simp only[zj,zE];exact⟨by omega,trivial⟩
theorem GhostC.new{g:Graph}{xs:List Record}(h:newOk g xs=true)(e:Int):GhostC e xs (qaI g xs):=by
 obtain⟨hg,_,hb⟩:=qii.1 h;have hn:=qa8 hg;have none':∀r,¬PdC (qaI g xs) r:=by
  rintro r (⟨x,hx,k⟩ | ⟨l,hl,k⟩)
  ·obtain⟨i,hi⟩:=List.getElem?_of_mem hx;obtain⟨rfl,_⟩:=qko hi;simp[qcc]at k
  ·rw[List.eq_of_mem_replicate hl]at k;simp[qbG]at k
 have nohp:∀x,¬HP e (fun _=>False) (PdC (qaI g xs)) x:=by
  rintro x (hx | ⟨r,hr,_⟩)
  ·exact hx
  ·exact none' r hr
 have nomem:∀i,memC (qaI g xs) i=[]:=fun i=>by
  unfold memC;cases hw:(qaI g xs).workers[i]? with
  | none=>rfl
  | some x=>
   obtain⟨rfl,_⟩:=qko hw;rfl
 refine⟨fun _=>False,fun x hx=>.inl ?_,fun x hx=>absurd hx (nohp x),fun x hx=>absurd hx (nohp x),fun _ x hx=>hx.elim,fun i z hz=>(by rw[nomem]at hz;cases hz),fun x hx=>hx.elim,fun i z hz=>(by rw[nomem]at hz;cases hz)⟩;simp only[qmF,zbm,List.mem_filter,qa5]at hx;obtain⟨r,⟨⟨hr,hre⟩,hok⟩,rfl⟩:=hx;have hre:r.stamp.epoch=e:=by simpa using hre
 rw[zP]at hb;have hb:=hb r hr;simp only[qcp,zbi,zS,bne_iff_ne,zcc,not_or,Bool.not_eq_false,Decidable.not_not]at hb;have hep:0≤r.stamp.epoch∧r.stamp.epoch≤3:=by
  have:=hb.1.1;simp only[qaC,qbb,inR,zj,zi]at this;omega
 have ho:=qhV r.key hn.1;simp only[inR,zi]at ho;have hw:(qaI g xs).workers[(qay r.key g.workers).toNat]?=some (qcc (own g xs (qay r.key g.workers))):=by
  change (qcq g xs g.workers.toNat)[(qay r.key g.workers).toNat]?=_;unfold qcq;rw[zr,List.getElem?_range (by omega)];simp only[zaw];rw[Int.toNat_of_nonneg ho.1]
 refine⟨_,qag hw,r,own_of hr hep,hre,?_⟩;unfold cellOf cellsOf;rw[hb.1.2,hre]
theorem ghost_pick{P:Par}{S:Int}{c:Cluster}(h:Live P S c)(p:Pick){e:Int}(he:0≤e∧e≤3)(hg:GhostC e P.xs c):GhostC e P.xs (stepPick c p).1:=by
 rcases qfM c p with⟨_,h2⟩ | ⟨_,_,st⟩
 ·rw[h2];exact hg
 ·exact hg.step he h.run.all.ok h.run.all.owns h.run.of.recs.i st
theorem ghost_run{P:Par}{e:Int}(he:0≤e∧e≤3):∀(l:List Pick) {S:Int} {c:Cluster},Live P S c→S+l.length≤200000→GhostC e P.xs c→GhostC e P.xs (qah c l).1
 | [],_,_,_,_,hg=>hg
 | p::l,S,c,h,hS,hg=>by
  simp only[zq]at hS;exact ghost_run he l (h.step (by omega) p) (by omega) (ghost_pick h p he hg)
theorem ghost_fairGo{P:Par}{e:Int}(he:0≤e∧e≤3):∀(m:Nat) {S:Int} {c:Cluster} (k:Nat),Live P S c→S+44*m≤200000→GhostC e P.xs c→GhostC e P.xs (qaE m c k).1
 | 0,_,_,_,_,_,hg=>hg
 | m+1,S,c,k,h,hS,hg=>by
  obtain⟨_,hal⟩:=qnY (qa8 (qaH.1 h.run.all.ok).1);have h1:Live P (S+44) (qa6 c).1:=(h.runs (qaO c) (by omega)).mono (by omega);have g1:GhostC e P.xs (qa6 c).1:=ghost_run he (qaO c) h (by omega) hg;unfold qaE;split
  ·exact g1
  ·exact ghost_fairGo he m (k+1) h1 (by omega) g1
theorem ord_irrefl(a:Cell):¬qbg a a<0:=by
 rw[qr9];exact qrq _
theorem sorted_ext{l1 l2:List Cell}(h1:l1.Pairwise fun a b=>qbg a b<0)(h2:l2.Pairwise fun a b=>qbg a b<0)(h:∀a,a∈l1↔a∈l2):l1=l2:=by
 have nd:∀{l:List Cell},(l.Pairwise fun a b=>qbg a b<0)→l.Nodup:=fun hl=>hl.imp fun {a b} hab=>by
  rintro rfl;exact ord_irrefl _ hab
 exact List.Perm.eq_of_pairwise (le:=fun a b=>qbg a b<0) (fun a b _ _ k1 k2=>absurd (qm7 k1 k2) (ord_irrefl a)) h1 h2 ((List.perm_ext_iff_of_nodup (nd h1) (nd h2)).2 h)
theorem addCells_mem{z:Cell}:∀{xs out:List Cell},z∈addCells out xs↔z∈out∨z∈xs
 | [],out=>by simp[addCells]
 | x::xs,out=>by
  change z∈addCells (qbv out x) xs↔_;rw[addCells_mem,qrm,zL];constructor
  ·rintro ((k | k) | k)
   ·exact .inr (.inl k)
   ·exact .inl k
   ·exact .inr (.inr k)
  ·rintro (k | k | k)
   ·exact .inl (.inr k)
   ·exact .inl (.inl k)
   ·exact .inr k
theorem addCells_sorted:∀{xs out:List Cell},(out.Pairwise fun a b=>qbg a b<0)→(addCells out xs).Pairwise fun a b=>qbg a b<0
 | [],_,h=>h
 | x::xs,out,h=>by
  change (addCells (qbv out x) xs).Pairwise _;exact addCells_sorted (qsc x h)
theorem cellsIn_go{z:Cell}:∀{ws:List Worker} {out:List Cell},(z∈ws.foldl (fun out w=>addCells out w.cells) out↔z∈out∨∃w∈ws,z∈w.cells)
 | [],out=>by simp
 | w::ws,out=>by
  rw[List.foldl_cons,cellsIn_go,addCells_mem];constructor
  ·rintro ((k | k) | ⟨v,hv,k⟩)
   ·exact .inl k
   ·exact .inr ⟨w,zm ..,k⟩
   ·exact .inr ⟨v,zg _ hv,k⟩
  ·rintro (k | ⟨v,hv,k⟩)
   ·exact .inl (.inl k)
   ·rcases zL.1 hv with rfl | hv
    ·exact .inl (.inr k)
    ·exact .inr ⟨v,hv,k⟩
theorem cellsIn_sorted:∀{ws:List Worker} {out:List Cell},(out.Pairwise fun a b=>qbg a b<0)→(ws.foldl (fun out w=>addCells out w.cells) out).Pairwise fun a b=>qbg a b<0
 | [],_,h=>h
 | w::ws,out,h=>by
  rw[List.foldl_cons];exact cellsIn_sorted (addCells_sorted h)
theorem isOut_iff{g:Graph}{z:Cell}:isOut g z=true↔kn g z.op=8:=by
 unfold isOut kn;cases qaN g z.op with
 | none=>simp
 | some n=>simp
theorem right_of{e:Int}{xs:List Record}{c:Cluster}(h:GhostC e xs c)(he:0≤e∧e≤3)(hok:qai c=true)(hs:Still c)(hcap:∀x∈c.workers,cE e x=false):outCells c e=resultOf c.graph e xs:=by
 have hg:=(qaH.1 hok).1;obtain⟨H,h⟩:=h;have fi:=fixpoint_inv hg he xs;have best:=fixpoint_ok c.graph e xs;have np:∀r,¬PdC c r:=by
  rintro r (⟨x,hx,k⟩ | ⟨l,hl,k⟩)
  ·obtain⟨s1,s2,_⟩:=hs.1 x hx;rw[s1,s2]at k;simp at k
  ·rw[hs.2.1 l hl]at k;cases k
 obtain⟨f1,f2⟩:=h.final (by
   rintro⟨x,hx,k⟩;rw[hcap x hx]at k;cases k) (fun q hq=>absurd hq (np q)) (by
   rintro z ⟨x,hx,r,hr,_⟩;rw[(hs.1 x hx).2.2]at hr;cases hr) (fun K k1 k2 k3=>fixpoint_least hg he k1 k2 k3) (fun a ha b hb hsl=>best_one best ha hb hsl) hg
 have hmem:∀z,z∈cellsIn c↔∃i,z∈memC c i:=fun z=>by
  unfold cellsIn;rw[cellsIn_go];constructor
  ·rintro (k | ⟨w,hw,k⟩)
   ·cases k
   ·obtain⟨i,hi⟩:=List.getElem?_of_mem hw;exact⟨i,by unfold memC;rw[hi];exact k⟩
  ·rintro⟨i,k⟩;unfold memC at k;cases hw:c.workers[i]? with
   | none=>rw[hw]at k;cases k
   | some w=>rw[hw]at k;exact .inr ⟨w,qag hw,k⟩
 refine sorted_ext ?_ ?_ fun z=>?_
 ·unfold outCells outsOnly;exact ((cellsIn_sorted List.Pairwise.nil).filter _).filter _
 ·unfold resultOf outsOnly;exact (fixpoint_sorted _ _ _).filter _
 ·unfold outCells resultOf outsOnly;rw[List.mem_filter,List.mem_filter,List.mem_filter,isOut_iff,hmem,zE];constructor
  ·rintro⟨⟨⟨i,hz⟩,h8⟩,hze⟩;exact⟨f1 i z hz hze h8,h8⟩
  ·rintro⟨hz,h8⟩;exact⟨⟨⟨_,f2 z hz h8⟩,h8⟩,(best.bound z hz).1⟩
theorem right_run{g:Graph}{xs:List Record}(hg:Drawn g)(hx:∀r∈xs,Input r)(hl:xs.length≤5)(ps:List Pick)(hp:ps.length≤10000):
  ∃(d:Cluster) (j:Nat),qce (qah (qaI g xs) ps).1 3000=(d,j)∧j<3000∧d.graph=g∧d.workers.length=g.workers.toNat∧qai d=true∧
   ∀e:Int,0≤e∧e≤3→∃f:Done,(∀w∈d.workers,qd3 w e=(f,true))∧(f.capped=false→outCells d e=resultOf g e xs):=by
 have hn:=qkr hg (by omega) hx;obtain⟨P,hP,h0⟩:=Live.new hg hx hl;subst hP;have h1:=h0.runs ps (by omega);have hph:=zce (qn0 ps h0.run (by omega)) (qtv hn hx);have hg1:(qah (qaI g P.xs) ps).1.graph=g:=(qgG ps (qaI g P.xs)).graph;obtain⟨d,j,T,e1,e2,e3,e4,e5,e6,_⟩:=qPQ hg hx hl rfl h1 (by omega) hph;have hwl:d.workers.length=g.workers.toNat:=by
  have k1:=(qkz (qaV 3000 0 3000).toNat (qah (qaI g P.xs) ps).1 0).wlen;change (qce (qah (qaI g P.xs) ps).1 3000).1.workers.length=_ at k1;rw[e1]at k1;rw[k1,(qgG ps (qaI g P.xs)).wlen];exact qgT g P.xs _
 refine⟨d,j,e1,e2,e5.trans hg1,hwl,e3.run.all.ok,fun e he=>?_⟩;obtain⟨f,f1,f2⟩:=qPS e3 e6 he;refine⟨f,f1,fun hf=>?_⟩;have gh:GhostC e P.xs d:=by
  have hb3:(qaV 3000 0 3000).toNat=3000:=by decide
  have:=ghost_fairGo he (qaV 3000 0 3000).toNat 0 h1 (by omega) (ghost_run he ps h0 (by omega) (GhostC.new hn e));change GhostC e P.xs (qce (qah (qaI g P.xs) ps).1 3000).1 at this;rwa[e1]at this
 have:=right_of gh he e3.run.all.ok e6.still (f2 hf);rwa[e5.trans hg1]at this
end Go.Proofs.YtdkobdhckkjmeaaGreat
