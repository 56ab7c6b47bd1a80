/- ClusterNew: what program and reference compute. -/
import Derived.Test.YtdkobdhckkjmeaaGreatP42
import Derived.Test.YtdkobdhckkjmeaaGreatP43
import Derived.Test.YtdkobdhckkjmeaaGreatP21
import Derived.Test.YtdkobdhckkjmeaaGreatGY
import Derived.Test.YtdkobdhckkjmeaaGreatP86
set_option linter.unusedVariables false
set_option linter.unusedSimpArgs false
namespace Go.Proofs.YtdkobdhckkjmeaaGreat
open Go.Sx Go.RowKit Go.Proofs.Tryz
def qcp(r:Record):Bool:=!qaC r||r.op != 0||r.stamp.turn != 0
def ownAt(g:Graph)(xs:List Record)(w e:Int):List Record:=xs.filter fun r=>r.stamp.epoch==e&&qay r.key g.workers==w
def ownTo(g:Graph)(xs:List Record)(w:Int)(n:Nat):List Record:=(List.range n).flatMap fun e=>ownAt g xs w (e:Nat)
def own(g:Graph)(xs:List Record)(w:Int):List Record:=ownTo g xs w 4
def qcc(xs:List Record):Worker:=⟨[],[],xs,[],List.replicate 4 0,List.replicate 4 false,List.replicate 4 false,[]⟩
def qbG(cap:Int):Link:=⟨qaV cap 1 4,[],qaV cap 1 4,0,0,0⟩
def tok0:Token:=⟨false,0,0,false,false⟩
def qcq(g:Graph)(xs:List Record)(n:Nat):List Worker:=(List.range n).map fun w=>qcc (own g xs (w:Nat))
def qaI(g:Graph)(xs:List Record):Cluster:=⟨g,qcq g xs g.workers.toNat,List.replicate (g.workers.toNat*g.workers.toNat) (qbG g.cap),List.replicate 4 tok0,[]⟩
def qsY:Cluster:=⟨⟨[],0,0⟩,[],[],[],[]⟩
def newOk(g:Graph)(xs:List Record):Bool:=qax g&&decide (xs.length≤20)&&!xs.any qcp
def qeG(g:Graph)(xs:List Record):Cluster×Bool:=if newOk g xs then (qaI g xs,true) else (qsY,false)
theorem qnq(g:Graph)(xs:List Record)(w:Int)(n:Nat):ownTo g xs w (n+1)=ownTo g xs w n++ownAt g xs w (n:Nat):=by
 simp[ownTo,List.range_succ]
theorem qsZ(g:Graph)(xs:List Record)(w:Int)(n:Nat):(ownTo g xs w n).length≤n*xs.length:=by
 have h:=qgl (fun e:Nat=>ownAt g xs w (e:Nat)) xs.length (fun _=>zat _ _) (List.range n);rwa[zct]at h
theorem qnr{g:Graph}{xs:List Record}(hl:xs.length≤20)(w:Int):(own g xs w).length≤80:=by
 have:=qsZ g xs w 4;unfold own;omega
theorem qs0{g:Graph}{xs:List Record}(hl:xs.length≤20)(w:Int){n:Nat}(hn:n<4):(ownTo g xs w n).length≤60:=by
 have:=qsZ g xs w n;have:n*xs.length≤3*20:=Nat.mul_le_mul (by omega) hl;omega
theorem qs1(g:Graph)(xs:List Record)(n:Nat):qcq g xs (n+1)=qcq g xs n++[qcc (own g xs (n:Nat))]:=by
 simp[qcq,List.range_succ]
theorem qgT(g:Graph)(xs:List Record)(n:Nat):(qcq g xs n).length=n:=by simp[qcq]
theorem qs2{α:Type}{f:α→List D}{x:α}{m:Nat}:(List.replicate m x).map f++[f x]=(List.replicate (m+1) x).map f:=by
 rw[List.replicate_succ',zU];rfl
theorem qLV(cap:Int):Rt 126 [.one (I cap)] [.agg (qbG cap).e]:=qLQ ⟨qjw cap 1 4,trivial⟩
theorem qLX(xs:List Record)(hl:xs.length≤1000):Rt 124 [.one (.sl 5 (xs.map Record.e))] [.agg (qcc xs).e]:=
 qLS ⟨nl _ (by simp;omega),nl1 _ (by simp;omega),qae _ Record.flat _,by omega,by omega,by decide,by omega,by omega,by omega,by decide,by omega,by omega,by omega,by decide,by omega,trivial⟩
theorem qLZ(g:Graph)(xs:List Record)(w:Int)(hn:1≤g.workers∧g.workers≤4)(hl:xs.length≤20):Rt 125 [.agg g.e,.one (.sl 5 (xs.map Record.e)),.one (I w)] [.one (.sl 5 ((own g xs w).map Record.e))]:=by
 have l1:=fun (e:Nat) (he:e<4) (acc:List Record) (ha:acc.length≤100)=>qao (P:=prog) (c:=(qaa f125 1)) (qaf 2) xs.length (fun i:Nat=>qd2 (g.nodes.map Node.e) g.workers g.cap (xs.map Record.e) w e i ((acc++(xs.take i).filter fun r=>r.stamp.epoch==(e:Int)&&qay r.key g.workers==w).map Record.e)) (fun i hi=>by
  obtain⟨r,hr⟩:=qal hi;have hf:((xs.take i).filter fun r=>r.stamp.epoch==(e:Int)&&qay r.key g.workers==w).length≤20:=by
   have:=zat (fun r:Record=>r.stamp.epoch==(e:Int)&&qay r.key g.workers==w) (xs.take i);have:=qgH i xs;omega
  rw[qe1 _ hr];generalize (xs.take i).filter (fun r=>r.stamp.epoch==(e:Int)&&qay r.key g.workers==w)=fs at*;have ow:=qrU r.key g.workers (by omega);cases h1:(r.stamp.epoch==(e:Int)) with
  | false=>
   rw[Bool.false_and,zo (by decide),zaa];exact qLL ⟨lt1 hi,lt0,lt2 hi,qac Record.e hr,h1,up1 hi (by omega),trivial⟩
  | true=>
   cases h2:(qay r.key g.workers==w) with
   | false=>
    rw[Bool.and_false,zo (by decide),zaa];exact qLK ⟨lt1 hi,lt0,lt2 hi,qac Record.e hr,h1,lt0,lt2 hi,qac Record.e hr,ow,h2,up1 hi (by omega),trivial⟩
   | true=>
    rw[zcs,zp rfl,←zba,qgF];exact qLJ ⟨lt1 hi,lt0,lt2 hi,qac Record.e hr,h1,lt0,lt2 hi,qac Record.e hr,ow,h2,lt0,lt2 hi,qac Record.e hr,by simp;omega,by simp;omega,qat (Record.flat r),up1 hi (by omega),trivial⟩) (qLM ⟨ge1,trivial⟩)
 have l0:=qao (P:=prog) (c:=(qaa f125 0)) (qaf 0) 4 (fun n:Nat=>qih (g.nodes.map Node.e) g.workers g.cap (xs.map Record.e) w n ((ownTo g xs w n).map Record.e)) (fun n hn=>by
  have:=l1 n hn (ownTo g xs w n) (by have:=qs0 (g:=g) hl w hn;omega);rw[zC,List.take_zero,List.filter_nil,zaa]at this;rw[qnq];exact qLN ⟨dT (by omega),this,⟨by omega,by omega⟩,trivial⟩) (qLO ⟨dF (by omega),trivial⟩)
 exact qLP ⟨l0,trivial⟩
theorem qgU{g:Graph}{xs:List Record}(h:newOk g xs=false):qeG g xs=(qsY,false):=by unfold qeG;rw[h];rfl
theorem qkk{g:Graph}{xs:List Record}(h:newOk g xs=true):qeG g xs=(qaI g xs,true):=by unfold qeG;rw[h];rfl
theorem qL0(g:Graph)(xs:List Record)(hl:xs.length≤20):
  (xs.any qcp=false∧qam prog (qaa f17 0) (qdg (xs.map Record.e) 0 0 0 (g.nodes.map Node.e) g.workers g.cap) (.exit 0) (qnl (xs.map Record.e) 0 0 (g.nodes.map Node.e) g.workers g.cap))∨
  (xs.any qcp=true∧qam prog (qaa f17 0) (qdg (xs.map Record.e) 0 0 0 (g.nodes.map Node.e) g.workers g.cap) .ret (qgO false 0 0)):=by
 have l:=qaX (P:=prog) (c:=(qaa f17 0)) xs qcp (fun i=>qdg (xs.map Record.e) i 0 0 (g.nodes.map Node.e) g.workers g.cap) (e1:=.ret) (e2:=.exit 0) (X:=fun _ _=>qgO false 0 0) qaF (qaf 0)
  (fun i a ha h=>by
   simp only[qcp,zy]at h;have hi:=lt_of ha;exact qLj ⟨lt1 hi,lt0,lt2 hi,qac Record.e ha,qdT a,h.1.1,lt0,lt2 hi,qac Record.e ha,h.1.2,lt0,lt2 hi,qac Record.e ha,h.2,up1 hi (by omega),trivial⟩)
  (fun i a ha h=>by
   have hi:=lt_of ha;have kr:=qdT a;unfold qcp at h;cases h1:(!qaC a) with
   | true=>exact qLg ⟨lt1 hi,lt0,lt2 hi,qac Record.e ha,kr,h1,trivial⟩
   | false=>
    cases h2:(a.op != 0) with
    | true=>exact qLh ⟨lt1 hi,lt0,lt2 hi,qac Record.e ha,kr,h1,lt0,lt2 hi,qac Record.e ha,h2,trivial⟩
    | false=>
     rw[h1,h2,zal,zal]at h;exact qLi ⟨lt1 hi,lt0,lt2 hi,qac Record.e ha,kr,h1,lt0,lt2 hi,qac Record.e ha,h2,lt0,lt2 hi,qac Record.e ha,h,trivial⟩)
  (qLk ⟨ge1,trivial⟩)
 rcases l with⟨_,_,h1,h2⟩ | ⟨i,a,_,_,_,_,h1,h2⟩
 ·exact .inl ⟨h1,h2⟩
 ·exact .inr ⟨h1,h2⟩
theorem qL1(g:Graph)(xs:List Record)(hn:1≤g.workers∧g.workers≤4)(hl:xs.length≤20):
  qam prog (qaa f17 1) (qgP (xs.map Record.e) 0 (g.nodes.map Node.e) g.workers g.cap [] [] ((List.replicate 4 tok0).map Token.e) 0 0 (g.nodes.map Node.e) g.workers g.cap) (.exit 2)
   (qnm (g.nodes.map Node.e) g.workers g.cap ((qcq g xs g.workers.toNat).map Worker.e) ((List.replicate (g.workers.toNat*g.workers.toNat) (qbG g.cap)).map Link.e) ((List.replicate 4 tok0).map Token.e) 0 0):=by
 obtain⟨n,hnn⟩:∃n:Nat,g.workers=n:=⟨g.workers.toNat,by omega⟩
 have hn4:n≤4:=by omega
 have l2:=fun (w:Nat) (m:Nat) (W T:List (List D)) (hm:m≤16)=>qao (P:=prog) (c:=(qaa f17 2)) (qaf 4) n (fun k:Nat=>qif (xs.map Record.e) w k (g.nodes.map Node.e) g.workers g.cap W ((List.replicate (m+k) (qbG g.cap)).map Link.e) T 0 0 (g.nodes.map Node.e) g.workers g.cap) (fun k hk=>by
  rw[←zcv,←qs2];exact qLm ⟨dT (by omega),qLV g.cap,by simp;omega,by simp;omega,⟨by omega,by omega⟩,trivial⟩) (qLn ⟨dF (by omega),trivial⟩)
 have l1:=qao (P:=prog) (c:=(qaa f17 1)) (qaf 2) n (fun w:Nat=>qgP (xs.map Record.e) w (g.nodes.map Node.e) g.workers g.cap ((qcq g xs w).map Worker.e) ((List.replicate (w*n) (qbG g.cap)).map Link.e) ((List.replicate 4 tok0).map Token.e) 0 0 (g.nodes.map Node.e) g.workers g.cap) (fun w hw=>by
  have hwl:=qgT g xs w;have hm:w*n≤3*4:=Nat.mul_le_mul (by omega) hn4;rw[qs1,qgF,show (w+1)*n=w*n+n by rw[zR,Nat.one_mul]];exact qLo ⟨dT (by omega),qLZ g xs w hn hl,qLX _ (by have:=qnr (g:=g) hl (w:Nat);omega),by simp[hwl];omega,by simp[hwl];omega,l2 w (w*n) _ _ (by omega),⟨by omega,by omega⟩,trivial⟩) (qLp ⟨dF (by omega),trivial⟩)
 rw[show ((0:Nat)*n)=0 by omega]at l1;rw[hnn,zae];rw[hnn]at l1;exact l1
theorem qs3(g:Graph)(xs:List Record)(hg:g.sz≤8388608):Rt 17 [.agg g.e,.one (.sl 5 (xs.map Record.e))] [.agg (qeG g xs).1.e,.one (B (qeG g xs).2)]:=by
 have gk:=qjE g hg;cases h1:qax g with
 | false=>
  rw[h1]at gk;rw[qgU (by unfold newOk;rw[h1];rfl)];exact qLe ⟨gk,rfl,trivial⟩
 | true=>
 rw[h1]at gk;by_cases hl:xs.length≤20
 case neg=>
  rw[qgU (by unfold newOk;rw[zt hl,Bool.and_false];rfl)];exact qLf ⟨gk,rfl,dT (by simp;omega),trivial⟩
 rcases qL0 g xs hl with⟨h2,l⟩ | ⟨h2,l⟩
 ·rw[qkk (by unfold newOk;rw[h1,h2,zap hl];rfl)];exact qLq ⟨gk,rfl,dF (by simp;omega),l,qsM g hg,by omega,by omega,by decide,by omega,qL1 g xs (qa8 h1) hl,trivial⟩
 ·rw[qgU (by unfold newOk;rw[h2];simp)];exact qLl ⟨gk,rfl,dF (by simp;omega),l,trivial⟩
end Go.Proofs.YtdkobdhckkjmeaaGreat
namespace Go.Proofs.YtdkobdhckkjmeaaGreat
open Go.Sx Go.RowKit Go.Proofs.Tryz
theorem qkl{α:Type}{f:α→Nat}{k:Nat}:∀{xs:List α},(∀x∈xs,f x≤k)→(xs.map f).sum≤xs.length*k
 | [],_=>by simp
 | a::xs,h=>by
  have h1:=h a (by simp);have h2:=qkl (f:=f) (k:=k) (xs:=xs) (fun x hx=>h x (by simp[hx]));simp only[zav,zcw,zq,zR,Nat.one_mul];omega
theorem qii{g:Graph}{xs:List Record}:newOk g xs=true↔qax g=true∧xs.length≤20∧xs.any qcp=false:=by
 simp only[newOk,zj,zi,zS,and_assoc]
theorem qs4{g:Graph}{xs:List Record}(h:newOk g xs=true):(qaI g xs).sz≤g.sz+1000:=by
 obtain⟨h1,h2,_⟩:=qii.1 h;have hn:=qa8 h1;obtain⟨n,hnn⟩:∃n:Nat,g.workers=n:=⟨g.workers.toNat,by omega⟩
 have a:=qkl (f:=Worker.sz) (k:=92) (xs:=qcq g xs n) (fun x hx=>by
  simp only[qcq,zbm]at hx;obtain⟨w,_,rfl⟩:=hx;have:=qnr (g:=g) h2 (w:Nat);simp only[qcc,Worker.sz,zh,List.length_replicate];omega)
 have b:=qkl (f:=Link.sz) (k:=0) (xs:=List.replicate (n*n) (qbG g.cap)) (fun x hx=>by
  rw[List.eq_of_mem_replicate hx];simp[qbG,Link.sz])
 have hm:n*n≤4*4:=Nat.mul_le_mul (by omega) (by omega);simp only[qaI,Cluster.sz,szS,hnn,zae,List.length_replicate,zh,qgT]at a b ⊢;omega
theorem qs5(g:Graph)(xs:List Record):GotLe (qaI g xs):=by
 intro l hl;have:=List.eq_of_mem_replicate hl;subst this;simp[qbG]
end Go.Proofs.YtdkobdhckkjmeaaGreat
namespace Go.Proofs.YtdkobdhckkjmeaaGreat
open Go.Sx Go.RowKit Go.Proofs.Tryz
structure Owns (c:Cluster):Prop where
 w:∀(i:Nat) x,c.workers[i]?=some x→(∀r∈x.queue,qay r.key c.graph.workers=i)∧∀r∈x.inputs,qay r.key c.graph.workers=i
 l:∀(i:Nat) l,c.links[i]?=some l→∀r∈l.queue,qay r.key c.graph.workers=(i:Int).tmod c.graph.workers
theorem Owns.ok{c:Cluster}(h:Owns c)(hn:1≤c.graph.workers):qgB c=true:=by
 unfold qgB;rw[qgD (p:=badW c.graph.workers) fun i x hx=>?_,qgD (p:=badL c.graph.workers) fun i l hl=>?_]
 ·rfl
 ·simp only[badL,zy,zf,zP,qdD,bne_iff_ne,zcc,Decidable.not_not];exact⟨by omega,h.l i l hl⟩
 ·simp only[badW,zy,zP,qdD,bne_iff_ne,zcc,Decidable.not_not];exact h.w i x hx
theorem Owns.setW{c:Cluster}{i:Int}{y:Worker}(h:Owns c)(hy:(∀r∈y.queue,qay r.key c.graph.workers=i.toNat)∧∀r∈y.inputs,qay r.key c.graph.workers=i.toNat):Owns (setW c i y):=
 ⟨fun j x hx=>by
  rcases qeD hx with⟨rfl,rfl⟩ | ⟨_,hx⟩
  ·exact hy
  ·exact h.w j x hx,h.l⟩
theorem Owns.setL{c:Cluster}{i:Int}{m:Link}(h:Owns c)(hm:∀r∈m.queue,qay r.key c.graph.workers=(i.toNat:Int).tmod c.graph.workers):Owns (setL c i m):=
 ⟨h.w,fun j l hl=>by
  rcases qeD hl with⟨rfl,rfl⟩ | ⟨_,hl⟩
  ·exact hm
  ·exact h.l j l hl⟩
theorem Owns.at{c:Cluster}{i:Int}{x:Worker}(h:Owns c)(hx:wAt c i=some x):(∀r∈x.queue,qay r.key c.graph.workers=i.toNat)∧∀r∈x.inputs,qay r.key c.graph.workers=i.toNat:=h.w _ x (qaD hx).2.2
theorem Owns.link{c:Cluster}{i:Int}{l:Link}(h:Owns c)(hl:lAt c i=some l):∀r∈l.queue,qay r.key c.graph.workers=(i.toNat:Int).tmod c.graph.workers:=h.l _ l (qbl hl).2.2
theorem Owns.setT{c:Cluster}{i:Int}{u:Token}(h:Owns c):Owns (setT c i u):=⟨h.w,h.l⟩
theorem qkm{g:Graph}{a b:Int}(h:0≤qaw g a b):inR a 0 (g.workers-1)=true∧inR b 0 (g.workers-1)=true:=by
 cases hc:(inR a 0 (g.workers-1)&&inR b 0 (g.workers-1)) with
 | true=>simpa using hc
 | false=>rw[qd0 hc]at h;omega
theorem Owns.tokenAt{c:Cluster}{e:Int}{t:Token}{x:Worker}(h:Owns c)(hx:wAt c t.place=some x):Owns (tokenAt c e t x).1:=by
 have hq:=h.at hx;rcases qcX c e t x with⟨_,h2⟩ | ⟨_,_,⟨_,h2⟩ | ⟨_,_,h2⟩ | ⟨_,h0,_,h2⟩ | ⟨_,_,_,h2⟩⟩
 ·rw[h2];exact h
 ·rw[h2];exact h.setT.setW hq
 ·rw[h2];exact h.setT.setW hq
 ·rw[h2];have hz:t.place=0:=by have:=(qaD hx).1;omega
  rw[hz]at hq;have k2:=(h.setT (i:=e) (u:=⟨false,t.place,t.sum,t.black,t.capped⟩)).setW (i:=0) (y:=told x e (t.capped||x.caps.getD e.toNat false)) hq;exact⟨k2.w,k2.l⟩
 ·rw[h2];exact⟨h.w,h.l⟩
theorem Owns.step{c d:Cluster}{p:Pick}(h:Owns c)(hok:qai c=true)(st:Step c p d):Owns d:=by
 have hn:=qa8 (qaH.1 hok).1;cases st with
 | work x r q hk hx hs hq=>
  have:=h.at hx;rw[hq]at this;exact h.setW ⟨fun a ha=>this.1 a (zg _ ha),this.2⟩
 | input x r t hk hx hs hq hi=>
  have:=(h.at hx).2;rw[hi]at this;exact h.setW ⟨fun a ha=>this a (by simp only[List.mem_singleton]at ha;rw[ha];exact zm ..),fun a ha=>this a (zg _ ha)⟩
 | keep x r t hk hx hs ho=>
  have:=h.at hx;have hp:=(qaD hx).1;refine h.setW ⟨fun a ha=>?_,this.2⟩;rcases zaz.1 ha with ha | ha
  ·exact this.1 a ha
  ·obtain rfl:a=r:=by simpa using ha
   omega
 | send x r t l hk hx hs ho hl hsend=>
  obtain⟨_,_,_,e1⟩:=qh1 hsend;obtain⟨g1,g2⟩:=qkm (qbl hl).1;obtain⟨_,_,_,_,p3⟩:=qeB hn g1 g2;have hp:=(qbl hl).1;have hw:=h.at hx;refine (h.setL (i:=qaw c.graph p.a (qay r.key c.graph.workers)) (m:=(qaz l r).1) fun a ha=>?_).setW (c:=Go.Proofs.YtdkobdhckkjmeaaGreat.setL c _ _) hw;rw[e1]at ha;rcases zaz.1 ha with ha | ha
  ·exact h.link hl a ha
  ·obtain rfl:a=r:=by simpa using ha
   rw[qhW hl,(qeB hn g1 g2).1,p3]
 | take l x hk hab hl hx ht=>
  obtain⟨_,r,q,hq,e2,e1⟩:=qfK ht;obtain⟨g1,g2⟩:=qkm (qbl hl).1;obtain⟨p0,_,_,_,p3⟩:=qeB hn g1 g2;have hlk:=h.link hl;rw[hq,qhW hl,p0,p3]at hlk;have hb:=(qaD hx).1;refine (h.setL (i:=qaw c.graph p.a p.b) (m:=(qaq l).1) fun a ha=>?_).setW (c:=Go.Proofs.YtdkobdhckkjmeaaGreat.setL c _ _) ⟨fun a ha=>?_,(h.at hx).2⟩
  ·rw[e1]at ha;rw[qhW hl,p0,p3];exact hlk a (zg _ ha)
  ·rcases zaz.1 ha with ha | ha
   ·exact (h.at hx).1 a ha
   ·obtain rfl:a=_:=by simpa using ha
    rw[e2];have:=hlk r (zm ..);change qay r.key c.graph.workers=_;omega
 | credit l hk hab hl hc=>
  rcases qfL l with⟨k,_⟩ | ⟨_,_,_,e1⟩
  ·rw[hc]at k;cases k
  refine h.setL fun a ha=>?_
  rw[e1]at ha;exact h.link hl a ha
 | token t x x0 hk hin h0 hd ht hx hdid=>exact h.tokenAt hx
 | hear k n x hk hn hd hx=>
  have hq:=h.at hx;have:=h.setW (i:=p.a) (y:=hears x n) (by
   unfold hears;split<;>exact hq)
  exact⟨this.w,this.l⟩
structure Bound (S:Int) (c:Cluster):Prop where
 sums:∀x∈c.workers,∀k:Nat,-S≤x.sums.getD k 0∧x.sums.getD k 0≤S
 sent:∀l∈c.links,l.sent≤S
 toks:∀t∈c.tokens,t.going=true→t.sum+200000*t.place≤600000∧-600000≤t.sum-200000*t.place
theorem qs6{S:Int}{xs:List Int}{f d:Int}(hd:-1≤d∧d≤1)(h:∀k:Nat,-S≤xs.getD k 0∧xs.getD k 0≤S)(k:Nat):-(S+1)≤(incAt xs f d).getD k 0∧(incAt xs f d).getD k 0≤S+1:=by
 unfold incAt;have h1:=h f.toNat;have h2:=h k;by_cases hf:f.toNat=k
 ·subst hf;by_cases hl:f.toNat<xs.length
  ·rw[qkd hl];omega
  ·rw[List.set_eq_of_length_le (by omega)];omega
 ·rw[qfN hf];omega
theorem Bound.mono{S T:Int}{c:Cluster}(h:Bound S c)(hT:S≤T):Bound T c:=
 ⟨fun x hx k=>by have:=h.sums x hx k;omega,fun l hl=>by have:=h.sent l hl;omega,h.toks⟩
theorem Bound.setW{S:Int}{c:Cluster}{i:Int}{y:Worker}(h:Bound S c)(hy:∀k:Nat,-S≤y.sums.getD k 0∧y.sums.getD k 0≤S):Bound S (setW c i y):=
 ⟨fun x hx=>by
  rcases zbf hx with hx | rfl
  ·exact h.sums x hx
  ·exact hy,h.sent,h.toks⟩
theorem Bound.setL{S:Int}{c:Cluster}{i:Int}{m:Link}(h:Bound S c)(hm:m.sent≤S):Bound S (setL c i m):=
 ⟨h.sums,fun l hl=>by
  rcases zbf hl with hl | rfl
  ·exact h.sent l hl
  ·exact hm,h.toks⟩
theorem Bound.setT{S:Int}{c:Cluster}{i:Int}{u:Token}(h:Bound S c)(hu:u.going=true→u.sum+200000*u.place≤600000∧-600000≤u.sum-200000*u.place):Bound S (setT c i u):=
 ⟨h.sums,h.sent,fun t ht=>by
  rcases zbf ht with ht | rfl
  ·exact h.toks t ht
  ·exact hu⟩
theorem Bound.at{S:Int}{c:Cluster}{i:Int}{x:Worker}(h:Bound S c)(hx:wAt c i=some x):∀k:Nat,-S≤x.sums.getD k 0∧x.sums.getD k 0≤S:=h.sums x (qag (qaD hx).2.2)
theorem Bound.tokenAt{S:Int}{c:Cluster}{e:Int}{t:Token}{x:Worker}(h:Bound S c)(hS:S≤200000)(hok:qai c=true)(ht:tAt c e=some t)(hx:wAt c t.place=some x):Bound S (tokenAt c e t x).1:=by
 have hw:=qna hok;have hb:=h.at hx;have htk:=h.toks t (qag (qfI ht).2.2);rcases qcX c e t x with⟨_,h2⟩ | ⟨_,_,⟨_,h2⟩ | ⟨hg,h0,h2⟩ | ⟨_,h0,_,h2⟩ | ⟨_,_,_,h2⟩⟩
 ·rw[h2];exact h
 ·rw[h2];exact (h.setT fun _=>⟨by dsimp only;omega,by dsimp only;omega⟩).setW hb
 ·rw[h2];have h3:=hb e.toNat;have h4:=htk hg;exact (h.setT fun _=>⟨by dsimp only;omega,by dsimp only;omega⟩).setW hb
 ·rw[h2];have:=(h.setT (i:=e) (u:=⟨false,t.place,t.sum,t.black,t.capped⟩) (fun k=>by cases k)).setW (i:=0) (y:=told x e (t.capped||x.caps.getD e.toNat false)) hb;exact⟨this.sums,this.sent,this.toks⟩
 ·rw[h2];exact h.setT fun k=>by cases k
theorem Bound.step{S:Int}{c d:Cluster}{p:Pick}(h:Bound S c)(hS:S<200000)(hok:qai c=true)(st:Step c p d):Bound (S+1) d:=by
 have h':=h.mono (show S≤S+1 by omega);cases st with
 | work x r q hk hx hs hq=>have hb:=h'.at hx;exact h'.setW hb
 | input x r t hk hx hs hq hi=>have hb:=h'.at hx;exact h'.setW hb
 | keep x r t hk hx hs ho=>have hb:=h'.at hx;exact h'.setW hb
 | send x r t l hk hx hs ho hl hsend=>
  obtain⟨_,_,_,e1⟩:=qh1 hsend;have:=h.sent l (qag (qbl hl).2.2);have hb:=qs6 (f:=r.stamp.epoch) (d:=1) (by omega) (h.at hx);exact (h'.setL (by rw[e1];dsimp only;omega)).setW hb
 | take l x hk hab hl hx ht=>
  obtain⟨_,r,q,hq,e2,e1⟩:=qfK ht;have:=h.sent l (qag (qbl hl).2.2);have hb:=qs6 (f:=(qaq l).2.1.stamp.epoch) (d:=-1) (by omega) (h.at hx);exact (h'.setL (by rw[e1];dsimp only;omega)).setW hb
 | credit l hk hab hl hc=>
  rcases qfL l with⟨k,_⟩ | ⟨_,_,_,e1⟩
  ·rw[hc]at k;cases k
  have:=h.sent l (qag (qbl hl).2.2);exact h'.setL (by rw[e1];dsimp only;omega)
 | token t x x0 hk hin h0 hd ht hx hdid=>exact (h.tokenAt (by omega) hok ht hx).mono (by omega)
 | hear k n x hk hn hd hx=>
  have hb:=h'.at hx;have:=h'.setW (i:=p.a) (y:=hears x n) (by
   unfold hears;split<;>exact hb)
  exact⟨this.sums,this.sent,this.toks⟩
theorem qL6{S:Int}{c:Cluster}(p:Pick)(hok:qai c=true)(hb:Bound S c)(hS:S<1000000):qai (stepPick c p).1=true:=by
 have hn:=qa8 (qaH.1 hok).1;have key:∀{i:Int} {x:Worker},wAt c i=some x→∀(k:Nat) (d:Int),-1≤d∧d≤1→inR (x.sums.getD k 0+d) (-1000000) 1000000=true:=fun hx k d hd=>by
  have:=hb.at hx k;simp only[inR,zi];omega
 unfold stepPick;split
 ·exact qsm hok
 split
 ·exact qsn hok
 split
 ·unfold qbk;rw[zp hok];cases hx:wAt c p.a with
  | none=>exact hok
  | some x=>
   dsimp only;cases hs:x.staged with
   | nil=>exact hok
   | cons r t=>
    dsimp only;unfold qda;split
    ·exact qsk hok hx hs
    ·rename_i ho;cases hl:lAt c (qaw c.graph p.a (qay r.key c.graph.workers)) with
     | none=>exact hok
     | some l=>
      dsimp only;split
      ·rename_i h;exact (qsj hok hx hs (qhV _ hn.1) ho hl h).trans (key hx _ 1 (by omega))
      ·exact hok
 split
 ·unfold qbx;split
  ·cases hl:lAt c (qaw c.graph p.a p.b) with
   | none=>exact hok
   | some l=>
    cases hx:wAt c p.b with
    | none=>exact hok
    | some x=>
     dsimp only;split
     ·rename_i h;exact (qsl hok hl hx h).trans (key hx _ (-1) (by omega))
     ·exact hok
  ·exact hok
 split
 ·exact qso hok
 split
 ·exact qsq hok
 split
 ·exact qsr hok
 ·exact hok
structure AllInv (S:Int) (c:Cluster):Prop where
 ok:qai c=true
 owns:Owns c
 bound:Bound S c
 inv:∀e:Int,0≤e∧e≤3→Inv e c
theorem AllInv.mono{S T:Int}{c:Cluster}(h:AllInv S c)(hT:S≤T):AllInv T c:=⟨h.ok,h.owns,h.bound.mono hT,h.inv⟩
theorem AllInv.step{S:Int}{c:Cluster}(h:AllInv S c)(hS:S<200000)(p:Pick):AllInv (S+1) (stepPick c p).1:=by
 have hok:=qL6 p h.ok h.bound (by omega);rcases qfM c p with⟨_,h2⟩ | ⟨_,_,st⟩
 ·rw[h2];exact h.mono (by omega)
 ·exact⟨hok,h.owns.step h.ok st,h.bound.step hS h.ok st,fun e he=>(h.inv e he).step he h.ok st⟩
theorem AllInv.run{c:Cluster}:∀(l:List Pick) {S:Int} {c:Cluster},AllInv S c→S+l.length≤200000→AllInv (S+l.length) (qah c l).1
 | [],S,c,h,_=>by simpa[qah]using h
 | p::l,S,c,h,hS=>by
  simp only[zq]at hS ⊢;have:=AllInv.run (c:=c) l (h.step (by omega) p) (by omega);simp only[qah];rw[show S+((l.length+1:Nat):Int)=S+1+l.length by omega];exact this
theorem qkn{g:Graph}{xs:List Record}{w:Int}{r:Record}(h:r∈own g xs w):r∈xs∧qay r.key g.workers=w:=by
 simp only[own,ownTo,zar,ownAt,List.mem_filter,zj,zE]at h;obtain⟨_,_,h1,_,h2⟩:=h;exact⟨h1,h2⟩
theorem qko{g:Graph}{xs:List Record}{n i:Nat}{x:Worker}(h:(qcq g xs n)[i]?=some x):x=qcc (own g xs (i:Nat))∧i<n:=by
 have hi:=lt_of h;rw[qgT]at hi;unfold qcq at h;rw[zr,List.getElem?_range hi]at h;exact⟨(zx h).symm,hi⟩
end Go.Proofs.YtdkobdhckkjmeaaGreat
namespace Go.Proofs.YtdkobdhckkjmeaaGreat
open Go.Sx Go.RowKit Go.Proofs.Tryz
theorem qs8(g:Graph)(xs:List Record)(w:Int):∀n:Nat,(ownTo g xs w n).Pairwise (fun a b=>a.stamp.epoch≤b.stamp.epoch)∧∀r∈ownTo g xs w n,r.stamp.epoch<n
 | 0=>⟨List.Pairwise.nil,fun r hr=>by simp[ownTo]at hr⟩
 | n+1=>by
  obtain⟨h1,h2⟩:=qs8 g xs w n;have h3:∀r∈ownAt g xs w (n:Nat),r.stamp.epoch=(n:Nat):=fun r hr=>by
   simp only[ownAt,List.mem_filter,zj,zE]at hr;exact hr.2.1
  rw[qnq];refine⟨List.pairwise_append.2 ⟨h1,?_,fun a ha b hb=>?_⟩,fun r hr=>?_⟩
  ·exact List.pairwise_of_forall_mem_list fun a ha b hb=>by rw[h3 a ha,h3 b hb];exact Int.le_refl _
  ·have:=h2 a ha;have:=h3 b hb;omega
  ·rcases zaz.1 hr with hr | hr
   ·have:=h2 r hr;omega
   ·have:=h3 r hr;omega
theorem qs9{α:Type}{R:α→α→Prop}:∀{xs:List α},xs.Pairwise R→∀{j:Nat} {a b:α},xs[j]?=some a→xs[j+1]?=some b→R a b
 | [],_,_,_,_,h,_=>by simp at h
 | x::xs,hp,0,a,b,h1,h2=>by
  obtain rfl:x=a:=by simpa using h1
  exact (List.pairwise_cons.1 hp).1 b (qag (i:=0) (by simpa using h2))
 | x::xs,hp,j+1,a,b,h1,h2=>qs9 (List.pairwise_cons.1 hp).2 (j:=j) (by simpa using h1) (by simpa using h2)
theorem qMb{g:Graph}{xs:List Record}(h:newOk g xs=true)(w:Int):qaK g (qcc (own g xs w))=true:=by
 obtain⟨h1,_,h3⟩:=qii.1 h;have hl:1≤(g.nodes.length:Int):=by
  simp only[qax,zj,inR,zi]at h1;omega
 have good:∀r∈own g xs w,qaC r=true∧r.op=0∧r.stamp.turn=0:=fun r hr=>by
  rw[zP]at h3;have:=h3 r (qkn hr).1;simp only[qcp,zbi,zS,bne_iff_ne,zcc,not_or,Bool.not_eq_false,Decidable.not_not]at this;exact⟨this.1.1,this.1.2,this.2⟩
 refine qbd.2 ⟨rfl,rfl,?_,rfl,rfl,rfl,rfl,?_,rfl,rfl⟩
 ·simp only[qaW,zS,zP,qcc];intro r hr;obtain⟨k1,k2,_⟩:=good r hr;simp only[qbB,k1,k2,zZ,zal,zi];omega
 ·refine qgD fun i a ha=>?_
  change (own g xs w)[i]?=some a at ha;obtain⟨_,k2,k3⟩:=good a (qag ha);cases i with
  | zero=>unfold inBad;rw[k2,k3];rfl
  | succ j=>
   unfold inBad;rw[k2,k3];change (match (own g xs w)[j]? with | some q=>decide (q.stamp.epoch>a.stamp.epoch) | none=>false)=false;cases hq:(own g xs w)[j]? with
   | none=>rfl
   | some q=>
    have:=qs9 (qs8 g xs w 4).1 hq ha;simp only[zf];omega
theorem qMc{g:Graph}{xs:List Record}(h:newOk g xs=true):qai (qaI g xs)=true:=by
 obtain⟨h1,_,_⟩:=qii.1 h;have hn:=qa8 h1;have hc:1≤g.cap∧g.cap≤4:=by
  simp only[qax,zj,inR,zi]at h1;omega
 have hcap:qaV g.cap 1 4=g.cap:=by unfold qaV;rw[zo (by omega),zo (by omega),zo (by omega)]
 refine qaH.2 ⟨h1,?_,?_,rfl,?_,?_,?_,rfl⟩
 ·simp only[qaI,qgT];omega
 ·simp only[qaI,List.length_replicate,Int.natCast_mul];rw[Int.toNat_of_nonneg (by omega)]
 ·rw[zP];intro x hx;obtain⟨i,hi⟩:=List.getElem?_of_mem hx;obtain⟨rfl,_⟩:=qko hi;rw[show (qaI g xs).graph=g from rfl,qMb h];decide
 ·refine qgD fun i l hl=>?_
  have:=List.eq_of_mem_replicate (qag hl);subst this;refine qcB.2 ⟨qcn.2 ⟨?_,?_,?_,?_,rfl,?_,rfl,rfl⟩,?_,rfl,fun _=>rfl⟩
  ·simp only[qbG,hcap,inR,zi];omega
  ·simp only[qbG,hcap,inR,zi];omega
  ·simp only[qbG,hcap,inR,zi];omega
  ·simp only[qbG,zh];omega
  ·simp only[qbG];omega
  ·simp only[qbG,hcap];rfl
 ·rw[zP];intro t ht;have:=List.eq_of_mem_replicate ht;subst this;rw[show qbP (qaI g xs).graph.workers tok0=false from qdF.2 ⟨⟨by decide,by change (0:Int)≤g.workers-1;omega⟩,fun _=>rfl,by decide⟩];decide
theorem qta{α:Type}{f:α→Int}:∀{xs:List α},(∀x∈xs,f x=0)→(xs.map f).sum=0
 | [],_=>rfl
 | a::xs,h=>by
  rw[zav,zcw,h a (zm ..),qta fun x hx=>h x (zg _ hx)];rfl
theorem AllInv.new{g:Graph}{xs:List Record}(h:newOk g xs=true):AllInv 0 (qaI g xs):=by
 have hw:∀x∈(qaI g xs).workers,∃w:Nat,x=qcc (own g xs w):=fun x hx=>by
  obtain⟨i,hi⟩:=List.getElem?_of_mem hx;exact⟨i,(qko hi).1⟩
 have hlk:∀l∈(qaI g xs).links,l=qbG g.cap:=fun l hl=>List.eq_of_mem_replicate hl
 have zero:∀(k:Nat),(List.replicate 4 (0:Int)).getD k 0=0:=fun k=>by
  rw[zN,zbo];split<;>rfl
 refine⟨qMc h,⟨fun i x hx=>?_,fun i l hl=>?_⟩,⟨fun x hx k=>?_,fun l hl=>?_,fun t ht hg=>?_⟩,fun e he=>⟨?_,fun t ht hg=>?_,fun hT=>?_⟩⟩
 ·obtain⟨rfl,_⟩:=qko hx;exact⟨fun r hr=>by simp[qcc]at hr,fun r hr=>(qkn hr).2⟩
 ·rw[hlk l (qag hl)];intro r hr;simp[qbG]at hr
 ·obtain⟨w,rfl⟩:=hw x hx;have:=zero k;simp only[qcc];omega
 ·rw[hlk l hl];exact Int.le_refl _
 ·rw[List.eq_of_mem_replicate ht]at hg;cases hg
 ·have h1:preS e (qaI g xs) (qaI g xs).workers.length=0:=by
   refine qta fun x hx=>?_
   obtain⟨w,rfl⟩:=hw x (zbh hx);exact zero _
  have h2:infl e (qaI g xs)=0:=by
   unfold infl sumS;have:=qkl (f:=qbp e) (k:=0) (xs:=(qaI g xs).links) (fun l hl=>by rw[hlk l hl];simp[qbp,qa5,qbG]);omega
  rw[h1,h2];rfl
 ·obtain⟨_,_,h2⟩:=qfI ht;rw[List.eq_of_mem_replicate (qag h2)]at hg;cases hg
 ·exfalso;have h1:toldW (qaI g xs) e=false:=by
   unfold toldW;rw[zP];intro x hx;obtain⟨w,rfl⟩:=hw x hx;simp[qaA,qcc]
  rw[h1]at hT;simp[toldN,qaI]at hT
theorem AllInv.drawn{g:Graph}{xs:List Record}(h:newOk g xs=true)(l:List Pick)(hl:l.length≤200000):AllInv l.length (qah (qaI g xs) l).1:=by
 have:=(AllInv.new h).run (c:=qaI g xs) l (by omega);rwa[Int.zero_add]at this
end Go.Proofs.YtdkobdhckkjmeaaGreat
namespace Go.Proofs.YtdkobdhckkjmeaaGreat
open Go.Sx Go.RowKit Go.Proofs.Tryz
def runD(c:Cluster)(b:Bool):List D:=[.sl 4 (c.graph.nodes.map Node.e),I c.graph.workers,I c.graph.cap,.sl 8 (c.workers.map Worker.e),.sl 6 (c.links.map Link.e),.sl 5 (c.tokens.map Token.e),.sl 3 (c.news.map News.e),B b]
abbrev runE(c:Cluster):List D:=runD c (qai c)
theorem qkt(w:Worker)(e:Int)(r:Bool)(h:qaA w e=r)(hw:w.sz≤8388608):Rt 163 [.agg w.e,.one (I e)] [.one (B r)]:=h▸qrB w e hw
theorem qnD{α:Type}{f:α→List D}{xs:List α}{i:Nat}{a:α}:(xs.map f).set i (f a)=(xs.set i a).map f:=List.map_set.symm
theorem qb3{c:Cluster}{i:Int}{x:Worker}(h:wAt c i=some x):0≤i∧i<(↑(c.workers.map Worker.e).length:Int)∧(c.workers.map Worker.e)[i.toNat]?=some x.e:=by
 obtain⟨h1,h2,h3⟩:=qaD h;exact⟨h1,by rw[zb];omega,qad Worker.e h3⟩
theorem qcd{c:Cluster}{i:Int}{x:Worker}(h:wAt c i=some x)(hc:c.sz≤8388608):x.sz≤8388608:=Cluster.worker_sz1 hc (qag (qaD h).2.2)
theorem qnE{c:Cluster}(h:qai c=true){i:Nat}{n:News}(hn:c.news[i]?=some n){w:Int}(hw:(n.dest==w)=true):∃x,wAt c w=some x:=by
 have hb:=qm8 h hn;simp only[qbQ,inR,zy,zX,zi]at hb;have h2:=(qaH.1 h).2.1;have e:=eq_of_beq hw;exact qcC (by omega) (by omega)
theorem qtx{c:Cluster}{w:Int}{i:Nat}{n:News}{x:Worker}(h1:c.news.findIdx? (fun n=>n.dest==w)=some i)(hok:qai c=true)(hn:c.news[i]?=some n)(hx:wAt c w=some x):qby c w=(setN (setW c w (hears x n)) (cutAt c.news i),true):=by
 unfold qby;simp only[h1,hok,zbb,hn,hx]
theorem qM1(c:Cluster)(w:Int)(hc:c.sz≤8388608)(hw:GotLe c):Rt 151 [.agg c.e,.one (I w)] [.agg (qby c w).1.e,.one (B (qby c w).2)]:=by
 have hl:=qfF hc;have cp:=qdf c hc;have ix:=qqZ c.news (fun n=>n.dest==w) 260 [.ptr [I w]] hl (by kernel_rfl) (fun x _=>qKc trivial);have ok:=qhR c hc hw;unfold idxI at ix;cases h1:c.news.findIdx? (fun n=>n.dest==w) with
 | none=>
  simp only[h1]at ix;rw[show qby c w=(c,false) by unfold qby;simp only[h1]];exact qKd ⟨cp,ix,dT (by omega),trivial⟩
 | some i=>
  simp only[h1]at ix;cases hok:qai c with
  | false=>
   rw[hok]at ok;rw[show qby c w=(c,false) by unfold qby;simp[h1,hok]];exact qKe ⟨cp,ix,dF (by omega),ok,rfl,trivial⟩
  | true=>
   rw[hok]at ok;obtain⟨hi,hp,_⟩:=zai.1 h1;have ha:c.news[i]?=some c.news[i]:=zu hi;generalize c.news[i]=a at ha hp;obtain⟨x,hx⟩:=qnE hok ha hp;obtain⟨w0,w1,w2⟩:=qb3 hx;have hs:=qcd hx hc;rw[qtx h1 hok ha hx];have dl:=qLc c.news i (i+1) (by omega) (by omega);rw[show (((i+1:Nat):Int))=(i:Int)+1 by omega]at dl;cases hd:qaA x a.epoch with
   | true=>
    rw[show hears x a=x by unfold hears;rw[hd];rfl,qdZ hx];exact qKg ⟨cp,ix,dF (by omega),ok,rfl,lt0,lt2 hi,qac News.e ha,up1 hi hl,dl,w0,w1,w2,qkt x a.epoch true hd hs,rfl,trivial⟩
   | false=>
    have hdl:x.dones.length≤8388608:=by simp only[Worker.sz]at hs;omega
    have e2:(setW c w (hears x a)).workers.map Worker.e=(c.workers.map Worker.e).set w.toNat (told x a.epoch a.capped).e:=by
     rw[show hears x a=told x a.epoch a.capped by unfold hears;rw[hd];rfl];exact qnD.symm
    have e3:(told x a.epoch a.capped).e=[.sl 5 (x.queue.map Record.e),.sl 5 (x.staged.map Record.e),.sl 5 (x.inputs.map Record.e),.sl 4 (x.cells.map Cell.e),.sl 1 (x.sums.map eI),.sl 1 (x.black.map eB),.sl 1 (x.caps.map eB),.sl 2 (x.dones.map Done.e++[[I a.epoch,B a.capped]])]:=by
     simp only[told,Worker.e,zU];rfl
    have e4:(setN (setW c w (hears x a)) (cutAt c.news i)).e=[.sl 4 (c.graph.nodes.map Node.e),I c.graph.workers,I c.graph.cap,.sl 8 ((c.workers.map Worker.e).set w.toNat (told x a.epoch a.capped).e),.sl 6 (c.links.map Link.e),.sl 5 (c.tokens.map Token.e),.sl 3 ((cutAt c.news i).map News.e)]:=by
     rw[←e2];rfl
    rw[e4,e3];exact qKf ⟨cp,ix,dF (by omega),ok,rfl,lt0,lt2 hi,qac News.e ha,up1 hi hl,dl,w0,w1,w2,qkt x a.epoch false hd hs,rfl,w0,w1,w2,by simp;omega,by simp;omega,w2,rfl,qat (Done.flat ⟨a.epoch,a.capped⟩),rfl,rfl,rfl,rfl,rfl,rfl,rfl,rfl,w0,w1,w2,rfl,trivial⟩
end Go.Proofs.YtdkobdhckkjmeaaGreat
namespace Go.Proofs.YtdkobdhckkjmeaaGreat
open Go.Sx Go.RowKit Go.Proofs.Tryz
theorem beq0(a b:Nat):(((a:Int)+(b:Int))==0)=(a+b==0):=by
 rw[Bool.eq_iff_iff];simp only[zE];omega
theorem qM3(w:Worker)(e:Int)(hw:w.sz≤8388608):Rt 272 [.agg w.e,.one (I e)] [.one (B (qfG w e))]:=by
 have hl:w.inputs.length≤8388608:=by simp only[Worker.sz]at hw;omega
 exact qK1 ⟨qqY w.inputs (fun r=>decide (r.stamp.epoch≤e)) 319 [.ptr [I e]] hl (by kernel_rfl) (fun x _=>qK2 trivial),trivial⟩
theorem qM6(w:Worker)(e:Int)(hw:w.sz≤8388608):Rt 273 [.agg w.e,.one (I e)] [.one (I ((↑((qa5 e w.queue).map Record.e).length:Int)+(↑((qa5 e w.staged).map Record.e).length:Int)))]:=by
 simp only[Worker.sz]at hw;have k1:(qa5 e w.queue).length≤w.queue.length:=zat _ _;have k2:(qa5 e w.staged).length≤w.staged.length:=zat _ _;exact qK5 ⟨qgq w.queue e (by omega),qgq w.staged e (by omega),⟨by simp only[zb];omega,by simp only[zb];omega⟩,trivial⟩
theorem qM7(w:Worker)(e:Int)(hw:w.sz≤8388608):Rt 164 [.agg w.e,.one (I e)] [.one (B (qbF w e))]:=by
 have o:=qM3 w e hw;unfold qbF;cases h:qfG w e with
 | true=>rw[h]at o;exact qK4 ⟨o,rfl,trivial⟩
 | false=>
  rw[h]at o;have a:=qM6 w e hw;rw[zb,zb]at a;have b:=qK3 ⟨o,rfl,a,trivial⟩;rw[beq0]at b;exact b
theorem qtz(w:Worker)(e:Int)(r:Bool)(h:qbF w e=r)(hw:w.sz≤8388608):Rt 164 [.agg w.e,.one (I e)] [.one (B r)]:=h▸qM7 w e hw
end Go.Proofs.YtdkobdhckkjmeaaGreat
namespace Go.Proofs.YtdkobdhckkjmeaaGreat
open Go.Sx Go.RowKit Go.Proofs.Tryz
theorem qtA{c:Cluster}{i:Int}{t:Token}(h:tAt c i=some t):0≤i∧i<(↑(c.tokens.map Token.e).length:Int)∧(c.tokens.map Token.e)[i.toNat]?=some t.e:=by
 obtain⟨h1,h2,h3⟩:=qfI h;exact⟨h1,by rw[zb];omega,qad Token.e h3⟩
theorem int4{xs:List Int}{e:Int}(h4:xs.length=4)(he:0≤e∧e≤3):e<(↑(xs.map eI).length:Int)∧(xs.map eI)[e.toNat]?=some [I (xs.getD e.toNat 0)]:=by
 have hl:e.toNat<xs.length:=by omega
 refine⟨by rw[zb];omega,?_⟩;rw[zr,zu hl,zN,zu hl];rfl
theorem bool4{xs:List Bool}{e:Int}(h4:xs.length=4)(he:0≤e∧e≤3):e<(↑(xs.map eB).length:Int)∧(xs.map eB)[e.toNat]?=some [B (xs.getD e.toNat false)]:=by
 have hl:e.toNat<xs.length:=by omega
 refine⟨by rw[zb];omega,?_⟩;rw[zr,zu hl,zN,zu hl];rfl
theorem gs1{l:List (List D)}{i:Int}{a:List D}(h0:0≤i)(h:i<(↑l.length:Int)):(l.set i.toNat a)[i.toNat]?=some a:=List.getElem?_set_self (by omega)
theorem gs2{l:List (List D)}{i:Int}{a b:List D}(h0:0≤i)(h:i<(↑l.length:Int)):((l.set i.toNat a).set i.toNat b)[i.toNat]?=some b:=by rw[zam];exact gs1 h0 h
theorem gs3{l:List (List D)}{i:Int}{a b d:List D}(h0:0≤i)(h:i<(↑l.length:Int)):(((l.set i.toNat a).set i.toNat b).set i.toNat d)[i.toNat]?=some d:=by rw[zam,zam];exact gs1 h0 h
theorem qkv(x:Worker)(e:Int):(qaB x e).e=[.sl 5 (x.queue.map Record.e),.sl 5 (x.staged.map Record.e),.sl 5 (x.inputs.map Record.e),.sl 4 (x.cells.map Cell.e),.sl 1 (x.sums.map eI),.sl 1 ((x.black.map eB).set e.toNat [B false]),.sl 1 (x.caps.map eB),.sl 2 (x.dones.map Done.e)]:=by
 simp only[qaB,Worker.e,zau];rfl
theorem qtB(x:Worker)(e:Int)(b:Bool):(told x e b).e=[.sl 5 (x.queue.map Record.e),.sl 5 (x.staged.map Record.e),.sl 5 (x.inputs.map Record.e),.sl 4 (x.cells.map Cell.e),.sl 1 (x.sums.map eI),.sl 1 (x.black.map eB),.sl 1 (x.caps.map eB),.sl 2 (x.dones.map Done.e++[[I e,B b]])]:=by
 simp only[told,Worker.e,zU];rfl
theorem qtC(c:Cluster)(e p:Int)(t:Token)(y:Worker):(setW (setT c e t) p y).e=[.sl 4 (c.graph.nodes.map Node.e),I c.graph.workers,I c.graph.cap,.sl 8 ((c.workers.map Worker.e).set p.toNat y.e),.sl 6 (c.links.map Link.e),.sl 5 ((c.tokens.map Token.e).set e.toNat t.e),.sl 3 (c.news.map News.e)]:=by
 simp only[setW,setT,Cluster.e,zau]
theorem qnF(c:Cluster)(e:Int)(t:Token):(setT c e t).e=[.sl 4 (c.graph.nodes.map Node.e),I c.graph.workers,I c.graph.cap,.sl 8 (c.workers.map Worker.e),.sl 6 (c.links.map Link.e),.sl 5 ((c.tokens.map Token.e).set e.toNat t.e),.sl 3 (c.news.map News.e)]:=by
 simp only[setT,Cluster.e,zau]
theorem qnG(n:Nat)(e:Int)(b:Bool):qaR (n+1) e b=qaR n e b++[⟨(n:Int)+1,e,b⟩]:=by simp[qaR,List.range_succ]
theorem qnH(n:Nat)(e:Int)(b:Bool):(qaR n e b).length=n:=by simp[qaR]
theorem qtE{c:Cluster}{e:Int}{x0 x:Worker}{t:Token}(ok:qai c=true)(he:inR e 0 3=true)(h0:wAt c 0=some x0)(ht:tAt c e=some t)(hd:qaA x0 e=false)(hx:wAt c t.place=some x):qbc c e=tokenAt c e t x:=by
 unfold qbc;simp only[ok,he,Bool.and_self,zbb,h0,ht,hd,zao,zci,hx]
theorem qtF{c:Cluster}{e:Int}(ok:qai c=true)(he:inR e 0 3=true):∃x0 t x,wAt c 0=some x0∧tAt c e=some t∧wAt c t.place=some x∧0<c.workers.length∧c.workers.length≤4∧
  (0≤t.place∧t.place≤3)∧(t.going=false→t.place=0)∧(-1000000≤t.sum∧t.sum≤1000000)∧x.sums.length=4∧x.black.length=4∧x.caps.length=4∧(-1000000≤x.sums.getD e.toNat 0∧x.sums.getD e.toNat 0≤1000000):=by
 obtain⟨h1,h2,h3,h4,h5,h6,h7,h8⟩:=qaH.1 ok;have hn:=qa8 h1;obtain⟨x0,h0⟩:=qcC (c:=c) (i:=0) (by omega) (by omega);obtain⟨t,ht⟩:=qsg ok he;obtain⟨t1,t2,t3⟩:=qdF.1 (qgE ok ht);obtain⟨x,hx⟩:=qcC (c:=c) (i:=t.place) (by omega) (by omega);obtain⟨_,_,_,_,k5,k6,k7,_,k9,_⟩:=qbd.1 (qbu ok hx);refine⟨x0,t,x,h0,ht,hx,by omega,by omega,by omega,t2,t3,k5,k6,k7,?_⟩;simp only[inR,zi]at he;have hl:e.toNat<x.sums.length:=by omega
 rw[zP]at k9;have:=k9 _ (zax hl);rw[zN,zu hl,zV];simpa only[qcA,zS,zX,inR,zi,zbt,Bool.not_not,Bool.not_eq_eq_eq_not,zZ,zf,Classical.not_not]using this
theorem qNb(c:Cluster)(e:Int)(W T:List (List D))(hlen:0<c.workers.length)(h4:c.workers.length≤4)(hc:c.sz≤8388608):qam prog (qaa f41 0) (qgJ e 1 (c.graph.nodes.map Node.e) c.graph.workers c.graph.cap W (c.links.map Link.e) T (c.news.map News.e) 0 0 (c.graph.nodes.map Node.e) c.graph.workers c.graph.cap (c.workers.map Worker.e) (c.links.map Link.e) (c.tokens.map Token.e) (c.news.map News.e)) (.exit 1) (qgK (c.graph.nodes.map Node.e) c.graph.workers c.graph.cap W (c.links.map Link.e) T ((c.news++qaR (c.workers.length-1) e true).map News.e) 0 0):=by
 have hn:=qfF hc;have l:=qao (P:=prog) (c:=(qaa f41 0)) (qaf 1) (c.workers.length-1) (fun i:Nat=>qgJ e ((i:Int)+1) (c.graph.nodes.map Node.e) c.graph.workers c.graph.cap W (c.links.map Link.e) T ((c.news++qaR i e true).map News.e) 0 0 (c.graph.nodes.map Node.e) c.graph.workers c.graph.cap (c.workers.map Worker.e) (c.links.map Link.e) (c.tokens.map Token.e) (c.news.map News.e)) (fun i hi=>by
  have hm:=qnH i e true;rw[qnG,←zba,zU (l₂:=[_])];exact qKJ ⟨dT (by simp;omega),by simp;omega,by simp;omega,qat (News.flat ⟨(i:Int)+1,e,true⟩),⟨by omega,by omega⟩,trivial⟩) (qKK ⟨dF (by simp;omega),trivial⟩)
 have e0:qaR 0 e true=[]:=rfl;rw[e0,zaa]at l;exact l
theorem qNc(c:Cluster)(e:Int)(cap:Bool)(W T:List (List D))(hlen:0<c.workers.length)(h4:c.workers.length≤4)(hc:c.sz≤8388608):qam prog (qaa f41 0) (qgL e cap 1 (c.graph.nodes.map Node.e) c.graph.workers c.graph.cap W (c.links.map Link.e) T (c.news.map News.e) 0 0 (c.graph.nodes.map Node.e) c.graph.workers c.graph.cap (c.workers.map Worker.e) (c.links.map Link.e) (c.tokens.map Token.e) (c.news.map News.e)) (.exit 1) (qgK (c.graph.nodes.map Node.e) c.graph.workers c.graph.cap W (c.links.map Link.e) T ((c.news++qaR (c.workers.length-1) e cap).map News.e) 0 0):=by
 have hn:=qfF hc;have l:=qao (P:=prog) (c:=(qaa f41 0)) (qaf 1) (c.workers.length-1) (fun i:Nat=>qgL e cap ((i:Int)+1) (c.graph.nodes.map Node.e) c.graph.workers c.graph.cap W (c.links.map Link.e) T ((c.news++qaR i e cap).map News.e) 0 0 (c.graph.nodes.map Node.e) c.graph.workers c.graph.cap (c.workers.map Worker.e) (c.links.map Link.e) (c.tokens.map Token.e) (c.news.map News.e)) (fun i hi=>by
  have hm:=qnH i e cap;rw[qnG,←zba,zU (l₂:=[_])];exact qKM ⟨dT (by simp;omega),by simp;omega,by simp;omega,qat (News.flat ⟨(i:Int)+1,e,cap⟩),⟨by omega,by omega⟩,trivial⟩) (qKN ⟨dF (by simp;omega),trivial⟩)
 have e0:qaR 0 e cap=[]:=rfl;rw[e0,zaa]at l;exact l
theorem qNd(c:Cluster)(e:Int)(hc:c.sz≤8388608)(hw:GotLe c):Rt 41 [.agg c.e,.one (I e)] [.agg (qbc c e).1.e,.one (B (qbc c e).2)]:=by
 have cp:=qdf c hc;have okr:=qhR c hc hw;cases ok:qai c with
 | false=>
  rw[ok]at okr;rw[show qbc c e=(c,false) by unfold qbc;simp[ok]];exact qKz ⟨cp,okr,rfl,trivial⟩
 | true=>
 rw[ok]at okr;cases he:inR e 0 3 with
 | false=>
  rw[show qbc c e=(c,false) by unfold qbc;simp[he]];exact qKA ⟨cp,okr,rfl,qaP _ _ _ _ he,rfl,trivial⟩
 | true=>
 have he:=he;obtain⟨x0,t,x,h0,ht,hx,hl0,hl4,hpl,hgp,hsum,hs4,hb4,hc4,hxs⟩:=qtF ok he;have he':0≤e∧e≤3:=by simpa only[inR,zi]using he
 obtain⟨tE0,tE1,tE2⟩:=qtA ht;obtain⟨wE0,wE1,wE2⟩:=qb3 hx;obtain⟨zE0,zE1,zE2⟩:=qb3 h0;obtain⟨sE1,sE2⟩:=int4 hs4 he';obtain⟨kE1,kE2⟩:=bool4 hb4 he';obtain⟨cE1,cE2⟩:=bool4 hc4 he';have hsz:=qcd hx hc;have hdl:x.dones.length≤8388608:=by simp only[Worker.sz]at hsz;omega
 have hll:(↑(c.workers.map Worker.e).length:Int)=(c.workers.length:Int):=by rw[zb]
 have wi:=qaP _ _ _ _ he;cases hd:qaA x0 e with
 | true=>
  rw[show qbc c e=(c,false) by unfold qbc;simp only[ok,he,Bool.and_self,zbb,h0,ht,hd]];exact qKB ⟨cp,okr,rfl,wi,rfl,by omega,zE1,zE2,qkt x0 e true hd (qcd h0 hc),rfl,trivial⟩
 | false=>
 have dn:=qkt x0 e false hd (qcd h0 hc);rw[qtE ok he h0 ht hd hx];cases hp:qbF x e with
 | false=>
  rw[show tokenAt c e t x=(c,false) by unfold tokenAt;simp[hp]];exact qKC ⟨cp,okr,rfl,wi,rfl,by omega,zE1,zE2,dn,rfl,tE0,tE1,tE2,wE0,wE1,wE2,qtz x e _ hp hsz,rfl,trivial⟩
 | true=>
 have pa:=qtz x e _ hp hsz;have ei:inInt .i64 (t.sum+x.sums.getD e.toNat 0):=⟨by omega,by omega⟩
 obtain⟨tg,tp,ts,tb,tc⟩:=t;dsimp only at*;cases tg with
 | false=>
  obtain rfl:tp=0:=hgp rfl;rw[show tokenAt c e ⟨false,0,ts,tb,tc⟩ x=(setW (setT c e ⟨true,(c.workers.length:Int)-1,0,false,x.caps.getD e.toNat false⟩) 0 (qaB x e),true) by simp only[tokenAt,hp,zbb,zbc]];dsimp only;rw[qtC,qkv,←hll];exact qKD ⟨cp,okr,rfl,wi,rfl,by omega,zE1,zE2,dn,rfl,tE0,tE1,tE2,wE0,wE1,wE2,pa,rfl,tE2,rfl,wE2,tE0,cE1,cE2,⟨by omega,by omega⟩,tE2,wE2,tE0,kE1,kE2,wE2,rfl,rfl,rfl,trivial⟩
 | true=>
 by_cases hp0:0<tp
 case pos=>
  have dp:decide (tp>0)=true:=dT hp0;cases hr:inR (ts+x.sums.getD e.toNat 0) (-1000000) 1000000 with
  | false=>
   rw[show tokenAt c e ⟨true,tp,ts,tb,tc⟩ x=(c,false) by simp only[tokenAt,hp,zbb,zZ,zao,zci,hp0,hr]];exact qKE ⟨cp,okr,rfl,wi,rfl,by omega,zE1,zE2,dn,rfl,tE0,tE1,tE2,wE0,wE1,wE2,pa,rfl,tE2,rfl,tE2,dp,tE2,wE2,tE0,sE1,sE2,ei,qaP _ _ _ _ hr,rfl,trivial⟩
  | true=>
   have e1:tokenAt c e ⟨true,tp,ts,tb,tc⟩ x=(setW (setT c e ⟨true,tp-1,ts+x.sums.getD e.toNat 0,tb||x.black.getD e.toNat false,tc||x.caps.getD e.toNat false⟩) tp (qaB x e),true):=by
    simp only[tokenAt,hp,zbb,zZ,zao,zci,hp0,hr]
   rw[e1];dsimp only;rw[qtC,qkv];have wr:=qaP _ _ _ _ hr;have k1:inInt .i64 (tp-1):=⟨by omega,by omega⟩
   cases tb with
   | true=>
    cases tc with
    | true=>
     have key:=qKF ⟨cp,okr,rfl,wi,rfl,by omega,zE1,zE2,dn,rfl,tE0,tE1,tE2,wE0,wE1,wE2,pa,rfl,tE2,rfl,tE2,dp,tE2,wE2,tE0,sE1,sE2,ei,wr,rfl,tE2,wE2,tE0,sE1,sE2,ei,tE2,gs1 tE0 tE1,rfl,gs1 tE0 tE1,gs2 tE0 tE1,rfl,gs2 tE0 tE1,wE2,tE0,kE1,kE2,wE2,rfl,rfl,rfl,gs3 tE0 tE1,k1,gs3 tE0 tE1,trivial⟩;simp only[zam]at key;exact key
    | false=>
     have key:=qKG ⟨cp,okr,rfl,wi,rfl,by omega,zE1,zE2,dn,rfl,tE0,tE1,tE2,wE0,wE1,wE2,pa,rfl,tE2,rfl,tE2,dp,tE2,wE2,tE0,sE1,sE2,ei,wr,rfl,tE2,wE2,tE0,sE1,sE2,ei,tE2,gs1 tE0 tE1,rfl,gs1 tE0 tE1,gs2 tE0 tE1,rfl,wE2,tE0,cE1,cE2,gs2 tE0 tE1,wE2,tE0,kE1,kE2,wE2,rfl,rfl,rfl,gs3 tE0 tE1,k1,gs3 tE0 tE1,trivial⟩;simp only[zam]at key;exact key
   | false=>
    cases tc with
    | true=>
     have key:=qKH ⟨cp,okr,rfl,wi,rfl,by omega,zE1,zE2,dn,rfl,tE0,tE1,tE2,wE0,wE1,wE2,pa,rfl,tE2,rfl,tE2,dp,tE2,wE2,tE0,sE1,sE2,ei,wr,rfl,tE2,wE2,tE0,sE1,sE2,ei,tE2,gs1 tE0 tE1,rfl,wE2,tE0,kE1,kE2,gs1 tE0 tE1,gs2 tE0 tE1,rfl,gs2 tE0 tE1,wE2,tE0,kE1,kE2,wE2,rfl,rfl,rfl,rfl,rfl,gs3 tE0 tE1,k1,gs3 tE0 tE1,trivial⟩;simp only[zam]at key;exact key
    | false=>
     have key:=qKI ⟨cp,okr,rfl,wi,rfl,by omega,zE1,zE2,dn,rfl,tE0,tE1,tE2,wE0,wE1,wE2,pa,rfl,tE2,rfl,tE2,dp,tE2,wE2,tE0,sE1,sE2,ei,wr,rfl,tE2,wE2,tE0,sE1,sE2,ei,tE2,gs1 tE0 tE1,rfl,wE2,tE0,kE1,kE2,gs1 tE0 tE1,gs2 tE0 tE1,rfl,wE2,tE0,cE1,cE2,gs2 tE0 tE1,wE2,tE0,kE1,kE2,wE2,rfl,rfl,rfl,rfl,rfl,gs3 tE0 tE1,k1,gs3 tE0 tE1,trivial⟩;simp only[zam]at key;exact key
 case neg=>
  obtain rfl:tp=0:=by omega
  have dp:decide ((0:Int)>0)=false:=rfl;cases tb with
  | true=>
   rw[show tokenAt c e ⟨true,0,ts,true,tc⟩ x=(setT c e ⟨false,0,ts,true,tc⟩,true) by simp[tokenAt,hp]];dsimp only;rw[qnF];exact qKR ⟨cp,okr,rfl,wi,rfl,by omega,zE1,zE2,dn,rfl,tE0,tE1,tE2,wE0,wE1,wE2,pa,rfl,tE2,rfl,tE2,dp,tE2,gs1 tE0 tE1,rfl,trivial⟩
  | false=>
  cases hk:x.black.getD e.toNat false with
  | true=>
   rw[hk]at kE2;rw[show tokenAt c e ⟨true,0,ts,false,tc⟩ x=(setT c e ⟨false,0,ts,false,tc⟩,true) by unfold tokenAt;simp only[hp,hk];rfl];dsimp only;rw[qnF];exact qKQ ⟨cp,okr,rfl,wi,rfl,by omega,zE1,zE2,dn,rfl,tE0,tE1,tE2,wE0,wE1,wE2,pa,rfl,tE2,rfl,tE2,dp,tE2,gs1 tE0 tE1,rfl,wE2,tE0,kE1,kE2,rfl,trivial⟩
  | false=>
  rw[hk]at kE2;cases hz:(ts+x.sums.getD e.toNat 0==0) with
  | false=>
   rw[show tokenAt c e ⟨true,0,ts,false,tc⟩ x=(setT c e ⟨false,0,ts,false,tc⟩,true) by unfold tokenAt;simp only[hp,hk,hz];rfl];dsimp only;rw[qnF];exact qKP ⟨cp,okr,rfl,wi,rfl,by omega,zE1,zE2,dn,rfl,tE0,tE1,tE2,wE0,wE1,wE2,pa,rfl,tE2,rfl,tE2,dp,tE2,gs1 tE0 tE1,rfl,wE2,tE0,kE1,kE2,rfl,gs1 tE0 tE1,wE2,tE0,sE1,sE2,ei,hz,trivial⟩
  | true=>
  rw[show tokenAt c e ⟨true,0,ts,false,tc⟩ x=(setN (setW (setT c e ⟨false,0,ts,false,tc⟩) 0 (told x e (tc||x.caps.getD e.toNat false))) (c.news++qaR (c.workers.length-1) e (tc||x.caps.getD e.toNat false)),true) by unfold tokenAt;simp only[hp,hk,hz];rfl];have e4:∀cap,(setN (setW (setT c e ⟨false,0,ts,false,tc⟩) 0 (told x e cap)) (c.news++qaR (c.workers.length-1) e cap)).e=[.sl 4 (c.graph.nodes.map Node.e),I c.graph.workers,I c.graph.cap,.sl 8 ((c.workers.map Worker.e).set 0 [.sl 5 (x.queue.map Record.e),.sl 5 (x.staged.map Record.e),.sl 5 (x.inputs.map Record.e),.sl 4 (x.cells.map Cell.e),.sl 1 (x.sums.map eI),.sl 1 (x.black.map eB),.sl 1 (x.caps.map eB),.sl 2 (x.dones.map Done.e++[[I e,B cap]])]),.sl 6 (c.links.map Link.e),.sl 5 ((c.tokens.map Token.e).set e.toNat (Token.e ⟨false,0,ts,false,tc⟩)),.sl 3 ((c.news++qaR (c.workers.length-1) e cap).map News.e)]:=fun cap=>by
   rw[←qtB];simp only[setN,setW,setT,Cluster.e,zau];rfl
  cases tc with
  | true=>
   dsimp only[Bool.true_or];rw[e4];exact qKL ⟨cp,okr,rfl,wi,rfl,by omega,zE1,zE2,dn,rfl,tE0,tE1,tE2,wE0,wE1,wE2,pa,rfl,tE2,rfl,tE2,dp,tE2,gs1 tE0 tE1,rfl,wE2,tE0,kE1,kE2,rfl,gs1 tE0 tE1,wE2,tE0,sE1,sE2,ei,hz,gs1 tE0 tE1,rfl,wE2,by simp;omega,by simp;omega,wE2,rfl,rfl,rfl,qat (Done.flat ⟨e,true⟩),wE2,rfl,qNb c e _ _ hl0 hl4 hc,trivial⟩
  | false=>
   dsimp only[zal];rw[e4];exact qKO ⟨cp,okr,rfl,wi,rfl,by omega,zE1,zE2,dn,rfl,tE0,tE1,tE2,wE0,wE1,wE2,pa,rfl,tE2,rfl,tE2,dp,tE2,gs1 tE0 tE1,rfl,wE2,tE0,kE1,kE2,rfl,gs1 tE0 tE1,wE2,tE0,sE1,sE2,ei,hz,gs1 tE0 tE1,rfl,wE2,tE0,cE1,cE2,wE2,by simp;omega,by simp;omega,wE2,rfl,rfl,rfl,qat (Done.flat ⟨e,_⟩),wE2,rfl,qNc c e _ _ _ hl0 hl4 hc,trivial⟩
end Go.Proofs.YtdkobdhckkjmeaaGreat
