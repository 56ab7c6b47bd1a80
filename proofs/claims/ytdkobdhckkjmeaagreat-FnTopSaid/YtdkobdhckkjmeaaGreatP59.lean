/- What a new cluster is like. -/
import Derived.Test.YtdkobdhckkjmeaaGreatP55
set_option linter.unusedVariables false
set_option linter.unusedSimpArgs false
namespace Go.Proofs.YtdkobdhckkjmeaaGreat
open Go.Sx Go.RowKit
theorem qke{α:Type}{f:α→Nat}{k:Nat}:∀{xs:List α},(∀x∈xs,f x≤k)→(xs.map f).sum≤xs.length*k
 | [],_=>by simp
 | a::xs,h=>by
  have h1:=h a (by simp);have h2:=qke (f:=f) (k:=k) (xs:=xs) (fun x hx=>h x (by simp[hx]));simp only[zav,zcw,zq,zR,Nat.one_mul];omega
theorem qia{g:Graph}{xs:List Record}:newOk g xs=true↔qax g=true∧xs.length≤20∧xs.any qco=false:=by
 simp only[newOk,zj,zi,zS,and_assoc]
theorem qsK{g:Graph}{xs:List Record}(h:newOk g xs=true):(qaI g xs).sz≤g.sz+1000:=by
 obtain⟨h1,h2,_⟩:=qia.1 h;have hn:=qa7 h1;obtain⟨n,hnn⟩:∃n:Nat,g.workers=n:=⟨g.workers.toNat,by omega⟩
 have a:=qke (f:=Worker.sz) (k:=92) (xs:=qcp g xs n) (fun x hx=>by
  simp only[qcp,zbm]at hx;obtain⟨w,_,rfl⟩:=hx;have:=qnk (g:=g) h2 (w:Nat);simp only[qcb,Worker.sz,zh,List.length_replicate];omega)
 have b:=qke (f:=Link.sz) (k:=0) (xs:=List.replicate (n*n) (qbG g.cap)) (fun x hx=>by
  rw[List.eq_of_mem_replicate hx];simp[qbG,Link.sz])
 have hm:n*n≤4*4:=Nat.mul_le_mul (by omega) (by omega);simp only[qaI,Cluster.sz,szS,hnn,zae,List.length_replicate,zh,qgP]at a b ⊢;omega
theorem qsL(g:Graph)(xs:List Record):GotLe (qaI g xs):=by
 intro l hl;have:=List.eq_of_mem_replicate hl;subst this;simp[qbG]
end Go.Proofs.YtdkobdhckkjmeaaGreat
namespace Go.Proofs.YtdkobdhckkjmeaaGreat
open Go.Sx Go.RowKit
structure Owns (c:Cluster):Prop where
 w:∀(i:Nat) x,c.workers[i]?=some x→(∀r∈x.queue,qaw r.key c.graph.workers=i)∧∀r∈x.inputs,qaw r.key c.graph.workers=i
 l:∀(i:Nat) l,c.links[i]?=some l→∀r∈l.queue,qaw r.key c.graph.workers=(i:Int).tmod c.graph.workers
theorem Owns.ok{c:Cluster}(h:Owns c)(hn:1≤c.graph.workers):qgu c=true:=by
 unfold qgu;rw[qgz (p:=badW c.graph.workers) fun i x hx=>?_,qgz (p:=badL c.graph.workers) fun i l hl=>?_]
 ·rfl
 ·simp only[badL,zy,zf,zP,qdv,bne_iff_ne,zcc,Decidable.not_not];exact⟨by omega,h.l i l hl⟩
 ·simp only[badW,zy,zP,qdv,bne_iff_ne,zcc,Decidable.not_not];exact h.w i x hx
theorem Owns.setW{c:Cluster}{i:Int}{y:Worker}(h:Owns c)(hy:(∀r∈y.queue,qaw r.key c.graph.workers=i.toNat)∧∀r∈y.inputs,qaw r.key c.graph.workers=i.toNat):Owns (setW c i y):=
 ⟨fun j x hx=>by
  rcases qez hx with⟨rfl,rfl⟩ | ⟨_,hx⟩
  ·exact hy
  ·exact h.w j x hx,h.l⟩
theorem Owns.setL{c:Cluster}{i:Int}{m:Link}(h:Owns c)(hm:∀r∈m.queue,qaw r.key c.graph.workers=(i.toNat:Int).tmod c.graph.workers):Owns (setL c i m):=
 ⟨h.w,fun j l hl=>by
  rcases qez hl with⟨rfl,rfl⟩ | ⟨_,hl⟩
  ·exact hm
  ·exact h.l j l hl⟩
theorem Owns.at{c:Cluster}{i:Int}{x:Worker}(h:Owns c)(hx:wAt c i=some x):(∀r∈x.queue,qaw r.key c.graph.workers=i.toNat)∧∀r∈x.inputs,qaw r.key c.graph.workers=i.toNat:=h.w _ x (qaC hx).2.2
theorem Owns.link{c:Cluster}{i:Int}{l:Link}(h:Owns c)(hl:lAt c i=some l):∀r∈l.queue,qaw r.key c.graph.workers=(i.toNat:Int).tmod c.graph.workers:=h.l _ l (qbl hl).2.2
theorem Owns.setT{c:Cluster}{i:Int}{u:Token}(h:Owns c):Owns (setT c i u):=⟨h.w,h.l⟩
theorem qkf{g:Graph}{a b:Int}(h:0≤qav g a b):inR a 0 (g.workers-1)=true∧inR b 0 (g.workers-1)=true:=by
 cases hc:(inR a 0 (g.workers-1)&&inR b 0 (g.workers-1)) with
 | true=>simpa using hc
 | false=>rw[qdW hc]at h;omega
theorem Owns.tokenAt{c:Cluster}{e:Int}{t:Token}{x:Worker}(h:Owns c)(hx:wAt c t.place=some x):Owns (tokenAt c e t x).1:=by
 have hq:=h.at hx;rcases qcW c e t x with⟨_,h2⟩ | ⟨_,_,⟨_,h2⟩ | ⟨_,_,h2⟩ | ⟨_,h0,_,h2⟩ | ⟨_,_,_,h2⟩⟩
 ·rw[h2];exact h
 ·rw[h2];exact h.setT.setW hq
 ·rw[h2];exact h.setT.setW hq
 ·rw[h2];have hz:t.place=0:=by have:=(qaC hx).1;omega
  rw[hz]at hq;have k2:=(h.setT (i:=e) (u:=⟨false,t.place,t.sum,t.black,t.capped⟩)).setW (i:=0) (y:=told x e (t.capped||x.caps.getD e.toNat false)) hq;exact⟨k2.w,k2.l⟩
 ·rw[h2];exact⟨h.w,h.l⟩
theorem Owns.step{c d:Cluster}{p:Pick}(h:Owns c)(hok:qai c=true)(st:Step c p d):Owns d:=by
 have hn:=qa7 (qaH.1 hok).1;cases st with
 | work x r q hk hx hs hq=>
  have:=h.at hx;rw[hq]at this;exact h.setW ⟨fun a ha=>this.1 a (zg _ ha),this.2⟩
 | input x r t hk hx hs hq hi=>
  have:=(h.at hx).2;rw[hi]at this;exact h.setW ⟨fun a ha=>this a (by simp only[List.mem_singleton]at ha;rw[ha];exact zm ..),fun a ha=>this a (zg _ ha)⟩
 | keep x r t hk hx hs ho=>
  have:=h.at hx;have hp:=(qaC hx).1;refine h.setW ⟨fun a ha=>?_,this.2⟩;rcases zaz.1 ha with ha | ha
  ·exact this.1 a ha
  ·obtain rfl:a=r:=by simpa using ha
   omega
 | send x r t l hk hx hs ho hl hsend=>
  obtain⟨_,_,_,e1⟩:=qhT hsend;obtain⟨g1,g2⟩:=qkf (qbl hl).1;obtain⟨_,_,_,_,p3⟩:=qex hn g1 g2;have hp:=(qbl hl).1;have hw:=h.at hx;refine (h.setL (i:=qav c.graph p.a (qaw r.key c.graph.workers)) (m:=(qay l r).1) fun a ha=>?_).setW (c:=Go.Proofs.YtdkobdhckkjmeaaGreat.setL c _ _) hw;rw[e1]at ha;rcases zaz.1 ha with ha | ha
  ·exact h.link hl a ha
  ·obtain rfl:a=r:=by simpa using ha
   rw[qhO hl,(qex hn g1 g2).1,p3]
 | take l x hk hab hl hx ht=>
  obtain⟨_,r,q,hq,e2,e1⟩:=qfE ht;obtain⟨g1,g2⟩:=qkf (qbl hl).1;obtain⟨p0,_,_,_,p3⟩:=qex hn g1 g2;have hlk:=h.link hl;rw[hq,qhO hl,p0,p3]at hlk;have hb:=(qaC hx).1;refine (h.setL (i:=qav c.graph p.a p.b) (m:=(qaq l).1) fun a ha=>?_).setW (c:=Go.Proofs.YtdkobdhckkjmeaaGreat.setL c _ _) ⟨fun a ha=>?_,(h.at hx).2⟩
  ·rw[e1]at ha;rw[qhO hl,p0,p3];exact hlk a (zg _ ha)
  ·rcases zaz.1 ha with ha | ha
   ·exact (h.at hx).1 a ha
   ·obtain rfl:a=_:=by simpa using ha
    rw[e2];have:=hlk r (zm ..);change qaw r.key c.graph.workers=_;omega
 | credit l hk hab hl hc=>
  rcases qfF l with⟨k,_⟩ | ⟨_,_,_,e1⟩
  ·rw[hc]at k;cases k
  refine h.setL fun a ha=>?_
  rw[e1]at ha;exact h.link hl a ha
 | token t x x0 hk hin h0 hd ht hx hdid=>exact h.tokenAt hx
 | hear k n x hk hn hd hx=>
  have hq:=h.at hx;have:=h.setW (i:=p.a) (y:=hears x n) (by
   unfold hears;split<;>exact hq)
  exact⟨this.w,this.l⟩
structure Bound (S:Int) (c:Cluster):Prop where
 sums:∀x∈c.workers,∀k:Nat,-S≤x.sums.getD k 0∧x.sums.getD k 0≤S
 sent:∀l∈c.links,l.sent≤S
 toks:∀t∈c.tokens,t.going=true→t.sum+200000*t.place≤600000∧-600000≤t.sum-200000*t.place
theorem qsM{S:Int}{xs:List Int}{f d:Int}(hd:-1≤d∧d≤1)(h:∀k:Nat,-S≤xs.getD k 0∧xs.getD k 0≤S)(k:Nat):-(S+1)≤(incAt xs f d).getD k 0∧(incAt xs f d).getD k 0≤S+1:=by
 unfold incAt;have h1:=h f.toNat;have h2:=h k;by_cases hf:f.toNat=k
 ·subst hf;by_cases hl:f.toNat<xs.length
  ·rw[qj6 hl];omega
  ·rw[List.set_eq_of_length_le (by omega)];omega
 ·rw[qfH hf];omega
theorem Bound.mono{S T:Int}{c:Cluster}(h:Bound S c)(hT:S≤T):Bound T c:=
 ⟨fun x hx k=>by have:=h.sums x hx k;omega,fun l hl=>by have:=h.sent l hl;omega,h.toks⟩
theorem Bound.setW{S:Int}{c:Cluster}{i:Int}{y:Worker}(h:Bound S c)(hy:∀k:Nat,-S≤y.sums.getD k 0∧y.sums.getD k 0≤S):Bound S (setW c i y):=
 ⟨fun x hx=>by
  rcases zbf hx with hx | rfl
  ·exact h.sums x hx
  ·exact hy,h.sent,h.toks⟩
theorem Bound.setL{S:Int}{c:Cluster}{i:Int}{m:Link}(h:Bound S c)(hm:m.sent≤S):Bound S (setL c i m):=
 ⟨h.sums,fun l hl=>by
  rcases zbf hl with hl | rfl
  ·exact h.sent l hl
  ·exact hm,h.toks⟩
theorem Bound.setT{S:Int}{c:Cluster}{i:Int}{u:Token}(h:Bound S c)(hu:u.going=true→u.sum+200000*u.place≤600000∧-600000≤u.sum-200000*u.place):Bound S (setT c i u):=
 ⟨h.sums,h.sent,fun t ht=>by
  rcases zbf ht with ht | rfl
  ·exact h.toks t ht
  ·exact hu⟩
theorem Bound.at{S:Int}{c:Cluster}{i:Int}{x:Worker}(h:Bound S c)(hx:wAt c i=some x):∀k:Nat,-S≤x.sums.getD k 0∧x.sums.getD k 0≤S:=h.sums x (qag (qaC hx).2.2)
theorem Bound.tokenAt{S:Int}{c:Cluster}{e:Int}{t:Token}{x:Worker}(h:Bound S c)(hS:S≤200000)(hok:qai c=true)(ht:tAt c e=some t)(hx:wAt c t.place=some x):Bound S (tokenAt c e t x).1:=by
 have hw:=qm3 hok;have hb:=h.at hx;have htk:=h.toks t (qag (qfC ht).2.2);rcases qcW c e t x with⟨_,h2⟩ | ⟨_,_,⟨_,h2⟩ | ⟨hg,h0,h2⟩ | ⟨_,h0,_,h2⟩ | ⟨_,_,_,h2⟩⟩
 ·rw[h2];exact h
 ·rw[h2];exact (h.setT fun _=>⟨by dsimp only;omega,by dsimp only;omega⟩).setW hb
 ·rw[h2];have h3:=hb e.toNat;have h4:=htk hg;exact (h.setT fun _=>⟨by dsimp only;omega,by dsimp only;omega⟩).setW hb
 ·rw[h2];have:=(h.setT (i:=e) (u:=⟨false,t.place,t.sum,t.black,t.capped⟩) (fun k=>by cases k)).setW (i:=0) (y:=told x e (t.capped||x.caps.getD e.toNat false)) hb;exact⟨this.sums,this.sent,this.toks⟩
 ·rw[h2];exact h.setT fun k=>by cases k
theorem Bound.step{S:Int}{c d:Cluster}{p:Pick}(h:Bound S c)(hS:S<200000)(hok:qai c=true)(st:Step c p d):Bound (S+1) d:=by
 have h':=h.mono (show S≤S+1 by omega);cases st with
 | work x r q hk hx hs hq=>have hb:=h'.at hx;exact h'.setW hb
 | input x r t hk hx hs hq hi=>have hb:=h'.at hx;exact h'.setW hb
 | keep x r t hk hx hs ho=>have hb:=h'.at hx;exact h'.setW hb
 | send x r t l hk hx hs ho hl hsend=>
  obtain⟨_,_,_,e1⟩:=qhT hsend;have:=h.sent l (qag (qbl hl).2.2);have hb:=qsM (f:=r.stamp.epoch) (d:=1) (by omega) (h.at hx);exact (h'.setL (by rw[e1];dsimp only;omega)).setW hb
 | take l x hk hab hl hx ht=>
  obtain⟨_,r,q,hq,e2,e1⟩:=qfE ht;have:=h.sent l (qag (qbl hl).2.2);have hb:=qsM (f:=(qaq l).2.1.stamp.epoch) (d:=-1) (by omega) (h.at hx);exact (h'.setL (by rw[e1];dsimp only;omega)).setW hb
 | credit l hk hab hl hc=>
  rcases qfF l with⟨k,_⟩ | ⟨_,_,_,e1⟩
  ·rw[hc]at k;cases k
  have:=h.sent l (qag (qbl hl).2.2);exact h'.setL (by rw[e1];dsimp only;omega)
 | token t x x0 hk hin h0 hd ht hx hdid=>exact (h.tokenAt (by omega) hok ht hx).mono (by omega)
 | hear k n x hk hn hd hx=>
  have hb:=h'.at hx;have:=h'.setW (i:=p.a) (y:=hears x n) (by
   unfold hears;split<;>exact hb)
  exact⟨this.sums,this.sent,this.toks⟩
theorem qLC{S:Int}{c:Cluster}(p:Pick)(hok:qai c=true)(hb:Bound S c)(hS:S<1000000):qai (stepPick c p).1=true:=by
 have hn:=qa7 (qaH.1 hok).1;have key:∀{i:Int} {x:Worker},wAt c i=some x→∀(k:Nat) (d:Int),-1≤d∧d≤1→inR (x.sums.getD k 0+d) (-1000000) 1000000=true:=fun hx k d hd=>by
  have:=hb.at hx k;simp only[inR,zi];omega
 unfold stepPick;split
 ·exact qr2 hok
 split
 ·exact qr3 hok
 split
 ·unfold qbk;rw[zp hok];cases hx:wAt c p.a with
  | none=>exact hok
  | some x=>
   dsimp only;cases hs:x.staged with
   | nil=>exact hok
   | cons r t=>
    dsimp only;unfold qc9;split
    ·exact qr0 hok hx hs
    ·rename_i ho;cases hl:lAt c (qav c.graph p.a (qaw r.key c.graph.workers)) with
     | none=>exact hok
     | some l=>
      dsimp only;split
      ·rename_i h;exact (qrZ hok hx hs (qhN _ hn.1) ho hl h).trans (key hx _ 1 (by omega))
      ·exact hok
 split
 ·unfold qbw;split
  ·cases hl:lAt c (qav c.graph p.a p.b) with
   | none=>exact hok
   | some l=>
    cases hx:wAt c p.b with
    | none=>exact hok
    | some x=>
     dsimp only;split
     ·rename_i h;exact (qr1 hok hl hx h).trans (key hx _ (-1) (by omega))
     ·exact hok
  ·exact hok
 split
 ·exact qr4 hok
 split
 ·exact qr6 hok
 split
 ·exact qr7 hok
 ·exact hok
structure AllInv (S:Int) (c:Cluster):Prop where
 ok:qai c=true
 owns:Owns c
 bound:Bound S c
 inv:∀e:Int,0≤e∧e≤3→Inv e c
theorem AllInv.mono{S T:Int}{c:Cluster}(h:AllInv S c)(hT:S≤T):AllInv T c:=⟨h.ok,h.owns,h.bound.mono hT,h.inv⟩
theorem AllInv.step{S:Int}{c:Cluster}(h:AllInv S c)(hS:S<200000)(p:Pick):AllInv (S+1) (stepPick c p).1:=by
 have hok:=qLC p h.ok h.bound (by omega);rcases qfG c p with⟨_,h2⟩ | ⟨_,_,st⟩
 ·rw[h2];exact h.mono (by omega)
 ·exact⟨hok,h.owns.step h.ok st,h.bound.step hS h.ok st,fun e he=>(h.inv e he).step he h.ok st⟩
theorem AllInv.run{c:Cluster}:∀(l:List Pick) {S:Int} {c:Cluster},AllInv S c→S+l.length≤200000→AllInv (S+l.length) (qah c l).1
 | [],S,c,h,_=>by simpa[qah]using h
 | p::l,S,c,h,hS=>by
  simp only[zq]at hS ⊢;have:=AllInv.run (c:=c) l (h.step (by omega) p) (by omega);simp only[qah];rw[show S+((l.length+1:Nat):Int)=S+1+l.length by omega];exact this
theorem qLD{e:Int}{S:Int}(he:0≤e∧e≤3)(hS:S≤1000000):∀(xs:List Worker) (n:Int),(∀x∈xs,x.sums.length=4∧-S≤sE e x∧sE e x≤S)→xs.length≤1000→-1000000000000+(xs.length:Int)*1000000≤n∧n≤1000000000000-(xs.length:Int)*1000000→
  xs.foldl (defF e) n=n+(xs.map (sE e)).sum:=by
 intro xs;induction xs with
 | nil=>intro n _ _ _;rw[List.foldl_nil,List.map_nil,List.sum_nil,Int.add_zero]
 | cons x xs ih0=>
  intro n h hl hn;rw[zq]at hl hn;obtain⟨h1,h2,h3⟩:=h x (zm ..);have ih:=ih0 (n+sE e x) (fun y hy=>h y (zg _ hy)) (by omega) (by omega);have hd:defF e n x=n+sE e x:=by
   unfold defF;rw[zp (by simp only[inR,zi];omega)];unfold wrp;rw[IntKind.wrap_i64];unfold sE at*;omega
  rw[List.foldl_cons,hd,ih,zav,zcw];omega
theorem qsN{S e:Int}{c:Cluster}(h:qai c=true)(hb:Bound S c)(hS:S≤1000000)(he:0≤e∧e≤3):qfn c e=preS e c c.workers.length:=by
 have hw:=qm3 h;unfold qfn preS;rw[qLD he hS c.workers 0 (fun x hx=>?_) (by omega) (by omega),zC,Int.zero_add];obtain⟨i,hi⟩:=List.getElem?_of_mem hx;have wk:=qbu (i:=i) h (x:=x) (by unfold wAt;rw[zp (by omega)];simpa using hi);exact⟨(qhW wk).1,hb.sums x hx e.toNat⟩
theorem qLE{e:Int}{c:Cluster}(h:quiet e c):(∀r∈qdp c,r.stamp.epoch≠e)∧∀x∈c.workers,∀r∈x.inputs,e<r.stamp.epoch:=by
 obtain⟨h1,h2⟩:=h;refine⟨fun r hr=>?_,fun x hx=>(qcn.1 (h1 x hx)).1⟩;unfold qdp at hr;rcases zaz.1 hr with hr | hr
 ·obtain⟨x,hx,hr⟩:=zar.1 hr;obtain⟨_,k2,k3⟩:=qcn.1 (h1 x hx);rcases zaz.1 hr with hr | hr
  ·exact k2 r hr
  ·exact k3 r hr
 ·obtain⟨l,hl,hr⟩:=zar.1 hr;intro he;have h0:qbp e l=0:=by
   have:∀(xs:List Link),sumS (qbp e) xs=0→∀l∈xs,qbp e l=0:=by
    intro xs;induction xs with
    | nil=>intro _ l hl;cases hl
    | cons y ys ih=>
     intro hz l hl;simp only[sumS,zav,zcw]at hz;rcases zL.1 hl with rfl | hl
     ·omega
     ·exact ih (by unfold sumS;omega) l hl
   exact this c.links h2 l hl
  unfold qbp qa5 at h0;rw[List.length_eq_zero_iff,List.filter_eq_nil_iff]at h0;exact h0 r hr (by simpa using he)
theorem qLF{c:Cluster}{r:Record}:r∈qfh c↔r∈qdp c:=by
 obtain⟨_,h2⟩:=qmn recO (qdp c) [] List.Pairwise.nil;exact (show (qfh c).Perm (qdp c) from h2).mem_iff
theorem qLG{e:Int}{c:Cluster}(h:quiet e c):qgm c e=[]∧qgn c e=[]:=by
 obtain⟨h1,h2⟩:=qLE h;constructor
 ·unfold qgm qa5;rw[List.filter_eq_nil_iff];intro r hr;simpa using h1 r (qLF.1 hr)
 ·unfold qgn;rw[List.flatMap_eq_nil_iff];intro x hx;unfold qa5;rw[List.filter_eq_nil_iff];intro r hr;have:=h2 x hx r hr;simp only[zE];omega
theorem AllInv.cred{S:Int}{c:Cluster}(h:AllInv S c):c.links.all qb9=true:=by
 rw[zM];intro l hl;obtain⟨i,hi⟩:=List.getElem?_of_mem hl;have hb:=qfB (qaH.1 h.ok).2.2.2.2.2.1 hi;obtain⟨h1,_⟩:=qcz.1 hb;obtain⟨_,h3,h4,h5,_⟩:=qcm.1 h1;unfold qb9;rw[h3,h4,zap h5];rfl
theorem AllInv.safe{S:Int}{c:Cluster}(h:AllInv S c)(hS:S≤200000):qjY c=true:=by
 have hn:=qa7 (qaH.1 h.ok).1;unfold qjY;rw[h.ok,h.cred,h.owns.ok hn.1,zbl,zbl,zbl,zS,zP];intro e he;rw[List.mem_range]at he;have iv:=h.inv e (by omega);unfold qhM;have h1:qgo c (e:Int)=true:=by
  unfold qgo;cases hT:(toldW c (e:Int)||toldN c (e:Int)) with
  | false=>rfl
  | true=>
   obtain⟨q1,q2⟩:=qLG (iv.tells hT);rw[q1,q2];rfl
 have h2:qjM c (e:Int)=true:=by
  unfold qjM;rw[qsN h.ok h.bound (by omega) (by omega),iv.total];simp only[infl,sumS,zby]
 rw[h1,h2];decide
theorem qkg{g:Graph}{xs:List Record}{w:Int}{r:Record}(h:r∈own g xs w):r∈xs∧qaw r.key g.workers=w:=by
 simp only[own,ownTo,zar,ownAt,List.mem_filter,zj,zE]at h;obtain⟨_,_,h1,_,h2⟩:=h;exact⟨h1,h2⟩
theorem qkh{g:Graph}{xs:List Record}{n i:Nat}{x:Worker}(h:(qcp g xs n)[i]?=some x):x=qcb (own g xs (i:Nat))∧i<n:=by
 have hi:=lt_of h;rw[qgP]at hi;unfold qcp at h;rw[zr,List.getElem?_range hi]at h;exact⟨(zx h).symm,hi⟩
end Go.Proofs.YtdkobdhckkjmeaaGreat
namespace Go.Proofs.YtdkobdhckkjmeaaGreat
open Go.Sx Go.RowKit
theorem qsO(g:Graph)(xs:List Record)(w:Int):∀n:Nat,(ownTo g xs w n).Pairwise (fun a b=>a.stamp.epoch≤b.stamp.epoch)∧∀r∈ownTo g xs w n,r.stamp.epoch<n
 | 0=>⟨List.Pairwise.nil,fun r hr=>by simp[ownTo]at hr⟩
 | n+1=>by
  obtain⟨h1,h2⟩:=qsO g xs w n;have h3:∀r∈ownAt g xs w (n:Nat),r.stamp.epoch=(n:Nat):=fun r hr=>by
   simp only[ownAt,List.mem_filter,zj,zE]at hr;exact hr.2.1
  rw[qnj];refine⟨List.pairwise_append.2 ⟨h1,?_,fun a ha b hb=>?_⟩,fun r hr=>?_⟩
  ·exact List.pairwise_of_forall_mem_list fun a ha b hb=>by rw[h3 a ha,h3 b hb];exact Int.le_refl _
  ·have:=h2 a ha;have:=h3 b hb;omega
  ·rcases zaz.1 hr with hr | hr
   ·have:=h2 r hr;omega
   ·have:=h3 r hr;omega
theorem qsP{α:Type}{R:α→α→Prop}:∀{xs:List α},xs.Pairwise R→∀{j:Nat} {a b:α},xs[j]?=some a→xs[j+1]?=some b→R a b
 | [],_,_,_,_,h,_=>by simp at h
 | x::xs,hp,0,a,b,h1,h2=>by
  obtain rfl:x=a:=by simpa using h1
  exact (List.pairwise_cons.1 hp).1 b (qag (i:=0) (by simpa using h2))
 | x::xs,hp,j+1,a,b,h1,h2=>qsP (List.pairwise_cons.1 hp).2 (j:=j) (by simpa using h1) (by simpa using h2)
theorem qLH{g:Graph}{xs:List Record}(h:newOk g xs=true)(w:Int):qaJ g (qcb (own g xs w))=true:=by
 obtain⟨h1,_,h3⟩:=qia.1 h;have hl:1≤(g.nodes.length:Int):=by
  simp only[qax,zj,inR,zi]at h1;omega
 have good:∀r∈own g xs w,qaB r=true∧r.op=0∧r.stamp.turn=0:=fun r hr=>by
  rw[zP]at h3;have:=h3 r (qkg hr).1;simp only[qco,zbi,zS,bne_iff_ne,zcc,not_or,Bool.not_eq_false,Decidable.not_not]at this;exact⟨this.1.1,this.1.2,this.2⟩
 refine qbd.2 ⟨rfl,rfl,?_,rfl,rfl,rfl,rfl,?_,rfl,rfl⟩
 ·simp only[qaV,zS,zP,qcb];intro r hr;obtain⟨k1,k2,_⟩:=good r hr;simp only[qbA,k1,k2,zZ,zal,zi];omega
 ·refine qgz fun i a ha=>?_
  change (own g xs w)[i]?=some a at ha;obtain⟨_,k2,k3⟩:=good a (qag ha);cases i with
  | zero=>unfold inBad;rw[k2,k3];rfl
  | succ j=>
   unfold inBad;rw[k2,k3];change (match (own g xs w)[j]? with | some q=>decide (q.stamp.epoch>a.stamp.epoch) | none=>false)=false;cases hq:(own g xs w)[j]? with
   | none=>rfl
   | some q=>
    have:=qsP (qsO g xs w 4).1 hq ha;simp only[zf];omega
theorem qLI{g:Graph}{xs:List Record}(h:newOk g xs=true):qai (qaI g xs)=true:=by
 obtain⟨h1,_,_⟩:=qia.1 h;have hn:=qa7 h1;have hc:1≤g.cap∧g.cap≤4:=by
  simp only[qax,zj,inR,zi]at h1;omega
 have hcap:qaU g.cap 1 4=g.cap:=by unfold qaU;rw[zo (by omega),zo (by omega),zo (by omega)]
 refine qaH.2 ⟨h1,?_,?_,rfl,?_,?_,?_,rfl⟩
 ·simp only[qaI,qgP];omega
 ·simp only[qaI,List.length_replicate,Int.natCast_mul];rw[Int.toNat_of_nonneg (by omega)]
 ·rw[zP];intro x hx;obtain⟨i,hi⟩:=List.getElem?_of_mem hx;obtain⟨rfl,_⟩:=qkh hi;rw[show (qaI g xs).graph=g from rfl,qLH h];decide
 ·refine qgz fun i l hl=>?_
  have:=List.eq_of_mem_replicate (qag hl);subst this;refine qcz.2 ⟨qcm.2 ⟨?_,?_,?_,?_,rfl,?_,rfl,rfl⟩,?_,rfl,fun _=>rfl⟩
  ·simp only[qbG,hcap,inR,zi];omega
  ·simp only[qbG,hcap,inR,zi];omega
  ·simp only[qbG,hcap,inR,zi];omega
  ·simp only[qbG,zh];omega
  ·simp only[qbG];omega
  ·simp only[qbG,hcap];rfl
 ·rw[zP];intro t ht;have:=List.eq_of_mem_replicate ht;subst this;rw[show qbO (qaI g xs).graph.workers tok0=false from qdC.2 ⟨⟨by decide,by change (0:Int)≤g.workers-1;omega⟩,fun _=>rfl,by decide⟩];decide
theorem qsQ{α:Type}{f:α→Int}:∀{xs:List α},(∀x∈xs,f x=0)→(xs.map f).sum=0
 | [],_=>rfl
 | a::xs,h=>by
  rw[zav,zcw,h a (zm ..),qsQ fun x hx=>h x (zg _ hx)];rfl
theorem AllInv.new{g:Graph}{xs:List Record}(h:newOk g xs=true):AllInv 0 (qaI g xs):=by
 have hw:∀x∈(qaI g xs).workers,∃w:Nat,x=qcb (own g xs w):=fun x hx=>by
  obtain⟨i,hi⟩:=List.getElem?_of_mem hx;exact⟨i,(qkh hi).1⟩
 have hlk:∀l∈(qaI g xs).links,l=qbG g.cap:=fun l hl=>List.eq_of_mem_replicate hl
 have zero:∀(k:Nat),(List.replicate 4 (0:Int)).getD k 0=0:=fun k=>by
  rw[zN,zbo];split<;>rfl
 refine⟨qLI h,⟨fun i x hx=>?_,fun i l hl=>?_⟩,⟨fun x hx k=>?_,fun l hl=>?_,fun t ht hg=>?_⟩,fun e he=>⟨?_,fun t ht hg=>?_,fun hT=>?_⟩⟩
 ·obtain⟨rfl,_⟩:=qkh hx;exact⟨fun r hr=>by simp[qcb]at hr,fun r hr=>(qkg hr).2⟩
 ·rw[hlk l (qag hl)];intro r hr;simp[qbG]at hr
 ·obtain⟨w,rfl⟩:=hw x hx;have:=zero k;simp only[qcb];omega
 ·rw[hlk l hl];exact Int.le_refl _
 ·rw[List.eq_of_mem_replicate ht]at hg;cases hg
 ·have h1:preS e (qaI g xs) (qaI g xs).workers.length=0:=by
   refine qsQ fun x hx=>?_
   obtain⟨w,rfl⟩:=hw x (zbh hx);exact zero _
  have h2:infl e (qaI g xs)=0:=by
   unfold infl sumS;have:=qke (f:=qbp e) (k:=0) (xs:=(qaI g xs).links) (fun l hl=>by rw[hlk l hl];simp[qbp,qa5,qbG]);omega
  rw[h1,h2];rfl
 ·obtain⟨_,_,h2⟩:=qfC ht;rw[List.eq_of_mem_replicate (qag h2)]at hg;cases hg
 ·exfalso;have h1:toldW (qaI g xs) e=false:=by
   unfold toldW;rw[zP];intro x hx;obtain⟨w,rfl⟩:=hw x hx;simp[qaz,qcb]
  rw[h1]at hT;simp[toldN,qaI]at hT
theorem AllInv.drawn{g:Graph}{xs:List Record}(h:newOk g xs=true)(l:List Pick)(hl:l.length≤200000):AllInv l.length (qah (qaI g xs) l).1:=by
 have:=(AllInv.new h).run (c:=qaI g xs) l (by omega);rwa[Int.zero_add]at this
end Go.Proofs.YtdkobdhckkjmeaaGreat
