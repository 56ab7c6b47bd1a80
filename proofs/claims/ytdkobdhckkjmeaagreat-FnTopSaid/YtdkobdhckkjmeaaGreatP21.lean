/- CreditsOk, SumsOk, OwnersOk: what program and reference compute. -/
import Derived.Test.YtdkobdhckkjmeaaGreatC6
import Derived.Test.YtdkobdhckkjmeaaGreatGU
import Derived.Test.YtdkobdhckkjmeaaGreatP17
set_option linter.unusedVariables false
set_option linter.unusedSimpArgs false
namespace Go.Proofs.YtdkobdhckkjmeaaGreat
open Go.Sx Go.RowKit Go.Proofs.Tryz
theorem Cluster.links_le{c:Cluster}(h:c.sz≤8388608):c.links.length≤8388608:=by simp only[Cluster.sz,szS]at h;omega
def qb9(l:Link):Bool:=inR l.credits 0 l.cap&&inR l.back 0 l.cap&&decide (l.credits+l.back+l.queue.length=l.cap)
theorem Cluster.link_wf{c:Cluster}(h:c.wf){l:Link}(hl:l∈c.links):l.wf:=h.links_ok.2 l hl
structure Nums (c:Cluster):Prop where
 n:inInt .i64 c.graph.workers
 l:∀l∈c.links,inInt .i64 l.cap∧l.got≤9223372036854775807
theorem Nums.of{c:Cluster}(h:c.wf):Nums c:=⟨h.graph_ok.workers_ok,fun l hl=>⟨(Cluster.link_wf h hl).cap_ok,(Cluster.link_wf h hl).got_ok.2⟩⟩
theorem Cluster.link_sz{c:Cluster}(h:c.sz≤8388608){l:Link}(hl:l∈c.links):l.sz≤8388608:=by
 have:=qeZ (sz:=Link.sz) (xs:=c.links) (m:=8388608) (by simp only[Cluster.sz]at h;omega) hl;exact this
theorem qqZ(c:Cluster)(hc:c.sz≤8388608)(hw:Nums c):Rt 34 [.agg c.e] [.one (B (c.links.all qb9))]:=by
 have hl:=Cluster.links_le hc
 let st:=fun i:Nat=>qdq (c.links.map Link.e) i
 have step:∀i,i<c.links.length→(∀b,c.links[i]?=some b→qb9 b=true)→Tr prog (qaa f34 0) (st i) .normal (st (i+1)):=by
  intro i hi h;obtain⟨a,ha⟩:=qal hi;have h:=h a ha;have hcap:=(hw.l _ (qag ha)).1;simp only[qb9,inR,zj,zi]at h;simp only[inInt]at hcap;refine qzJ ⟨lt1 hi,lt0,lt2 hi,qac Link.e ha,qaO _ _ _ true (by simp[inR];omega),rfl,qaO _ _ _ true (by simp[inR];omega),rfl,⟨by omega,by omega⟩,by simp only[zf];omega,⟨by omega,by omega⟩,⟨by omega,by omega⟩,?_,up1 hi hl,trivial⟩;rw[zb];simp;omega
 rcases qlV qb9 c.links with h1 | ⟨i,a,ha,h2,h4⟩
 ·rw[zM.2 h1];have l:=qao (qaf 0) c.links.length st (fun i hi=>step i hi fun b hb=>h1 b (qag hb)) (qzK ⟨ge1,trivial⟩);exact qzM ⟨l,trivial⟩
 ·have hall:c.links.all qb9=false:=List.all_eq_false.2 ⟨a,qag ha,by simp[h2]⟩;rw[hall];have hi:=lt_of ha;have out:Tr prog (qaa f34 0) (st i) .ret (qgp false):=by
   have hcap:=(hw.l _ (qag ha)).1;simp only[inInt]at hcap;by_cases h5:inR a.credits 0 a.cap=true
   case neg=>exact qzF ⟨lt1 hi,lt0,lt2 hi,qac Link.e ha,qaO _ _ _ false (by simpa using h5),rfl,trivial⟩
   by_cases h6:inR a.back 0 a.cap=true
   case neg=>exact qzG ⟨lt1 hi,lt0,lt2 hi,qac Link.e ha,qaO _ _ _ true h5,rfl,qaO _ _ _ false (by simpa using h6),rfl,trivial⟩
   have h7:¬(a.credits+a.back+a.queue.length=a.cap):=by
    intro e;simp[qb9,h5,h6,e]at h2
   have g5:=h5;have g6:=h6;simp only[inR,zi]at g5 g6;by_cases h8:a.credits>a.cap-a.back
   ·exact qzH ⟨lt1 hi,lt0,lt2 hi,qac Link.e ha,qaO _ _ _ true h5,rfl,qaO _ _ _ true h6,rfl,⟨by omega,by omega⟩,by simpa using h8,trivial⟩
   ·refine qzI ⟨lt1 hi,lt0,lt2 hi,qac Link.e ha,qaO _ _ _ true h5,rfl,qaO _ _ _ true h6,rfl,⟨by omega,by omega⟩,by simpa using h8,⟨by omega,by omega⟩,⟨by omega,by omega⟩,?_,trivial⟩;rw[zb];simp;omega
  have l:=qao qaE i st (fun j hj=>step j (by omega) fun b hb=>h4 j b hj hb) out;exact qzL ⟨l,trivial⟩
def qbp(e:Int)(l:Link):Nat:=(qa5 e l.queue).length
theorem qC0(l:Link)(e:Int)(hl:l.sz≤8388608):Rt 224 [.agg l.e,.one (I e)] [.one (I (qbp e l))]:=by
 have:=qzN l.cap _ l.credits l.back l.sent l.got _ _ ⟨qgk l.queue e hl,trivial⟩;rw[zb]at this;exact this
def defF(e n:Int)(w:Worker):Int:=if inR e 0 (w.sums.length-1) then wrp (n+w.sums.getD e.toNat 0) else n
def qfn(c:Cluster)(e:Int):Int:=c.workers.foldl (defF e) 0
theorem qq0{xs:List Int}{e:Int}(h:inR e 0 (xs.length-1)=true):0≤e∧e<(↑(xs.map eI).length:Int)∧(xs.map eI)[e.toNat]?=some [I (xs.getD e.toNat 0)]:=by
 simp only[inR,zi]at h;refine⟨h.1,by rw[zb];omega,?_⟩;have:e.toNat<xs.length:=by omega
 rw[zr,zu this,zN,zu this];rfl
theorem wlen{α:Type}{f:Int→α}{xs:List Int}(h:xs.length≤8388608):IntKind.i64.wrap ((↑(xs.map f).length:Int)-1)=(xs.length:Int)-1:=by
 rw[zb];exact inInt.wrap ⟨by omega,by omega⟩
theorem qC2(c:Cluster)(e:Int)(hc:c.sz≤8388608):Rt 47 [.agg c.e,.one (I e)] [.one (I (qfn c e))]:=by
 have hl:=Cluster.wlen_le hc;have l:=qao (P:=prog) (c:=(qaa f47 0)) (qaf 0) c.workers.length (fun i:Nat=>qfj (c.workers.map Worker.e) e i (qcT (defF e) 0 c.workers i)) (fun i hi=>by
  obtain⟨a,ha⟩:=qal hi;have hs:=Cluster.worker_sz hc (qag ha);simp only[Worker.sz]at hs;rw[qji ha];by_cases h:inR e 0 (a.sums.length-1)=true
  ·obtain⟨h1,h2,h3⟩:=qq0 h;rw[defF,zp h];exact qzS ⟨lt1 hi,lt0,lt2 hi,qac Worker.e ha,qaO _ _ _ true (by rw[wlen (xs:=a.sums) (by omega)];exact h),rfl,h1,h2,h3,up1 hi hl,trivial⟩
  ·rw[defF,zo h];exact qzT ⟨lt1 hi,lt0,lt2 hi,qac Worker.e ha,qaO _ _ _ false (by rw[wlen (xs:=a.sums) (by omega)];simpa using h),rfl,up1 hi hl,trivial⟩) (qzU ⟨ge1,trivial⟩)
 rw[qjj,qpw]at l;exact qzV ⟨l,trivial⟩
def qjM(c:Cluster)(e:Int):Bool:=qfn c e==((c.links.map (qbp e)).sum:Int)
theorem qq1{α:Type}{f g:α→Nat}:∀{xs:List α},(∀a,f a≤g a)→(xs.map f).sum≤(xs.map g).sum
 | [],_=>zO _
 | x::xs,h=>by
  have:=h x;have:=qq1 (xs:=xs) h;simp only[zav,zcw];omega
theorem qC3{c:Cluster}(e:Int)(hc:c.sz≤8388608):(c.links.map (qbp e)).sum≤8388608:=by
 have h:(c.links.map (qbp e)).sum≤(c.links.map Link.sz).sum:=qq1 fun l=>zat ..
 simp only[Cluster.sz,szS]at hc;omega
theorem qq2(c:Cluster)(e:Int)(hc:c.sz≤8388608):Rt 98 [.agg c.e,.one (I e)] [.one (B (qjM c e))]:=by
 have hl:=Cluster.links_le hc;have hb:=qC3 e hc;have l:=qao (P:=prog) (c:=(qaa f98 0)) (qaf 0) c.links.length (fun i:Nat=>qhz (c.links.map Link.e) e i (sumTo (qbp e) c.links i) (c.graph.nodes.map Node.e) c.graph.workers c.graph.cap (c.workers.map Worker.e) (c.links.map Link.e) (c.tokens.map Token.e) (c.news.map News.e)) (fun i hi=>by
  obtain⟨a,ha⟩:=qal hi;have hs:=qvJ (sz:=qbp e) ha;have h1:=qvK (sz:=qbp e) (xs:=c.links) (i:=i+1);rw[hs,Int.natCast_add];exact qzW ⟨lt1 hi,lt0,lt2 hi,qac Link.e ha,qC0 a e (Cluster.link_sz hc (qag ha)),⟨by omega,by omega⟩,up1 hi hl,trivial⟩) (qzX ⟨ge1,trivial⟩)
 rw[qvI,qvH]at l;exact qzY ⟨l,qC2 c e hc,trivial⟩
def qaw(key workers:Int):Int:=if workers<1 then 0 else if key.tmod workers<0 then key.tmod workers+workers else key.tmod workers
theorem qmH(a b:Int)(h:0<b):- b<a.tmod b:=by
 rcases Int.le_total 0 a with ha | ha
 ·have:=Int.tmod_nonneg b ha;omega
 ·have h1:(-a).tmod b<b:=Int.tmod_lt_of_pos _ h;rw[Int.neg_tmod]at h1;omega
theorem qq3(key workers:Int)(hw:workers≤9223372036854775807):Rt 245 [.one (I key),.one (I workers)] [.one (I (qaw key workers))]:=by
 unfold qaw;split
 ·exact qzZ ⟨by simpa using ‹workers<1›,trivial⟩
 ·rename_i h;have h1:=qmH key workers (by omega);have h2:key.tmod workers<workers:=Int.tmod_lt_of_pos _ (by omega);split
  ·rename_i h3;exact qz0 ⟨by simp only[zf];omega,by omega,by simpa using h3,⟨by omega,by omega⟩,trivial⟩
  ·rename_i h3;exact qz1 ⟨by simp only[zf];omega,by omega,by simpa using h3,trivial⟩
theorem qmI(key workers:Int)(hw:workers≤9223372036854775807):Rt 148 [.one (I key),.one (I workers)] [.one (I (qaw key workers))]:=by
 unfold qaw;split
 ·exact qz2 ⟨by simpa using ‹workers<1›,trivial⟩
 ·rename_i h;have h1:=qmH key workers (by omega);have h2:key.tmod workers<workers:=Int.tmod_lt_of_pos _ (by omega);split
  ·rename_i h3;exact qz3 ⟨by simp only[zf];omega,by omega,by simpa using h3,⟨by omega,by omega⟩,trivial⟩
  ·rename_i h3;exact qz4 ⟨by simp only[zf];omega,by omega,by simpa using h3,trivial⟩
def qdv(w n:Int)(r:Record):Bool:=qaw r.key n != w
theorem qC4(xs:List Record)(w n:Int)(hn:n≤9223372036854775807)(hl:xs.length≤8388608):Rt 159 [.one (.sl 5 (xs.map Record.e)),.one (I w),.one (I n)] [.one (B (!(xs.any (qdv w n))))]:=
 qz5 ⟨qqH xs (qdv w n) _ _ hl (by kernel_rfl) (fun x _=>qz6 ⟨qmI _ _ hn,trivial⟩),trivial⟩
def badW(n:Int)(i:Nat)(w:Worker):Bool:=w.queue.any (qdv i n)||w.inputs.any (qdv i n)
def badL(n:Int)(i:Nat)(l:Link):Bool:=decide (n<1)||l.queue.any (qdv ((i:Int).tmod n) n)
def qgu(c:Cluster):Bool:=!(anyI (badW c.graph.workers) 0 c.workers)&&!(anyI (badL c.graph.workers) 0 c.links)
theorem Worker.queue_le{w:Worker}(h:w.sz≤8388608):w.queue.length≤8388608:=by simp only[Worker.sz]at h;omega
theorem Worker.inputs_le{w:Worker}(h:w.sz≤8388608):w.inputs.length≤8388608:=by simp only[Worker.sz]at h;omega
theorem qfo(xs:List Record)(w n:Int)(r:Bool)(h:xs.any (qdv w n)=r)(hn:n≤9223372036854775807)(hl:xs.length≤8388608):Rt 159 [.one (.sl 5 (xs.map Record.e)),.one (I w),.one (I n)] [.one (B (!r))]:=h▸qC4 xs w n hn hl
theorem qq4(c:Cluster)(hc:c.sz≤8388608)(hw:Nums c):Rt 35 [.agg c.e] [.one (B (qgu c))]:=by
 have hn:=hw.n;simp only[inInt]at hn;have hn:=hn.2;have l0:=qdn (P:=prog) (c:=(qaa f35 0)) c.workers (badW c.graph.workers) (fun i=>qc7 c.graph.workers (c.workers.map Worker.e) i (c.graph.nodes.map Node.e) c.graph.workers c.graph.cap (c.workers.map Worker.e) (c.links.map Link.e) (c.tokens.map Token.e) (c.news.map News.e)) (X:=qhA false) qaE (qaf 0)
  (fun i a ha h=>by
   simp only[badW,zy]at h;have hs:=Cluster.worker_sz hc (qag ha);exact qAa ⟨lt1 (lt_of ha),lt0,lt2 (lt_of ha),qac Worker.e ha,qfo _ _ _ false h.1 hn (Worker.queue_le hs),rfl,qfo _ _ _ false h.2 hn (Worker.inputs_le hs),rfl,up1 (lt_of ha) (Cluster.wlen_le hc),trivial⟩)
  (fun i a ha h=>by
   have hs:=Cluster.worker_sz hc (qag ha);by_cases h1:a.queue.any (qdv i c.graph.workers)=true
   ·exact qz8 ⟨lt1 (lt_of ha),lt0,lt2 (lt_of ha),qac Worker.e ha,qfo _ _ _ true h1 hn (Worker.queue_le hs),rfl,trivial⟩
   ·have h1':=zQ.2 h1;simp only[badW,h1',zal]at h;exact qz9 ⟨lt1 (lt_of ha),lt0,lt2 (lt_of ha),qac Worker.e ha,qfo _ _ _ false h1' hn (Worker.queue_le hs),rfl,qfo _ _ _ true h hn (Worker.inputs_le hs),rfl,trivial⟩)
  (qAb ⟨ge1,trivial⟩)
 unfold qgu;by_cases h0:c.links=[]
 ·
  have hlk:(c.links.map Link.e)=[]:=by rw[h0];rfl
  have l1:qam prog (qaa f35 1) (qdS c.graph.workers (c.links.map Link.e) 0) (.exit 2) qjB:=
   .last (qaf 2) (qqS ⟨by rw[hlk];rfl,trivial⟩)
  have e1:anyI (badL c.graph.workers) 0 c.links=false:=by rw[h0];rfl
  have hz:decide ((↑(c.links.map Link.e).length:Int)>0)=false:=by rw[hlk];rfl
  rw[e1];rcases l0 with⟨e0,l0⟩ | ⟨e0,l0⟩
  ·rw[e0];exact qAi ⟨hz,l0,l1,trivial⟩
  ·rw[e0];exact qAh ⟨hz,l0,trivial⟩
 ·have hpos:0<c.links.length:=List.length_pos_iff.2 h0;have hz:decide ((↑(c.links.map Link.e).length:Int)>0)=true:=by simp only[zb,gt_iff_lt,zi];omega
  by_cases h1:c.graph.workers<1
  ·have e1:anyI (badL c.graph.workers) 0 c.links=true:=by
    cases e:anyI (badL c.graph.workers) 0 c.links with
    | true=>rfl
    | false=>
     obtain⟨a,ha⟩:=qal hpos;have:=qgc e 0 a ha;simp[badL,h1]at this
   rw[e1,zZ,Bool.and_false];exact qz7 ⟨hz,by simpa using h1,trivial⟩
  have l1:=qdn (P:=prog) (c:=(qaa f35 1)) c.links (badL c.graph.workers) (fun i=>qdS c.graph.workers (c.links.map Link.e) i) (X:=qmt false) qaE (qaf 2)
   (fun i a ha h=>by
    simp only[badL,zy,zf]at h;have hs:a.queue.length≤8388608:=Cluster.link_sz hc (qag ha);exact qAe ⟨lt1 (lt_of ha),lt0,lt2 (lt_of ha),qac Link.e ha,by omega,qfo _ _ _ false h.2 hn hs,rfl,up1 (lt_of ha) (Cluster.links_le hc),trivial⟩)
   (fun i a ha h=>by
    have hs:a.queue.length≤8388608:=Cluster.link_sz hc (qag ha);have h2:a.queue.any (qdv ((i:Int).tmod c.graph.workers) c.graph.workers)=true:=by simpa[badL,h1]using h
    exact qAd ⟨lt1 (lt_of ha),lt0,lt2 (lt_of ha),qac Link.e ha,by omega,qfo _ _ _ true h2 hn hs,rfl,trivial⟩)
   (qqS ⟨ge1,trivial⟩)
  have hz1:decide (c.graph.workers<1)=false:=by simpa using h1
  rcases l0 with⟨e0,l0⟩ | ⟨e0,l0⟩
  ·rcases l1 with⟨e1,l1⟩ | ⟨e1,l1⟩
   ·rw[e0,e1];exact qAg ⟨hz,hz1,l0,l1,trivial⟩
   ·rw[e0,e1];exact qAf ⟨hz,hz1,l0,l1,trivial⟩
  ·rw[e0];exact qAc ⟨hz,hz1,l0,trivial⟩
end Go.Proofs.YtdkobdhckkjmeaaGreat
namespace Go.Proofs.YtdkobdhckkjmeaaGreat
open Go.Sx Go.RowKit Go.Proofs.Tryz
def qau(g:Graph)(cs:List Cell)(r:Record):List Cell×List Record×Bool:=match qaP g r.op with | some x=>qas g cs r x | none=>(cs,[],false)
theorem qH3(g:Graph)(cs:List Cell)(r:Record)(hg:g.sz≤8388608)(hl:cs.length≤8388608):Rt 209 [.agg g.e,.one (.sl 4 (cs.map Cell.e)),.agg r.e] [.one (.sl 4 ((qau g cs r).1.map Cell.e)),.one (.sl 5 ((qau g cs r).2.1.map Record.e)),.one (B (qau g cs r).2.2)]:=by
 unfold qau;cases h:qaP g r.op with
 | some x=>exact qH1 g cs r x hg hl h
 | none=>exact qHf ⟨by simp<;>omega,by simp<;>omega,qae _ Cell.flat _,qjP g r.op (⟨0,0,0,[]⟩,false) (by unfold qeq;rw[h]) hg,rfl,trivial⟩
theorem qH4(g:Graph)(cs:List Cell)(r:Record)(hg:g.sz≤8388608)(hl:cs.length≤8388608):Rt 238 [.agg g.e,.one (.sl 4 (cs.map Cell.e)),.agg r.e] [.one (.sl 4 ((qau g cs r).1.map Cell.e)),.one (.sl 5 ((qau g cs r).2.1.map Record.e)),.one (B (qau g cs r).2.2)]:=by
 unfold qau;cases h:qaP g r.op with
 | some x=>exact qH2 g cs r x hg hl h
 | none=>
  have c1:=qfr g hg;have c2:=qdz r;have c3:=qgv g r.op false (by rw[h];rfl) hg;have cp:=qep cs hl;generalize qax g=b1 at*;generalize qaB r=b2 at*;cases b1 with
  | false=>exact qrr ⟨c1,rfl,cp,trivial⟩
  | true=>
   cases b2 with
   | false=>exact qrs ⟨c1,rfl,c2,rfl,cp,trivial⟩
   | true=>exact qHF ⟨c1,rfl,c2,rfl,c3,rfl,cp,trivial⟩
def qbH(g:Graph)(r:Record)(x:Node):Bool:=qax g&&qaB r&&x.kind==7&&decide (0<x.outs.length)&&!(qaG r.stamp).2
def capped(g:Graph)(r:Record):Bool:=match qaP g r.op with | some x=>qbH g r x | none=>false
theorem qH5(g:Graph)(r:Record)(x:Node)(hg:g.sz≤8388608)(hn:qaP g r.op=some x):Rt 210 [.agg g.e,.agg r.e] [.one (B (qbH g r x))]:=by
 have c1:=qjP g r.op (x,true) (by unfold qeq;rw[hn]) hg;have c2:=qgw r.stamp;have c3:=qjQ g hg;rcases ze (qax g) with h4 | h4
 ·skip
  have c5:=qdU r;rcases ze (qaB r) with h6 | h6
  ·skip
   rcases ze (x.kind==7) with h7 | h7
   ·skip
    rcases ze (decide ((↑(x.outs.map eI).length:Int)>0)) with h8 | h8
    ·skip
     rw[show qbH g r x=(!((qaG r.stamp).2)) from by grind[qbH]];exact qG9 ⟨c1,c2,rfl,c3,h4,c5,h6,h7,h8,trivial⟩
    ·skip
     rw[show qbH g r x=false from by grind[qbH]];exact qHa ⟨c1,c2,rfl,c3,h4,c5,h6,h7,h8,trivial⟩
   ·skip
    rw[show qbH g r x=false from by grind[qbH]];exact qHb ⟨c1,c2,rfl,c3,h4,c5,h6,h7,trivial⟩
  ·skip
   rw[show qbH g r x=false from by grind[qbH]];exact qHc ⟨c1,c2,rfl,c3,h4,c5,h6,trivial⟩
 ·skip
  rw[show qbH g r x=false from by grind[qbH]];exact qHd ⟨c1,c2,rfl,c3,h4,trivial⟩
theorem qH6(g:Graph)(r:Record)(hg:g.sz≤8388608):Rt 210 [.agg g.e,.agg r.e] [.one (B (capped g r))]:=by
 unfold capped;cases h:qaP g r.op with
 | some x=>exact qH5 g r x hg h
 | none=>exact qHe ⟨qjP g r.op (⟨0,0,0,[]⟩,false) (by unfold qeq;rw[h]) hg,qgw r.stamp,rfl,trivial⟩
theorem qmW{g:Graph}(h:qax g=true){op:Int}{x:Node}(hn:qaP g op=some x):qab x=true:=by
 simp only[qax,zj,zS]at h;unfold qaP at hn;split at hn
 ·have:=qgc h.2 op.toNat x hn;simp only[qbv,zy,zX]at this;exact this.1.1
 ·cases hn
theorem qH7{x:Node}(h:qab x=true):x.outs.length≤2:=by
 simp only[qab,zj,zi]at h;exact h.1.1.1.2
theorem qH8(kind:Int)(cs:List Cell)(x:Cell):(qaj kind cs x).1.length≤cs.length+1:=by
 have h1:=qq8 cs x;have h2:=qq8 (cs.filter fun a=>!qaF x a) x;have h3:=zat (fun a=>!qaF x a) cs;unfold qaj;split
 ·split<;>simp<;>omega
 ·split
  ·unfold qba;split<;>simp<;>omega
  ·simp
theorem qH9{g:Graph}(hg:qax g=true)(cs:List Cell)(r:Record):(qau g cs r).1.length≤cs.length+1∧(qau g cs r).2.1.length≤2:=by
 unfold qau;cases h:qaP g r.op with
 | none=>exact⟨by simp,by simp⟩
 | some x=>
  have hx:=qH7 (qmW hg h);have hr:=qH8 x.kind cs ⟨r.op,r.stamp.epoch,r.key,r.val⟩;have hs:∀s k v,(sends x s k v).length≤2:=fun s k v=>by simpa[sends]using hx
  simp only[qas];split
  ·split
   ·exact⟨by simp,by simp⟩
   ·split
    ·exact⟨hr,by simp⟩
    ·split
     ·refine⟨hr,?_⟩;cases (qaG r.stamp).2 with
      | true=>exact hs _ _ _
      | false=>simp
     ·exact⟨hr,hs _ _ _⟩
  ·exact⟨by simp,by simp⟩
end Go.Proofs.YtdkobdhckkjmeaaGreat
namespace Go.Proofs.YtdkobdhckkjmeaaGreat
open Go.Sx Go.RowKit Go.Proofs.Tryz
def qjS(p:Cell×Cell):Bool:=decide (qbg p.1 p.2≥0)
def qbI(xs:List Cell):Bool:=!((xs.zip (xs.drop 1)).any qjS)
theorem qhK{xs:List Cell}{i:Nat}{p:Cell×Cell}(h:(xs.zip (xs.drop 1))[i]?=some p):xs[i]?=some p.1∧xs[i+1]?=some p.2:=by
 rw[List.getElem?_zip_eq_some]at h;obtain⟨h1,h2⟩:=h;rw[zA,Nat.add_comm]at h2;exact⟨h1,h2⟩
theorem qIa(xs:List Cell)(hl:xs.length≤8388608):Rt 280 [.one (.sl 4 (xs.map Cell.e))] [.one (B (qbI xs))]:=by
 have e0:∀i:Nat,(((i:Int)+1)-1).toNat=i:=fun i=>by omega
 have e1:∀i:Nat,(((i:Int)+1)).toNat=i+1:=fun i=>by omega
 have hz:(xs.zip (xs.drop 1)).length=xs.length-1:=by simp
 have l:=qaW (P:=prog) (c:=(qaa f280 0)) (xs.zip (xs.drop 1)) qjS (fun i=>qeg (xs.map Cell.e) ((i:Int)+1)) (X:=fun _ _=>qmu false) qaE (qaf 0)
  (fun i a ha h=>by
   obtain⟨h1,h2⟩:=qhK ha;have hi:=lt_of h2;refine tr_to (qeg (xs.map Cell.e)) (qAk ⟨dT (by simp only[zb];omega),⟨by omega,by omega⟩,by omega,by simp only[zb];omega,by rw[e0,zr,h1];rfl,by omega,by simp only[zb];omega,by rw[e1,zr,h2];rfl,qjv a.1 a.2,h,⟨by omega,by omega⟩,trivial⟩) (by omega))
  (fun i a ha h=>by
   obtain⟨h1,h2⟩:=qhK ha;have hi:=lt_of h2;exact qAj ⟨dT (by simp only[zb];omega),⟨by omega,by omega⟩,by omega,by simp only[zb];omega,by rw[e0,zr,h1];rfl,by omega,by simp only[zb];omega,by rw[e1,zr,h2];rfl,qjv a.1 a.2,h,trivial⟩)
  (qAl ⟨dF (by rw[hz];simp only[zb];omega),trivial⟩)
 unfold qbI;rcases l with⟨_,_,h1,h2⟩ | ⟨i,a,_,_,_,_,h1,h2⟩
 ·rw[h1];exact qAn ⟨h2,trivial⟩
 ·rw[h1];exact qAm ⟨h2,trivial⟩
theorem qrE(xs:List Cell)(r:Bool)(h:qbI xs=r)(hl:xs.length≤8388608):Rt 280 [.one (.sl 4 (xs.map Cell.e))] [.one (B r)]:=h▸qIa xs hl
theorem qIb(xs:List Cell)(hl:xs.length≤8388608):Rt 278 [.one (.sl 4 (xs.map Cell.e))] [.one (B (qbI xs))]:=by
 have e0:∀i:Nat,(((i:Int)+1)-1).toNat=i:=fun i=>by omega
 have e1:∀i:Nat,(((i:Int)+1)).toNat=i+1:=fun i=>by omega
 have hz:(xs.zip (xs.drop 1)).length=xs.length-1:=by simp
 have l:=qaW (P:=prog) (c:=(qaa f278 0)) (xs.zip (xs.drop 1)) qjS (fun i=>qeh (xs.map Cell.e) ((i:Int)+1)) (X:=fun _ _=>qmv false) qaE (qaf 0)
  (fun i a ha h=>by
   obtain⟨h1,h2⟩:=qhK ha;have hi:=lt_of h2;refine tr_to (qeh (xs.map Cell.e)) (qAp ⟨dT (by simp only[zb];omega),⟨by omega,by omega⟩,by omega,by simp only[zb];omega,by rw[e0,zr,h1];rfl,by omega,by simp only[zb];omega,by rw[e1,zr,h2];rfl,qju a.1 a.2,h,⟨by omega,by omega⟩,trivial⟩) (by omega))
  (fun i a ha h=>by
   obtain⟨h1,h2⟩:=qhK ha;have hi:=lt_of h2;exact qAo ⟨dT (by simp only[zb];omega),⟨by omega,by omega⟩,by omega,by simp only[zb];omega,by rw[e0,zr,h1];rfl,by omega,by simp only[zb];omega,by rw[e1,zr,h2];rfl,qju a.1 a.2,h,trivial⟩)
  (qAq ⟨dF (by rw[hz];simp only[zb];omega),trivial⟩)
 unfold qbI;rcases l with⟨_,_,h1,h2⟩ | ⟨i,a,_,_,_,_,h1,h2⟩
 ·rw[h1];exact qAs ⟨h2,trivial⟩
 ·rw[h1];exact qAr ⟨h2,trivial⟩
theorem qrF(xs:List Cell)(r:Bool)(h:qbI xs=r)(hl:xs.length≤8388608):Rt 278 [.one (.sl 4 (xs.map Cell.e))] [.one (B r)]:=h▸qIb xs hl
def qbA(g:Graph)(r:Record):Bool:=!qaB r||decide (r.op≥(g.nodes.length:Int))
def qaV(g:Graph)(xs:List Record):Bool:=!(xs.any (qbA g))
theorem qIc{r:Record}(h:qaB r=true):0≤r.op:=by
 simp only[qaB,zj,inR,zi]at h;omega
theorem qId(g:Graph)(xs:List Record)(hl:xs.length≤8388608):Rt 177 [.agg g.e,.one (.sl 5 (xs.map Record.e))] [.one (B (qaV g xs))]:=by
 have l:=qaW (P:=prog) (c:=(qaa f177 0)) xs (qbA g) (fun i=>qei (g.nodes.map Node.e) g.workers g.cap (xs.map Record.e) i) (X:=fun _ _=>qjC false) qaE (qaf 0)
  (fun i a ha h=>by
   simp only[qbA,zy,zX]at h;have c:=qdU a;rw[h.1]at c;exact qAv ⟨lt1 (lt_of ha),lt0,lt2 (lt_of ha),qac Record.e ha,c,rfl,lt0,lt2 (lt_of ha),qac Record.e ha,by rw[zb];exact h.2,up1 (lt_of ha) hl,trivial⟩)
  (fun i a ha h=>by
   have c:=qdU a;cases hr:qaB a with
   | false=>
    rw[hr]at c;exact qAt ⟨lt1 (lt_of ha),lt0,lt2 (lt_of ha),qac Record.e ha,c,rfl,trivial⟩
   | true=>
    rw[hr]at c;simp only[qbA,hr,zZ,zal]at h;exact qAu ⟨lt1 (lt_of ha),lt0,lt2 (lt_of ha),qac Record.e ha,c,rfl,lt0,lt2 (lt_of ha),qac Record.e ha,by rw[zb];exact h,trivial⟩)
  (qAw ⟨ge1,trivial⟩)
 unfold qaV;rcases l with⟨_,_,h1,h2⟩ | ⟨i,a,_,_,_,_,h1,h2⟩
 ·rw[h1];exact qAy ⟨h2,trivial⟩
 ·rw[h1];exact qAx ⟨h2,trivial⟩
theorem qrG{g:Graph}{r:Record}(h:qaB r=true):(qaP g r.op).isSome=!(decide (r.op≥(g.nodes.length:Int))):=by
 have h0:=qIc h;unfold qaP;rw[zp h0];by_cases hc:r.op≥(g.nodes.length:Int)
 ·rw[dT hc,List.getElem?_eq_none (by omega)];rfl
 ·rw[dF hc,zu (by omega)];rfl
theorem qIe(g:Graph)(xs:List Record)(hg:g.sz≤8388608)(hl:xs.length≤8388608):Rt 174 [.agg g.e,.one (.sl 5 (xs.map Record.e))] [.one (B (qaV g xs))]:=by
 have l:=qaW (P:=prog) (c:=(qaa f174 0)) xs (qbA g) (fun i=>qej (xs.map Record.e) i (g.nodes.map Node.e) g.workers g.cap) (X:=fun _ _=>qjD false) qaE (qaf 0)
  (fun i a ha h=>by
   simp only[qbA,zy,zX]at h;have c:=qdz a;rw[h.1]at c;exact qAB ⟨lt1 (lt_of ha),lt0,lt2 (lt_of ha),qac Record.e ha,c,rfl,qgv g a.op true (by rw[qrG h.1,h.2];rfl) hg,rfl,up1 (lt_of ha) hl,trivial⟩)
  (fun i a ha h=>by
   have c:=qdz a;cases hr:qaB a with
   | false=>
    rw[hr]at c;exact qAz ⟨lt1 (lt_of ha),lt0,lt2 (lt_of ha),qac Record.e ha,c,rfl,trivial⟩
   | true=>
    rw[hr]at c;simp only[qbA,hr,zZ,zal]at h;exact qAA ⟨lt1 (lt_of ha),lt0,lt2 (lt_of ha),qac Record.e ha,c,rfl,qgv g a.op false (by rw[qrG hr,h];rfl) hg,rfl,trivial⟩)
  (qAC ⟨ge1,trivial⟩)
 unfold qaV;rcases l with⟨_,_,h1,h2⟩ | ⟨i,a,_,_,_,_,h1,h2⟩
 ·rw[h1];exact qAE ⟨h2,trivial⟩
 ·rw[h1];exact qAD ⟨h2,trivial⟩
theorem qfx(g:Graph)(xs:List Record)(r:Bool)(h:qaV g xs=r)(_:g.sz≤8388608)(hl:xs.length≤8388608):Rt 177 [.agg g.e,.one (.sl 5 (xs.map Record.e))] [.one (B r)]:=h▸qId g xs hl
theorem qfy(g:Graph)(xs:List Record)(r:Bool)(h:qaV g xs=r)(hg:g.sz≤8388608)(hl:xs.length≤8388608):Rt 174 [.agg g.e,.one (.sl 5 (xs.map Record.e))] [.one (B r)]:=h▸qIe g xs hg hl
def qbq(l:Link):Bool:=
 inR l.cap 1 4&&inR l.credits 0 l.cap&&inR l.back 0 l.cap&&(l.credits+l.back+l.queue.length==l.cap)&&inR l.sent 0 1000000000&&decide (0≤l.got)&&(l.got==l.sent-l.queue.length)&&!(l.queue.any fun r=>!qaB r)
theorem qIf(xs:List Record)(hl:xs.length≤8388608):Rt 279 [.one (.sl 5 (xs.map Record.e))] [.one (B (!(xs.any fun r=>!qaB r)))]:=by
 have l:=qaW (P:=prog) (c:=(qaa f279 0)) xs (fun r=>!qaB r) (fun i=>qfk (xs.map Record.e) i) (X:=fun _ _=>qmE false) qaE (qaf 0)
  (fun i a ha h=>qBO ⟨lt1 (lt_of ha),lt0,lt2 (lt_of ha),qac Record.e ha,qdz a,h,up1 (lt_of ha) hl,trivial⟩)
  (fun i a ha h=>qBN ⟨lt1 (lt_of ha),lt0,lt2 (lt_of ha),qac Record.e ha,qdz a,h,trivial⟩)
  (qBP ⟨ge1,trivial⟩)
 rcases l with⟨_,_,h1,h2⟩ | ⟨i,a,_,_,_,_,h1,h2⟩
 ·rw[h1];exact qBR ⟨h2,trivial⟩
 ·rw[h1];exact qBQ ⟨h2,trivial⟩
theorem qjT(l:Link)(hl:l.sz≤8388608)(hgot:l.got≤9223372036854775807):Rt 173 [.agg l.e] [.one (B (qbq l))]:=by
 have hq:l.queue.length≤8388608:=hl;have c1:=qbN l.cap 1 4;have c2:=qbN l.credits 0 l.cap;have c3:=qbN l.back 0 l.cap;have c4:=qbN l.sent 0 1000000000;have c5:=qIf l.queue hq;unfold qbq;cases h1:inR l.cap 1 4 with
 | false=>rw[h1]at c1;exact qBF ⟨c1,rfl,trivial⟩
 | true=>
 cases h2:inR l.credits 0 l.cap with
 | false=>rw[h1]at c1;rw[h2]at c2;exact qBG ⟨c1,rfl,c2,rfl,trivial⟩
 | true=>
 cases h3:inR l.back 0 l.cap with
 | false=>rw[h1]at c1;rw[h2]at c2;rw[h3]at c3;exact qBH ⟨c1,rfl,c2,rfl,c3,rfl,trivial⟩
 | true=>
 have k1:=h1;have k2:=h2;have k3:=h3;simp only[inR,zi]at k1 k2 k3;rw[h1]at c1;rw[h2]at c2;rw[h3]at c3;have u1:inInt .i64 (l.credits+l.back):=⟨by omega,by omega⟩
 have u2:inInt .i64 (l.credits+l.back+(↑(l.queue.map Record.e).length:Int)):=⟨by simp only[zb];omega,by simp only[zb];omega⟩
 cases h4:(l.credits+l.back+(l.queue.length:Int)==l.cap) with
 | false=>exact qBI ⟨c1,rfl,c2,rfl,c3,rfl,u1,u2,by rw[zb];simpa using h4,trivial⟩
 | true=>
 have v4:(l.credits+l.back+(↑(l.queue.map Record.e).length:Int) != l.cap)=false:=by rw[zb];simpa using h4
 cases h5:inR l.sent 0 1000000000 with
 | false=>rw[h5]at c4;exact qBJ ⟨c1,rfl,c2,rfl,c3,rfl,u1,u2,v4,c4,rfl,trivial⟩
 | true=>
 have k5:=h5;simp only[inR,zi]at k5;rw[h5]at c4;by_cases h6:l.got<0
 ·rw[dF (show ¬0≤l.got by omega)];exact qBK ⟨c1,rfl,c2,rfl,c3,rfl,u1,u2,v4,c4,rfl,dT h6,trivial⟩
 ·rw[dT (show 0≤l.got by omega)];have u3:inInt .i64 (l.sent-l.got):=⟨by omega,by omega⟩
  ·by_cases h7:l.got=l.sent-(l.queue.length:Int)
   ·rw[show (l.got==l.sent-(l.queue.length:Int))=true from by simpa using h7];exact qBM ⟨c1,rfl,c2,rfl,c3,rfl,u1,u2,v4,c4,rfl,dF h6,u3,by rw[zb];simp;omega,c5,trivial⟩
   ·rw[show (l.got==l.sent-(l.queue.length:Int))=false from by simpa using h7];exact qBL ⟨c1,rfl,c2,rfl,c3,rfl,u1,u2,v4,c4,rfl,dF h6,u3,by rw[zb];simp;omega,trivial⟩
theorem qjU(l:Link)(hl:l.sz≤8388608):Rt 176 [.agg l.e] [.one (B (qbq l))]:=by
 have hq:l.queue.length≤8388608:=hl;have lp:=qaW (P:=prog) (c:=(qaa f176 0)) l.queue (fun r=>!qaB r) (fun i=>qcH l.cap (l.queue.map Record.e) l.credits l.back l.sent l.got i) (X:=fun _ _=>qmD false) qaE (qaf 0)
  (fun i a ha h=>qBv ⟨lt1 (lt_of ha),lt0,lt2 (lt_of ha),qac Record.e ha,qdU a,h,up1 (lt_of ha) hq,trivial⟩)
  (fun i a ha h=>qBu ⟨lt1 (lt_of ha),lt0,lt2 (lt_of ha),qac Record.e ha,qdU a,h,trivial⟩)
  (qBw ⟨ge1,trivial⟩)
 unfold qbq;rcases lp with⟨_,_,h0,lp⟩ | ⟨i,a,_,_,_,_,h0,lp⟩
 case inr=>
  rw[h0,zZ,Bool.and_false];exact qBx ⟨lp,trivial⟩
 rw[h0,zbc,zcs];have c1:=qbo l.cap 1 4;have c2:=qbo l.credits 0 l.cap;have c3:=qbo l.back 0 l.cap;have c4:=qbo l.sent 0 1000000000;cases h1:inR l.cap 1 4 with
 | false=>rw[h1]at c1;exact qBE ⟨lp,c1,rfl,trivial⟩
 | true=>
 cases h2:inR l.credits 0 l.cap with
 | false=>rw[h1]at c1;rw[h2]at c2;exact qBD ⟨lp,c1,rfl,c2,rfl,trivial⟩
 | true=>
 cases h3:inR l.back 0 l.cap with
 | false=>rw[h1]at c1;rw[h2]at c2;rw[h3]at c3;exact qBC ⟨lp,c1,rfl,c2,rfl,c3,rfl,trivial⟩
 | true=>
 have k1:=h1;have k2:=h2;have k3:=h3;simp only[inR,zi]at k1 k2 k3;rw[h1]at c1;rw[h2]at c2;rw[h3]at c3;have u1:inInt .i64 (l.credits+l.back):=⟨by omega,by omega⟩
 have u2:inInt .i64 (l.credits+l.back+(↑(l.queue.map Record.e).length:Int)):=⟨by simp only[zb];omega,by simp only[zb];omega⟩
 cases h4:(l.credits+l.back+(l.queue.length:Int)==l.cap) with
 | false=>exact qBB ⟨lp,c1,rfl,c2,rfl,c3,rfl,u1,u2,by rw[zb];exact h4,trivial⟩
 | true=>
 have v4:(l.credits+l.back+(↑(l.queue.map Record.e).length:Int)==l.cap)=true:=by rw[zb];exact h4
 cases h5:inR l.sent 0 1000000000 with
 | false=>rw[h5]at c4;exact qBA ⟨lp,c1,rfl,c2,rfl,c3,rfl,u1,u2,v4,c4,rfl,trivial⟩
 | true=>
 have k5:=h5;simp only[inR,zi]at k5;rw[h5]at c4;have u3:inInt .i64 (l.sent-(↑(l.queue.map Record.e).length:Int)):=⟨by simp only[zb];omega,by simp only[zb];omega⟩
 cases h7:(l.got==l.sent-(l.queue.length:Int)) with
 | false=>
  rw[Bool.and_false];exact qBz ⟨lp,c1,rfl,c2,rfl,c3,rfl,u1,u2,v4,c4,rfl,u3,by rw[zb];exact h7,trivial⟩
 | true=>
  rw[zcs];exact qBy ⟨lp,c1,rfl,c2,rfl,c3,rfl,u1,u2,v4,c4,rfl,u3,by rw[zb];exact h7,trivial⟩
end Go.Proofs.YtdkobdhckkjmeaaGreat
