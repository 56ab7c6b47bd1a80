/- CreditsOk, SumsOk, OwnersOk: what program and reference compute. -/
import Derived.Test.YtdkobdhckkjmeaaGreatP18
import Derived.Test.YtdkobdhckkjmeaaGreatGU
set_option linter.unusedVariables false
set_option linter.unusedSimpArgs false
namespace Go.Proofs.YtdkobdhckkjmeaaGreat
open Go.Sx Go.RowKit Go.Proofs.Tryz
theorem Cluster.link_wf{c:Cluster}(h:c.wf){l:Link}(hl:l∈c.links):l.wf:=h.links_ok.2 l hl
structure Nums (c:Cluster):Prop where
 n:inInt .i64 c.graph.workers
 l:∀l∈c.links,inInt .i64 l.cap∧l.got≤9223372036854775807
theorem Nums.of{c:Cluster}(h:c.wf):Nums c:=⟨h.graph_ok.workers_ok,fun l hl=>⟨(Cluster.link_wf h hl).cap_ok,(Cluster.link_wf h hl).got_ok.2⟩⟩
theorem Cluster.link_sz{c:Cluster}(h:c.sz≤8388608){l:Link}(hl:l∈c.links):l.sz≤8388608:=by
 have:=qe2 (sz:=Link.sz) (xs:=c.links) (m:=8388608) (by simp only[Cluster.sz]at h;omega) hl;exact this
def qbp(e:Int)(l:Link):Nat:=(qa5 e l.queue).length
theorem wlen{α:Type}{f:Int→α}{xs:List Int}(h:xs.length≤8388608):IntKind.i64.wrap ((↑(xs.map f).length:Int)-1)=(xs.length:Int)-1:=by
 rw[zb];exact inInt.wrap ⟨by omega,by omega⟩
def qay(key workers:Int):Int:=if workers<1 then 0 else if key.tmod workers<0 then key.tmod workers+workers else key.tmod workers
theorem qm2(a b:Int)(h:0<b):- b<a.tmod b:=by
 rcases Int.le_total 0 a with ha | ha
 ·have:=Int.tmod_nonneg b ha;omega
 ·have h1:(-a).tmod b<b:=Int.tmod_lt_of_pos _ h;rw[Int.neg_tmod]at h1;omega
theorem qrU(key workers:Int)(hw:workers≤9223372036854775807):Rt 245 [.one (I key),.one (I workers)] [.one (I (qay key workers))]:=by
 unfold qay;split
 ·exact qFs ⟨by simpa using ‹workers<1›,trivial⟩
 ·rename_i h;have h1:=qm2 key workers (by omega);have h2:key.tmod workers<workers:=Int.tmod_lt_of_pos _ (by omega);split
  ·rename_i h3;exact qFt ⟨by simp only[zf];omega,by omega,by simpa using h3,⟨by omega,by omega⟩,trivial⟩
  ·rename_i h3;exact qFu ⟨by simp only[zf];omega,by omega,by simpa using h3,trivial⟩
theorem qm3(key workers:Int)(hw:workers≤9223372036854775807):Rt 148 [.one (I key),.one (I workers)] [.one (I (qay key workers))]:=by
 unfold qay;split
 ·exact qFv ⟨by simpa using ‹workers<1›,trivial⟩
 ·rename_i h;have h1:=qm2 key workers (by omega);have h2:key.tmod workers<workers:=Int.tmod_lt_of_pos _ (by omega);split
  ·rename_i h3;exact qFw ⟨by simp only[zf];omega,by omega,by simpa using h3,⟨by omega,by omega⟩,trivial⟩
  ·rename_i h3;exact qFx ⟨by simp only[zf];omega,by omega,by simpa using h3,trivial⟩
def qdD(w n:Int)(r:Record):Bool:=qay r.key n != w
def badW(n:Int)(i:Nat)(w:Worker):Bool:=w.queue.any (qdD i n)||w.inputs.any (qdD i n)
def badL(n:Int)(i:Nat)(l:Link):Bool:=decide (n<1)||l.queue.any (qdD ((i:Int).tmod n) n)
def qgB(c:Cluster):Bool:=!(anyI (badW c.graph.workers) 0 c.workers)&&!(anyI (badL c.graph.workers) 0 c.links)
theorem Worker.queue_le{w:Worker}(h:w.sz≤8388608):w.queue.length≤8388608:=by simp only[Worker.sz]at h;omega
theorem Worker.inputs_le{w:Worker}(h:w.sz≤8388608):w.inputs.length≤8388608:=by simp only[Worker.sz]at h;omega
end Go.Proofs.YtdkobdhckkjmeaaGreat
namespace Go.Proofs.YtdkobdhckkjmeaaGreat
open Go.Sx Go.RowKit Go.Proofs.Tryz
def qjZ(p:Cell×Cell):Bool:=decide (qbg p.1 p.2≥0)
def qbI(xs:List Cell):Bool:=!((xs.zip (xs.drop 1)).any qjZ)
theorem qhQ{xs:List Cell}{i:Nat}{p:Cell×Cell}(h:(xs.zip (xs.drop 1))[i]?=some p):xs[i]?=some p.1∧xs[i+1]?=some p.2:=by
 rw[List.getElem?_zip_eq_some]at h;obtain⟨h1,h2⟩:=h;rw[zA,Nat.add_comm]at h2;exact⟨h1,h2⟩
theorem qIz(xs:List Cell)(hl:xs.length≤8388608):Rt 278 [.one (.sl 4 (xs.map Cell.e))] [.one (B (qbI xs))]:=by
 have e0:∀i:Nat,(((i:Int)+1)-1).toNat=i:=fun i=>by omega
 have e1:∀i:Nat,(((i:Int)+1)).toNat=i+1:=fun i=>by omega
 have hz:(xs.zip (xs.drop 1)).length=xs.length-1:=by simp
 have l:=qaX (P:=prog) (c:=(qaa f278 0)) (xs.zip (xs.drop 1)) qjZ (fun i=>qer (xs.map Cell.e) ((i:Int)+1)) (X:=fun _ _=>qmQ false) qaF (qaf 0)
  (fun i a ha h=>by
   obtain⟨h1,h2⟩:=qhQ ha;have hi:=lt_of h2;refine tr_to (qer (xs.map Cell.e)) (qFS ⟨dT (by simp only[zb];omega),⟨by omega,by omega⟩,by omega,by simp only[zb];omega,by rw[e0,zr,h1];rfl,by omega,by simp only[zb];omega,by rw[e1,zr,h2];rfl,qjz a.1 a.2,h,⟨by omega,by omega⟩,trivial⟩) (by omega))
  (fun i a ha h=>by
   obtain⟨h1,h2⟩:=qhQ ha;have hi:=lt_of h2;exact qFR ⟨dT (by simp only[zb];omega),⟨by omega,by omega⟩,by omega,by simp only[zb];omega,by rw[e0,zr,h1];rfl,by omega,by simp only[zb];omega,by rw[e1,zr,h2];rfl,qjz a.1 a.2,h,trivial⟩)
  (qFT ⟨dF (by rw[hz];simp only[zb];omega),trivial⟩)
 unfold qbI;rcases l with⟨_,_,h1,h2⟩ | ⟨i,a,_,_,_,_,h1,h2⟩
 ·rw[h1];exact qFV ⟨h2,trivial⟩
 ·rw[h1];exact qFU ⟨h2,trivial⟩
theorem qrX(xs:List Cell)(r:Bool)(h:qbI xs=r)(hl:xs.length≤8388608):Rt 278 [.one (.sl 4 (xs.map Cell.e))] [.one (B r)]:=h▸qIz xs hl
def qbB(g:Graph)(r:Record):Bool:=!qaC r||decide (r.op≥(g.nodes.length:Int))
def qaW(g:Graph)(xs:List Record):Bool:=!(xs.any (qbB g))
theorem qIA{r:Record}(h:qaC r=true):0≤r.op:=by
 simp only[qaC,zj,inR,zi]at h;omega
theorem qrY{g:Graph}{r:Record}(h:qaC r=true):(qaN g r.op).isSome=!(decide (r.op≥(g.nodes.length:Int))):=by
 have h0:=qIA h;unfold qaN;rw[zp h0];by_cases hc:r.op≥(g.nodes.length:Int)
 ·rw[dT hc,List.getElem?_eq_none (by omega)];rfl
 ·rw[dF hc,zu (by omega)];rfl
theorem qIC(g:Graph)(xs:List Record)(hg:g.sz≤8388608)(hl:xs.length≤8388608):Rt 174 [.agg g.e,.one (.sl 5 (xs.map Record.e))] [.one (B (qaW g xs))]:=by
 have l:=qaX (P:=prog) (c:=(qaa f174 0)) xs (qbB g) (fun i=>qet (xs.map Record.e) i (g.nodes.map Node.e) g.workers g.cap) (X:=fun _ _=>qjP false) qaF (qaf 0)
  (fun i a ha h=>by
   simp only[qbB,zy,zX]at h;have c:=qdt a;rw[h.1]at c;exact qF4 ⟨lt1 (lt_of ha),lt0,lt2 (lt_of ha),qac Record.e ha,c,rfl,qgn g a.op true (by rw[qrY h.1,h.2];rfl) hg,rfl,up1 (lt_of ha) hl,trivial⟩)
  (fun i a ha h=>by
   have c:=qdt a;cases hr:qaC a with
   | false=>
    rw[hr]at c;exact qF2 ⟨lt1 (lt_of ha),lt0,lt2 (lt_of ha),qac Record.e ha,c,rfl,trivial⟩
   | true=>
    rw[hr]at c;simp only[qbB,hr,zZ,zal]at h;exact qF3 ⟨lt1 (lt_of ha),lt0,lt2 (lt_of ha),qac Record.e ha,c,rfl,qgn g a.op false (by rw[qrY hr,h];rfl) hg,rfl,trivial⟩)
  (qF5 ⟨ge1,trivial⟩)
 unfold qaW;rcases l with⟨_,_,h1,h2⟩ | ⟨i,a,_,_,_,_,h1,h2⟩
 ·rw[h1];exact qF7 ⟨h2,trivial⟩
 ·rw[h1];exact qF6 ⟨h2,trivial⟩
theorem qfE(g:Graph)(xs:List Record)(r:Bool)(h:qaW g xs=r)(hg:g.sz≤8388608)(hl:xs.length≤8388608):Rt 174 [.agg g.e,.one (.sl 5 (xs.map Record.e))] [.one (B r)]:=h▸qIC g xs hg hl
def qbq(l:Link):Bool:=
 inR l.cap 1 4&&inR l.credits 0 l.cap&&inR l.back 0 l.cap&&(l.credits+l.back+l.queue.length==l.cap)&&inR l.sent 0 1000000000&&decide (0≤l.got)&&(l.got==l.sent-l.queue.length)&&!(l.queue.any fun r=>!qaC r)
theorem qID(xs:List Record)(hl:xs.length≤8388608):Rt 279 [.one (.sl 5 (xs.map Record.e))] [.one (B (!(xs.any fun r=>!qaC r)))]:=by
 have l:=qaX (P:=prog) (c:=(qaa f279 0)) xs (fun r=>!qaC r) (fun i=>qfy (xs.map Record.e) i) (X:=fun _ _=>qmZ false) qaF (qaf 0)
  (fun i a ha h=>qHh ⟨lt1 (lt_of ha),lt0,lt2 (lt_of ha),qac Record.e ha,qdt a,h,up1 (lt_of ha) hl,trivial⟩)
  (fun i a ha h=>qHg ⟨lt1 (lt_of ha),lt0,lt2 (lt_of ha),qac Record.e ha,qdt a,h,trivial⟩)
  (qHi ⟨ge1,trivial⟩)
 rcases l with⟨_,_,h1,h2⟩ | ⟨i,a,_,_,_,_,h1,h2⟩
 ·rw[h1];exact qHk ⟨h2,trivial⟩
 ·rw[h1];exact qHj ⟨h2,trivial⟩
theorem qj0(l:Link)(hl:l.sz≤8388608)(hgot:l.got≤9223372036854775807):Rt 173 [.agg l.e] [.one (B (qbq l))]:=by
 have hq:l.queue.length≤8388608:=hl;have c1:=qbO l.cap 1 4;have c2:=qbO l.credits 0 l.cap;have c3:=qbO l.back 0 l.cap;have c4:=qbO l.sent 0 1000000000;have c5:=qID l.queue hq;unfold qbq;cases h1:inR l.cap 1 4 with
 | false=>rw[h1]at c1;exact qG8 ⟨c1,rfl,trivial⟩
 | true=>
 cases h2:inR l.credits 0 l.cap with
 | false=>rw[h1]at c1;rw[h2]at c2;exact qG9 ⟨c1,rfl,c2,rfl,trivial⟩
 | true=>
 cases h3:inR l.back 0 l.cap with
 | false=>rw[h1]at c1;rw[h2]at c2;rw[h3]at c3;exact qHa ⟨c1,rfl,c2,rfl,c3,rfl,trivial⟩
 | true=>
 have k1:=h1;have k2:=h2;have k3:=h3;simp only[inR,zi]at k1 k2 k3;rw[h1]at c1;rw[h2]at c2;rw[h3]at c3;have u1:inInt .i64 (l.credits+l.back):=⟨by omega,by omega⟩
 have u2:inInt .i64 (l.credits+l.back+(↑(l.queue.map Record.e).length:Int)):=⟨by simp only[zb];omega,by simp only[zb];omega⟩
 cases h4:(l.credits+l.back+(l.queue.length:Int)==l.cap) with
 | false=>exact qHb ⟨c1,rfl,c2,rfl,c3,rfl,u1,u2,by rw[zb];simpa using h4,trivial⟩
 | true=>
 have v4:(l.credits+l.back+(↑(l.queue.map Record.e).length:Int) != l.cap)=false:=by rw[zb];simpa using h4
 cases h5:inR l.sent 0 1000000000 with
 | false=>rw[h5]at c4;exact qHc ⟨c1,rfl,c2,rfl,c3,rfl,u1,u2,v4,c4,rfl,trivial⟩
 | true=>
 have k5:=h5;simp only[inR,zi]at k5;rw[h5]at c4;by_cases h6:l.got<0
 ·rw[dF (show ¬0≤l.got by omega)];exact qHd ⟨c1,rfl,c2,rfl,c3,rfl,u1,u2,v4,c4,rfl,dT h6,trivial⟩
 ·rw[dT (show 0≤l.got by omega)];have u3:inInt .i64 (l.sent-l.got):=⟨by omega,by omega⟩
  ·by_cases h7:l.got=l.sent-(l.queue.length:Int)
   ·rw[show (l.got==l.sent-(l.queue.length:Int))=true from by simpa using h7];exact qHf ⟨c1,rfl,c2,rfl,c3,rfl,u1,u2,v4,c4,rfl,dF h6,u3,by rw[zb];simp;omega,c5,trivial⟩
   ·rw[show (l.got==l.sent-(l.queue.length:Int))=false from by simpa using h7];exact qHe ⟨c1,rfl,c2,rfl,c3,rfl,u1,u2,v4,c4,rfl,dF h6,u3,by rw[zb];simp;omega,trivial⟩
end Go.Proofs.YtdkobdhckkjmeaaGreat
namespace Go.Proofs.YtdkobdhckkjmeaaGreat
open Go.Sx Go.RowKit Go.Proofs.Tryz
def inBad(xs:List Record)(i:Nat)(r:Record):Bool:=
 r.op != 0||r.stamp.turn != 0||(match i with | 0=>false | j+1=>match xs[j]? with | some q=>decide (q.stamp.epoch>r.stamp.epoch) | none=>false)
theorem qrZ{xs:List Record}{i:Nat}{a:Record}(ha:xs[i]?=some a)(h:inBad xs i a=true):
  (a.op != 0)=true∨((a.op != 0)=false∧(a.stamp.turn != 0)=true)∨((a.op != 0)=false∧(a.stamp.turn != 0)=false∧∃j b,i=j+1∧xs[j]?=some b∧decide (b.stamp.epoch>a.stamp.epoch)=true):=by
 unfold inBad at h;cases h1:(a.op != 0) with
 | true=>exact .inl rfl
 | false=>
 cases h2:(a.stamp.turn != 0) with
 | true=>exact .inr (.inl ⟨rfl,rfl⟩)
 | false=>
 rw[h1,h2,zal,zal]at h;cases i with
 | zero=>cases h
 | succ j=>
  have hj:j<xs.length:=by have:=lt_of ha;omega
  obtain⟨b,hb⟩:=qal hj;simp only[hb]at h;exact .inr (.inr ⟨rfl,rfl,j,b,rfl,hb,h⟩)
theorem qr0{xs:List Record}{i:Nat}{a:Record}(ha:xs[i]?=some a)(h:inBad xs i a=false):
  (a.op != 0)=false∧(a.stamp.turn != 0)=false∧(i=0∨∃j b,i=j+1∧xs[j]?=some b∧decide (b.stamp.epoch>a.stamp.epoch)=false):=by
 unfold inBad at h;rw[zy,zy]at h;obtain⟨⟨h1,h2⟩,h⟩:=h;refine⟨h1,h2,?_⟩;cases i with
 | zero=>exact .inl rfl
 | succ j=>
  have hj:j<xs.length:=by have:=lt_of ha;omega
  obtain⟨b,hb⟩:=qal hj;simp only[hb]at h;exact .inr ⟨j,b,rfl,hb,h⟩
theorem qj2{α:Type}(f:α→List D){xs:List α}{j:Nat}{b:α}(h:xs[j]?=some b):(xs.map f)[(((j+1:Nat):Int)-1).toNat]?=some (f b):=by
 rw[show (((j+1:Nat):Int)-1)=(j:Int) by omega];exact qac f h
theorem qj3{α β:Type}{f:α→β}{xs:List α}{j:Nat}{b:α}(h:xs[j]?=some b):(((j+1:Nat):Int)-1)<(↑(xs.map f).length:Int):=by
 have:=lt_of h;rw[zb];omega
def qcA(n:Int):Bool:=!inR n (-1000000) 1000000
def qbU(xs:List Done)(i:Nat)(d:Done):Bool:=!inR d.epoch 0 3||(xs.take i).any (fun q=>q.epoch==d.epoch)
theorem len4{α β:Type}{f:α→β}{xs:List α}(h:(xs.length==4)=true):((↑(xs.map f).length:Int) != 4)=false:=by
 rw[zb,eq_of_beq h];rfl
theorem len4'{α β:Type}{f:α→β}{xs:List α}(h:(xs.length==4)=false):((↑(xs.map f).length:Int) != 4)=true:=by
 rw[zb];have:=ne_of_beq_false h;simp only[bne_iff_ne,zcc];omega
def qaK(g:Graph)(w:Worker):Bool:=
 qaW g w.queue&&(qaW g w.staged&&(qaW g w.inputs&&(qbI w.cells&&((w.sums.length==4)&&((w.black.length==4)&&((w.caps.length==4)&&(!anyI (inBad w.inputs) 0 w.inputs&&(!(w.sums.any qcA)&&!anyI (qbU w.dones) 0 w.dones))))))))
theorem Worker.staged_le{w:Worker}(h:w.sz≤8388608):w.staged.length≤8388608:=by simp only[Worker.sz]at h;omega
theorem Worker.cells_le'{w:Worker}(h:w.sz≤8388608):w.cells.length≤8388608:=by simp only[Worker.sz]at h;omega
theorem Worker.sums_le{w:Worker}(h:w.sz≤8388608):w.sums.length≤8388608:=by simp only[Worker.sz]at h;omega
theorem Worker.dones_le'{w:Worker}(h:w.sz≤8388608):w.dones.length≤8388608:=by simp only[Worker.sz]at h;omega
end Go.Proofs.YtdkobdhckkjmeaaGreat
namespace Go.Proofs.YtdkobdhckkjmeaaGreat
open Go.Sx Go.RowKit Go.Proofs.Tryz
theorem qIG(w:Worker)(hl:w.inputs.length≤8388608):
  (anyI (inBad w.inputs) 0 w.inputs=false∧qam prog (qaa f172 0) (qbT (w.inputs.map Record.e) 0 (w.queue.map Record.e) (w.staged.map Record.e) (w.inputs.map Record.e) (w.cells.map Cell.e) (w.sums.map eI) (w.black.map eB) (w.caps.map eB) (w.dones.map Done.e)) (.exit 0) (qev (w.queue.map Record.e) (w.staged.map Record.e) (w.inputs.map Record.e) (w.cells.map Cell.e) (w.sums.map eI) (w.black.map eB) (w.caps.map eB) (w.dones.map Done.e)))∨
  (anyI (inBad w.inputs) 0 w.inputs=true∧qam prog (qaa f172 0) (qbT (w.inputs.map Record.e) 0 (w.queue.map Record.e) (w.staged.map Record.e) (w.inputs.map Record.e) (w.cells.map Cell.e) (w.sums.map eI) (w.black.map eB) (w.caps.map eB) (w.dones.map Done.e)) .ret (qhL false)):=
 qdo (P:=prog) (c:=(qaa f172 0)) w.inputs (inBad w.inputs) (fun i=>qbT (w.inputs.map Record.e) i (w.queue.map Record.e) (w.staged.map Record.e) (w.inputs.map Record.e) (w.cells.map Cell.e) (w.sums.map eI) (w.black.map eB) (w.caps.map eB) (w.dones.map Done.e)) qaF (qaf 0)
  (fun i a ha h=>by
   have hi:=lt_of ha;obtain⟨h1,h2,rfl | ⟨j,b,rfl,hb,h3⟩⟩:=qr0 ha h
   ·exact qGH ⟨lt1 (lt_of ha),lt0,lt2 (lt_of ha),qac Record.e ha,h1,h2,dF (by omega),up1 (lt_of ha) hl,trivial⟩
   ·exact qGG ⟨lt1 (lt_of ha),lt0,lt2 (lt_of ha),qac Record.e ha,h1,h2,dT (by omega),⟨by omega,by omega⟩,by omega,qj3 hb,qj2 Record.e hb,h3,up1 (lt_of ha) hl,trivial⟩)
  (fun i a ha h=>by
   have hi:=lt_of ha;rcases qrZ ha h with h1 | ⟨h1,h2⟩ | ⟨h1,h2,j,b,rfl,hb,h3⟩
   ·exact qGD ⟨lt1 (lt_of ha),lt0,lt2 (lt_of ha),qac Record.e ha,h1,trivial⟩
   ·exact qGE ⟨lt1 (lt_of ha),lt0,lt2 (lt_of ha),qac Record.e ha,h1,h2,trivial⟩
   ·exact qGF ⟨lt1 (lt_of ha),lt0,lt2 (lt_of ha),qac Record.e ha,h1,h2,dT (by omega),⟨by omega,by omega⟩,by omega,qj3 hb,qj2 Record.e hb,h3,trivial⟩)
  (qGI ⟨ge1,trivial⟩)
theorem qr2(xs:List Done)(i:Nat)(e:Int)(r:Bool)(h:(xs.take i).any (fun q=>q.epoch==e)=r)(hl:xs.length≤8388608):Rt 271 [.one (.sl 2 ((xs.map Done.e).take i)),.one (I e)] [.one (B r)]:=by
 have c:=qrA (xs.take i) e (by rw[zay];omega);rw[zcr,h]at c;exact c
theorem qIH(w:Worker)(hl:w.dones.length≤8388608):
  (anyI (qbU w.dones) 0 w.dones=false∧qam prog (qaa f172 2) (qdA (w.dones.map Done.e) 0 (w.queue.map Record.e) (w.staged.map Record.e) (w.inputs.map Record.e) (w.cells.map Cell.e) (w.sums.map eI) (w.black.map eB) (w.caps.map eB) (w.dones.map Done.e)) (.exit 4) qmX)∨
  (anyI (qbU w.dones) 0 w.dones=true∧qam prog (qaa f172 2) (qdA (w.dones.map Done.e) 0 (w.queue.map Record.e) (w.staged.map Record.e) (w.inputs.map Record.e) (w.cells.map Cell.e) (w.sums.map eI) (w.black.map eB) (w.caps.map eB) (w.dones.map Done.e)) .ret (qjS false)):=
 qdo (P:=prog) (c:=(qaa f172 2)) w.dones (qbU w.dones) (fun i=>qdA (w.dones.map Done.e) i (w.queue.map Record.e) (w.staged.map Record.e) (w.inputs.map Record.e) (w.cells.map Cell.e) (w.sums.map eI) (w.black.map eB) (w.caps.map eB) (w.dones.map Done.e)) qaF (qaf 4)
  (fun i a ha h=>by
   have hi:=lt_of ha;simp only[qbU,zy,zX]at h;exact qGT ⟨lt1 (lt_of ha),lt0,lt2 (lt_of ha),qac Done.e ha,qaP _ _ _ true h.1,rfl,Int.le_refl 0,(lt0:(0:Int)≤(i:Int)),(show (i:Int)≤_ by rw[zb];omega),qr2 w.dones i a.epoch false h.2 hl,rfl,up1 (lt_of ha) hl,trivial⟩)
  (fun i a ha h=>by
   have hi:=lt_of ha;cases h1:inR a.epoch 0 3 with
   | false=>exact qGR ⟨lt1 (lt_of ha),lt0,lt2 (lt_of ha),qac Done.e ha,qaP _ _ _ false h1,rfl,trivial⟩
   | true=>
    simp only[qbU,h1,zZ,zal]at h;exact qGS ⟨lt1 (lt_of ha),lt0,lt2 (lt_of ha),qac Done.e ha,qaP _ _ _ true h1,rfl,Int.le_refl 0,(lt0:(0:Int)≤(i:Int)),(show (i:Int)≤_ by rw[zb];omega),qr2 w.dones i a.epoch true h hl,rfl,trivial⟩)
  (qGU ⟨ge1,trivial⟩)
theorem qj4(g:Graph)(w:Worker)(hg:g.sz≤8388608)(hw:w.sz≤8388608):Rt 172 [.agg g.e,.agg w.e] [.one (B (qaK g w))]:=by
 unfold qaK;cases h1:qaW g w.queue with
 | false=>exact qGz ⟨qfE g _ _ h1 hg (Worker.queue_le hw),rfl,trivial⟩
 | true=>
 have c1:=qfE g _ _ h1 hg (Worker.queue_le hw);cases h2:qaW g w.staged with
 | false=>exact qGA ⟨c1,rfl,qfE g _ _ h2 hg (Worker.staged_le hw),rfl,trivial⟩
 | true=>
 have c2:=qfE g _ _ h2 hg (Worker.staged_le hw);cases h3:qaW g w.inputs with
 | false=>exact qGB ⟨c1,rfl,c2,rfl,qfE g _ _ h3 hg (Worker.inputs_le hw),rfl,trivial⟩
 | true=>
 have c3:=qfE g _ _ h3 hg (Worker.inputs_le hw);cases h4:qbI w.cells with
 | false=>exact qGC ⟨c1,rfl,c2,rfl,c3,rfl,qrX _ _ h4 (Worker.cells_le' hw),rfl,trivial⟩
 | true=>
 have c4:=qrX _ _ h4 (Worker.cells_le' hw);rcases qIG w (Worker.inputs_le hw) with⟨h8,l8⟩ | ⟨h8,l8⟩
 case inr=>
  rw[h8];simp only[zZ,Bool.false_and,Bool.and_false];exact qGJ ⟨c1,rfl,c2,rfl,c3,rfl,c4,rfl,l8,trivial⟩
 cases h5:(w.sums.length==4) with
 | false=>exact qGK ⟨c1,rfl,c2,rfl,c3,rfl,c4,rfl,l8,len4' h5,trivial⟩
 | true=>
 cases h6:(w.black.length==4) with
 | false=>exact qGL ⟨c1,rfl,c2,rfl,c3,rfl,c4,rfl,l8,len4 h5,len4' h6,trivial⟩
 | true=>
 cases h7:(w.caps.length==4) with
 | false=>exact qGM ⟨c1,rfl,c2,rfl,c3,rfl,c4,rfl,l8,len4 h5,len4 h6,len4' h7,trivial⟩
 | true=>
 have l9:=qaX (P:=prog) (c:=(qaa f172 1)) w.sums qcA (fun i=>qew (w.queue.map Record.e) (w.staged.map Record.e) (w.inputs.map Record.e) (w.cells.map Cell.e) (w.sums.map eI) (w.black.map eB) (w.caps.map eB) (w.dones.map Done.e) i) (X:=fun _ _=>qmV false) qaF (qaf 2)
  (fun i a ha h=>qGO ⟨lt1 (lt_of ha),lt0,lt2 (lt_of ha),qac eI ha,qaP _ _ _ true (by simpa[qcA]using h),rfl,up1 (lt_of ha) (Worker.sums_le hw),trivial⟩)
  (fun i a ha h=>qGN ⟨lt1 (lt_of ha),lt0,lt2 (lt_of ha),qac eI ha,qaP _ _ _ false (by simpa[qcA]using h),rfl,trivial⟩)
  (qGP ⟨ge1,trivial⟩)
 rw[h8];rcases l9 with⟨_,_,h9,l9⟩ | ⟨_,_,_,_,_,_,h9,l9⟩
 case inr=>rw[h9];exact qGQ ⟨c1,rfl,c2,rfl,c3,rfl,c4,rfl,l8,len4 h5,len4 h6,len4 h7,l9,trivial⟩
 rw[h9];rcases qIH w (Worker.dones_le' hw) with⟨h10,l10⟩ | ⟨h10,l10⟩
 ·rw[h10];exact qGW ⟨c1,rfl,c2,rfl,c3,rfl,c4,rfl,l8,len4 h5,len4 h6,len4 h7,l9,l10,trivial⟩
 ·rw[h10];exact qGV ⟨c1,rfl,c2,rfl,c3,rfl,c4,rfl,l8,len4 h5,len4 h6,len4 h7,l9,l10,trivial⟩
end Go.Proofs.YtdkobdhckkjmeaaGreat
namespace Go.Proofs.YtdkobdhckkjmeaaGreat
open Go.Sx Go.RowKit Go.Proofs.Tryz
theorem graph_sz1{c:Cluster}(h:c.sz≤8388608):c.graph.sz≤8388608:=by simp only[Cluster.sz]at h;omega
theorem qr3{c:Cluster}(h:c.sz≤8388608):c.tokens.length≤8388608:=by simp only[Cluster.sz,szS]at h;omega
theorem qfF{c:Cluster}(h:c.sz≤8388608):c.news.length≤8388608:=by simp only[Cluster.sz,szS]at h;omega
def qbE(g:Graph)(i:Nat)(l:Link):Bool:=
 !qbq l||((l.cap != g.cap)||(!qaW g l.queue||((i:Int).tdiv g.workers==(i:Int).tmod g.workers&&decide ((l.queue.length:Int)>0))))
def qbP(n:Int)(t:Token):Bool:=!inR t.place 0 (n-1)||((!t.going&&t.place != 0)||!inR t.sum (-1000000) 1000000)
def qbQ(n:Int)(x:News):Bool:=!inR x.dest 0 (n-1)||!inR x.epoch 0 3
def qai(c:Cluster):Bool:=
 qax c.graph&&(((c.workers.length:Int)==c.graph.workers)&&(((c.links.length:Int)==c.graph.workers*c.graph.workers)&&((c.tokens.length==4)&&(!(c.workers.any fun w=>!qaK c.graph w)&&(!(anyI (qbE c.graph) 0 c.links)&&(!(c.tokens.any (qbP c.graph.workers))&&!(c.news.any (qbQ c.graph.workers))))))))
theorem qa8{g:Graph}(h:qax g=true):1≤g.workers∧g.workers≤4:=by
 simp only[qax,zj,inR,zi]at h;omega
theorem qgC(i:Nat)(n:Int)(hi:i≤8388608)(hn:1≤n):inInt .i64 ((i:Int).tdiv n):=by
 have h1:0≤(i:Int).tdiv n:=Int.tdiv_nonneg (by omega) (by omega);have h2:(i:Int).tdiv n≤(i:Int):=Int.tdiv_le_self _ (by omega);exact⟨by omega,by omega⟩
theorem qII{c:Cluster}(h:c.wf){l:Link}(hl:l∈c.links):l.got≤9223372036854775807:=by
 have:=(Cluster.link_wf h hl).got_ok;simp only[inInt]at this;exact this.2
def GotLe(c:Cluster):Prop:=∀l∈c.links,l.got≤9223372036854775807
theorem GotLe.of{c:Cluster}(h:c.wf):GotLe c:=fun _ hl=>qII h hl
theorem qIO(c:Cluster)(hc:c.sz≤8388608)(hn:(c.workers.length:Int)=c.graph.workers):
  ((c.workers.any fun w=>!qaK c.graph w)=false∧qam prog (qaa f55 0) (qcW c.graph.workers (c.workers.map Worker.e) 0 (c.graph.nodes.map Node.e) c.graph.workers c.graph.cap (c.workers.map Worker.e) (c.links.map Link.e) (c.tokens.map Token.e) (c.news.map News.e)) (.exit 0) (qgz c.graph.workers (c.graph.nodes.map Node.e) c.graph.workers c.graph.cap (c.workers.map Worker.e) (c.links.map Link.e) (c.tokens.map Token.e) (c.news.map News.e)))∨
  ((c.workers.any fun w=>!qaK c.graph w)=true∧qam prog (qaa f55 0) (qcW c.graph.workers (c.workers.map Worker.e) 0 (c.graph.nodes.map Node.e) c.graph.workers c.graph.cap (c.workers.map Worker.e) (c.links.map Link.e) (c.tokens.map Token.e) (c.news.map News.e)) .ret (qjV false)):=by
 have hl:=Cluster.wlen_le hc;have l:=qaX (P:=prog) (c:=(qaa f55 0)) c.workers (fun w=>!qaK c.graph w) (fun i=>qcW c.graph.workers (c.workers.map Worker.e) i (c.graph.nodes.map Node.e) c.graph.workers c.graph.cap (c.workers.map Worker.e) (c.links.map Link.e) (c.tokens.map Token.e) (c.news.map News.e)) (X:=fun _ _=>qjV false) qaF (qaf 0)
  (fun i a ha h=>by
   have k:=qj4 c.graph a (graph_sz1 hc) (Cluster.worker_sz hc (qag ha));rw[show qaK c.graph a=true by simpa using h]at k;exact qHU ⟨lt1 (lt_of ha),lt0,lt2 (lt_of ha),qac Worker.e ha,k,rfl,up1 (lt_of ha) hl,trivial⟩)
  (fun i a ha h=>by
   have k:=qj4 c.graph a (graph_sz1 hc) (Cluster.worker_sz hc (qag ha));rw[show qaK c.graph a=false by simpa using h]at k;exact qHT ⟨lt1 (lt_of ha),lt0,lt2 (lt_of ha),qac Worker.e ha,k,rfl,trivial⟩)
  (qHV ⟨ge1,trivial⟩)
 rcases l with⟨_,_,h1,h2⟩ | ⟨_,_,_,_,_,_,h1,h2⟩
 ·exact .inl ⟨h1,h2⟩
 ·exact .inr ⟨h1,h2⟩
theorem qIP(c:Cluster)(hc:c.sz≤8388608)(hw:GotLe c)(hn:1≤c.graph.workers):
  (anyI (qbE c.graph) 0 c.links=false∧qam prog (qaa f55 1) (qb9 c.graph.workers (c.links.map Link.e) 0 (c.graph.nodes.map Node.e) c.graph.workers c.graph.cap (c.workers.map Worker.e) (c.links.map Link.e) (c.tokens.map Token.e) (c.news.map News.e)) (.exit 2) (qhO c.graph.workers (c.graph.nodes.map Node.e) c.graph.workers c.graph.cap (c.workers.map Worker.e) (c.links.map Link.e) (c.tokens.map Token.e) (c.news.map News.e)))∨
  (anyI (qbE c.graph) 0 c.links=true∧qam prog (qaa f55 1) (qb9 c.graph.workers (c.links.map Link.e) 0 (c.graph.nodes.map Node.e) c.graph.workers c.graph.cap (c.workers.map Worker.e) (c.links.map Link.e) (c.tokens.map Token.e) (c.news.map News.e)) .ret (qgA false)):=by
 have hl:=Cluster.llen_le hc;have kl:∀(i:Nat) (a:Link),c.links[i]?=some a→∀r,qbq a=r→Rt 173 [.agg a.e] [.one (B r)]:=fun i a ha r h=>h▸qj0 a (Cluster.link_sz hc (qag ha)) (hw _ (qag ha))
 have kr:∀(i:Nat) (a:Link),c.links[i]?=some a→∀r,qaW c.graph a.queue=r→Rt 174 [.agg c.graph.e,.one (.sl 5 (a.queue.map Record.e))] [.one (B r)]:=fun i a ha r h=>qfE c.graph _ r h (graph_sz1 hc) (Cluster.link_sz hc (qag ha))
 exact qdo (P:=prog) (c:=(qaa f55 1)) c.links (qbE c.graph) (fun i=>qb9 c.graph.workers (c.links.map Link.e) i (c.graph.nodes.map Node.e) c.graph.workers c.graph.cap (c.workers.map Worker.e) (c.links.map Link.e) (c.tokens.map Token.e) (c.news.map News.e)) qaF (qaf 2)
  (fun i a ha h=>by
   have hi:=lt_of ha;simp only[qbE,zy,zX]at h;obtain⟨h1,h2,h3,h4⟩:=h;cases h5:((i:Int).tdiv c.graph.workers==(i:Int).tmod c.graph.workers) with
   | true=>
    rw[h5,zbl]at h4;exact qH1 ⟨lt1 (lt_of ha),lt0,lt2 (lt_of ha),qac Link.e ha,kl i a ha _ h1,rfl,h2,kr i a ha _ h3,rfl,by omega,qgC i _ (by omega) hn,by omega,h5,by rw[zb];exact h4,up1 hi hl,trivial⟩
   | false=>exact qH2 ⟨lt1 (lt_of ha),lt0,lt2 (lt_of ha),qac Link.e ha,kl i a ha _ h1,rfl,h2,kr i a ha _ h3,rfl,by omega,qgC i _ (by omega) hn,by omega,h5,up1 hi hl,trivial⟩)
  (fun i a ha h=>by
   have hi:=lt_of ha;cases h1:qbq a with
   | false=>exact qHX ⟨lt1 (lt_of ha),lt0,lt2 (lt_of ha),qac Link.e ha,kl i a ha _ h1,rfl,trivial⟩
   | true=>
   cases h2:(a.cap != c.graph.cap) with
   | true=>exact qHY ⟨lt1 (lt_of ha),lt0,lt2 (lt_of ha),qac Link.e ha,kl i a ha _ h1,rfl,h2,trivial⟩
   | false=>
   cases h3:qaW c.graph a.queue with
   | false=>exact qHZ ⟨lt1 (lt_of ha),lt0,lt2 (lt_of ha),qac Link.e ha,kl i a ha _ h1,rfl,h2,kr i a ha _ h3,rfl,trivial⟩
   | true=>
   simp only[qbE,h1,h2,h3,zZ,zal,zj]at h;exact qH0 ⟨lt1 (lt_of ha),lt0,lt2 (lt_of ha),qac Link.e ha,kl i a ha _ h1,rfl,h2,kr i a ha _ h3,rfl,by omega,qgC i _ (by omega) hn,by omega,h.1,by rw[zb];exact h.2,trivial⟩)
  (qH3 ⟨ge1,trivial⟩)
theorem qIQ(c:Cluster)(hc:c.sz≤8388608)(hn:1≤c.graph.workers∧c.graph.workers≤4):
  ((c.tokens.any (qbP c.graph.workers))=false∧qam prog (qaa f55 2) (qcm c.graph.workers (c.tokens.map Token.e) 0 (c.graph.nodes.map Node.e) c.graph.workers c.graph.cap (c.workers.map Worker.e) (c.links.map Link.e) (c.tokens.map Token.e) (c.news.map News.e)) (.exit 4) (qjW c.graph.workers (c.graph.nodes.map Node.e) c.graph.workers c.graph.cap (c.workers.map Worker.e) (c.links.map Link.e) (c.tokens.map Token.e) (c.news.map News.e)))∨
  ((c.tokens.any (qbP c.graph.workers))=true∧qam prog (qaa f55 2) (qcm c.graph.workers (c.tokens.map Token.e) 0 (c.graph.nodes.map Node.e) c.graph.workers c.graph.cap (c.workers.map Worker.e) (c.links.map Link.e) (c.tokens.map Token.e) (c.news.map News.e)) .ret (qfA false)):=by
 have hl:=qr3 hc;have l:=qaX (P:=prog) (c:=(qaa f55 2)) c.tokens (qbP c.graph.workers) (fun i=>qcm c.graph.workers (c.tokens.map Token.e) i (c.graph.nodes.map Node.e) c.graph.workers c.graph.cap (c.workers.map Worker.e) (c.links.map Link.e) (c.tokens.map Token.e) (c.news.map News.e)) (X:=fun _ _=>qfA false) qaF (qaf 4)
  (fun i a ha h=>by
   have hi:=lt_of ha;simp only[qbP,zy,zX]at h;obtain⟨h1,h2,h3⟩:=h;cases hg:a.going with
   | false=>
    rw[hg,zbc,zbl]at h2;exact qH8 ⟨lt1 (lt_of ha),lt0,lt2 (lt_of ha),qac Token.e ha,⟨by omega,by omega⟩,qaP _ _ _ true h1,rfl,by rw[hg];rfl,h2,qaP _ _ _ true h3,rfl,up1 hi hl,trivial⟩
   | true=>exact qIa ⟨lt1 (lt_of ha),lt0,lt2 (lt_of ha),qac Token.e ha,⟨by omega,by omega⟩,qaP _ _ _ true h1,rfl,by rw[hg];rfl,qaP _ _ _ true h3,rfl,up1 hi hl,trivial⟩)
  (fun i a ha h=>by
   have hi:=lt_of ha;cases h1:inR a.place 0 (c.graph.workers-1) with
   | false=>exact qH5 ⟨lt1 (lt_of ha),lt0,lt2 (lt_of ha),qac Token.e ha,⟨by omega,by omega⟩,qaP _ _ _ false h1,rfl,trivial⟩
   | true=>
   simp only[qbP,h1,zZ,zal]at h;cases hg:a.going with
   | false=>
    rw[hg,zbc,zbl]at h;cases h2:(a.place != 0) with
    | true=>exact qH6 ⟨lt1 (lt_of ha),lt0,lt2 (lt_of ha),qac Token.e ha,⟨by omega,by omega⟩,qaP _ _ _ true h1,rfl,by rw[hg];rfl,h2,trivial⟩
    | false=>
     rw[h2,zal]at h;exact qH7 ⟨lt1 (lt_of ha),lt0,lt2 (lt_of ha),qac Token.e ha,⟨by omega,by omega⟩,qaP _ _ _ true h1,rfl,by rw[hg];rfl,h2,qaP _ _ _ false (by simpa using h),rfl,trivial⟩
   | true=>
    rw[hg,zZ,Bool.false_and,zal]at h;exact qH9 ⟨lt1 (lt_of ha),lt0,lt2 (lt_of ha),qac Token.e ha,⟨by omega,by omega⟩,qaP _ _ _ true h1,rfl,by rw[hg];rfl,qaP _ _ _ false (by simpa using h),rfl,trivial⟩)
  (qIb ⟨ge1,trivial⟩)
 rcases l with⟨_,_,h1,h2⟩ | ⟨_,_,_,_,_,_,h1,h2⟩
 ·exact .inl ⟨h1,h2⟩
 ·exact .inr ⟨h1,h2⟩
theorem qIR(c:Cluster)(hc:c.sz≤8388608)(hn:1≤c.graph.workers∧c.graph.workers≤4):
  ((c.news.any (qbQ c.graph.workers))=false∧qam prog (qaa f55 3) (qdC c.graph.workers (c.news.map News.e) 0) (.exit 6) qm1)∨
  ((c.news.any (qbQ c.graph.workers))=true∧qam prog (qaa f55 3) (qdC c.graph.workers (c.news.map News.e) 0) .ret (qhP false)):=by
 have hl:=qfF hc;have l:=qaX (P:=prog) (c:=(qaa f55 3)) c.news (qbQ c.graph.workers) (fun i=>qdC c.graph.workers (c.news.map News.e) i) (X:=fun _ _=>qhP false) qaF (qaf 6)
  (fun i a ha h=>by
   have hi:=lt_of ha;simp only[qbQ,zy,zX]at h;exact qIf ⟨lt1 (lt_of ha),lt0,lt2 (lt_of ha),qac News.e ha,⟨by omega,by omega⟩,qaP _ _ _ true h.1,rfl,qaP _ _ _ true h.2,rfl,up1 hi hl,trivial⟩)
  (fun i a ha h=>by
   have hi:=lt_of ha;cases h1:inR a.dest 0 (c.graph.workers-1) with
   | false=>exact qId ⟨lt1 (lt_of ha),lt0,lt2 (lt_of ha),qac News.e ha,⟨by omega,by omega⟩,qaP _ _ _ false h1,rfl,trivial⟩
   | true=>
    simp only[qbQ,h1,zZ,zal]at h;exact qIe ⟨lt1 (lt_of ha),lt0,lt2 (lt_of ha),qac News.e ha,⟨by omega,by omega⟩,qaP _ _ _ true h1,rfl,qaP _ _ _ false (by simpa using h),rfl,trivial⟩)
  (qIg ⟨ge1,trivial⟩)
 rcases l with⟨_,_,h1,h2⟩ | ⟨_,_,_,_,_,_,h1,h2⟩
 ·exact .inl ⟨h1,h2⟩
 ·exact .inr ⟨h1,h2⟩
theorem qhR(c:Cluster)(hc:c.sz≤8388608)(hw:GotLe c):Rt 55 [.agg c.e] [.one (B (qai c))]:=by
 have hg:=qfm c.graph (graph_sz1 hc);unfold qai;cases h1:qax c.graph with
 | false=>rw[h1]at hg;exact qHP ⟨hg,rfl,trivial⟩
 | true=>
 rw[h1]at hg;have hn:=qa8 h1;have hq:inInt .i64 (c.graph.workers*c.graph.workers):=by
  have h3:c.graph.workers=1∨c.graph.workers=2∨c.graph.workers=3∨c.graph.workers=4:=by omega
  rcases h3 with h3 | h3 | h3 | h3<;>(rw[h3];exact⟨by decide,by decide⟩)
 cases h2:((c.workers.length:Int)==c.graph.workers) with
 | false=>exact qHQ ⟨hg,rfl,by rw[zb];simpa using h2,trivial⟩
 | true=>
 have v2:((↑(c.workers.map Worker.e).length:Int) != c.graph.workers)=false:=by rw[zb];simpa using h2
 cases h3:((c.links.length:Int)==c.graph.workers*c.graph.workers) with
 | false=>exact qHR ⟨hg,rfl,v2,hq,by rw[zb];simpa using h3,trivial⟩
 | true=>
 have v3:((↑(c.links.map Link.e).length:Int) != c.graph.workers*c.graph.workers)=false:=by rw[zb];simpa using h3
 cases h4:(c.tokens.length==4) with
 | false=>exact qHS ⟨hg,rfl,v2,hq,v3,len4' h4,trivial⟩
 | true=>
 rcases qIO c hc (eq_of_beq h2) with⟨h5,l5⟩ | ⟨h5,l5⟩
 case inr=>rw[h5];exact qHW ⟨hg,rfl,v2,hq,v3,len4 h4,l5,trivial⟩
 rw[h5];rcases qIP c hc hw hn.1 with⟨h6,l6⟩ | ⟨h6,l6⟩
 case inr=>rw[h6];exact qH4 ⟨hg,rfl,v2,hq,v3,len4 h4,l5,l6,trivial⟩
 rw[h6];rcases qIQ c hc hn with⟨h7,l7⟩ | ⟨h7,l7⟩
 case inr=>rw[h7];exact qIc ⟨hg,rfl,v2,hq,v3,len4 h4,l5,l6,l7,trivial⟩
 rw[h7];rcases qIR c hc hn with⟨h8,l8⟩ | ⟨h8,l8⟩
 ·rw[h8];exact qIi ⟨hg,rfl,v2,hq,v3,len4 h4,l5,l6,l7,l8,trivial⟩
 ·rw[h8];exact qIh ⟨hg,rfl,v2,hq,v3,len4 h4,l5,l6,l7,l8,trivial⟩
end Go.Proofs.YtdkobdhckkjmeaaGreat
namespace Go.Proofs.YtdkobdhckkjmeaaGreat
open Go.Sx Go.RowKit Go.Proofs.Tryz
def cutAt{α:Type}(xs:List α)(k:Nat):List α:=xs.take k++xs.drop (k+1)
def rec0:Record:=⟨0,⟨0,0⟩,0,0⟩
def incAt(xs:List Int)(e d:Int):List Int:=xs.set e.toNat (xs.getD e.toNat 0+d)
def qaz(l:Link)(r:Record):Link×Bool:=
 if qbq l&&qaC r&&l.credits != 0&&decide (l.sent<1000000000) then (⟨l.cap,l.queue++[r],l.credits-1,l.back,l.sent+1,l.got⟩,true) else (l,false)
def qaq(l:Link):Link×Record×Bool:=
 if qbq l then match l.queue with
  | []=>(l,rec0,false)
  | r::q=>(⟨l.cap,q,l.credits,l.back+1,l.sent,l.got+1⟩,r,true)
 else (l,rec0,false)
def qaQ(l:Link):Link×Bool:=
 if qbq l&&l.back != 0 then (⟨l.cap,l.queue,l.credits+1,l.back-1,l.sent,l.got⟩,true) else (l,false)
def qaZ(g:Graph)(w:Worker):Worker×Bool:=
 if qax g&&qaK g w then match w.staged,w.queue with
  | [],r::q=>(⟨q,(qav g w.cells r).2.1,w.inputs,(qav g w.cells r).1,w.sums,w.black,(if capped g r then w.caps.set r.stamp.epoch.toNat true else w.caps),w.dones⟩,true)
  | _,_=>(w,false)
 else (w,false)
def qa0(g:Graph)(w:Worker):Worker×Bool:=
 if qax g&&qaK g w then match w.staged,w.queue,w.inputs with
  | [],[],r::t=>(⟨[r],[],t,w.cells,w.sums,w.black,w.caps,w.dones⟩,true)
  | _,_,_=>(w,false)
 else (w,false)
def qbf(w:Worker)(t:List Record):Worker:=⟨w.queue,t,w.inputs,w.cells,w.sums,w.black,w.caps,w.dones⟩
def kept(w:Worker)(r:Record):Worker:=⟨w.queue++[r],w.staged,w.inputs,w.cells,w.sums,w.black,w.caps,w.dones⟩
def received(w:Worker)(r:Record):Worker:=⟨w.queue++[r],w.staged,w.inputs,w.cells,incAt w.sums r.stamp.epoch (-1),w.black.set r.stamp.epoch.toNat true,w.caps,w.dones⟩
def qbZ(w:Worker)(e:Int):Worker:=⟨w.queue,w.staged,w.inputs,w.cells,incAt w.sums e 1,w.black,w.caps,w.dones⟩
def qaB(w:Worker)(e:Int):Worker:=⟨w.queue,w.staged,w.inputs,w.cells,w.sums,w.black.set e.toNat false,w.caps,w.dones⟩
def told(w:Worker)(e:Int)(b:Bool):Worker:=⟨w.queue,w.staged,w.inputs,w.cells,w.sums,w.black,w.caps,w.dones++[⟨e,b⟩]⟩
def hears(w:Worker)(n:News):Worker:=if qaA w n.epoch then w else told w n.epoch n.capped
def qfG(w:Worker)(e:Int):Bool:=w.inputs.any fun r=>decide (r.stamp.epoch≤e)
def qr4(w:Worker)(e:Int):Nat:=(qa5 e w.queue).length+(qa5 e w.staged).length
def qbF(w:Worker)(e:Int):Bool:=!qfG w e&&qr4 w e==0
def setW(c:Cluster)(i:Int)(x:Worker):Cluster:=⟨c.graph,c.workers.set i.toNat x,c.links,c.tokens,c.news⟩
def setL(c:Cluster)(i:Int)(l:Link):Cluster:=⟨c.graph,c.workers,c.links.set i.toNat l,c.tokens,c.news⟩
def setT(c:Cluster)(i:Int)(t:Token):Cluster:=⟨c.graph,c.workers,c.links,c.tokens.set i.toNat t,c.news⟩
def setN(c:Cluster)(n:List News):Cluster:=⟨c.graph,c.workers,c.links,c.tokens,n⟩
def wAt(c:Cluster)(i:Int):Option Worker:=if 0≤i then c.workers[i.toNat]? else none
def lAt(c:Cluster)(i:Int):Option Link:=if 0≤i then c.links[i.toNat]? else none
def tAt(c:Cluster)(i:Int):Option Token:=if 0≤i then c.tokens[i.toNat]? else none
def qaw(g:Graph)(a b:Int):Int:=if inR a 0 (g.workers-1)&&inR b 0 (g.workers-1) then a*g.workers+b else -1
def qbr(c:Cluster)(w:Int):Cluster×Bool:=
 if qai c then match wAt c w with
  | some x=>(setW c w (qaZ c.graph x).1,(qaZ c.graph x).2)
  | none=>(c,false)
 else (c,false)
def qbs(c:Cluster)(w:Int):Cluster×Bool:=
 if qai c then match wAt c w with
  | some x=>(setW c w (qa0 c.graph x).1,(qa0 c.graph x).2)
  | none=>(c,false)
 else (c,false)
def qda(c:Cluster)(w:Int)(x:Worker)(r:Record)(t:List Record)(o:Int):Cluster×Bool:=
 if o=w then (setW c w (kept (qbf x t) r),true)
 else match lAt c (qaw c.graph w o) with
  | some l=>if (qaz l r).2 then (setW (setL c (qaw c.graph w o) (qaz l r).1) w (qbZ (qbf x t) r.stamp.epoch),true) else (c,false)
  | none=>(c,false)
def qbk(c:Cluster)(w:Int):Cluster×Bool:=
 if qai c then match wAt c w with
  | some x=>match x.staged with
   | r::t=>qda c w x r t (qay r.key c.graph.workers)
   | []=>(c,false)
  | none=>(c,false)
 else (c,false)
def qbx(c:Cluster)(a b:Int):Cluster×Bool:=
 if qai c&&a != b then match lAt c (qaw c.graph a b),wAt c b with
  | some l,some x=>if (qaq l).2.2 then (setW (setL c (qaw c.graph a b) (qaq l).1) b (received x (qaq l).2.1),true) else (c,false)
  | _,_=>(c,false)
 else (c,false)
def qbt(c:Cluster)(a b:Int):Cluster×Bool:=
 if qai c&&a != b then match lAt c (qaw c.graph a b) with
  | some l=>(setL c (qaw c.graph a b) (qaQ l).1,(qaQ l).2)
  | none=>(c,false)
 else (c,false)
def qaR(n:Nat)(e:Int)(b:Bool):List News:=(List.range n).map fun k:Nat=>⟨(k:Int)+1,e,b⟩
def tokenAt(c:Cluster)(e:Int)(t:Token)(x:Worker):Cluster×Bool:=
 if qbF x e then
  if !t.going then (setW (setT c e ⟨true,(c.workers.length:Int)-1,0,false,x.caps.getD e.toNat false⟩) t.place (qaB x e),true)
  else if 0<t.place then
   if inR (t.sum+x.sums.getD e.toNat 0) (-1000000) 1000000 then
    (setW (setT c e ⟨true,t.place-1,t.sum+x.sums.getD e.toNat 0,t.black||x.black.getD e.toNat false,t.capped||x.caps.getD e.toNat false⟩) t.place (qaB x e),true)
   else (c,false)
  else if !t.black&&!x.black.getD e.toNat false&&t.sum+x.sums.getD e.toNat 0==0 then
   (setN (setW (setT c e ⟨false,t.place,t.sum,t.black,t.capped⟩) 0 (told x e (t.capped||x.caps.getD e.toNat false))) (c.news++qaR (c.workers.length-1) e (t.capped||x.caps.getD e.toNat false)),true)
  else (setT c e ⟨false,t.place,t.sum,t.black,t.capped⟩,true)
 else (c,false)
def qbc(c:Cluster)(e:Int):Cluster×Bool:=
 if qai c&&inR e 0 3 then match wAt c 0,tAt c e with
  | some x0,some t=>if qaA x0 e then (c,false) else match wAt c t.place with
   | some x=>tokenAt c e t x
   | none=>(c,false)
  | _,_=>(c,false)
 else (c,false)
def qby(c:Cluster)(w:Int):Cluster×Bool:=
 match c.news.findIdx? (fun n=>n.dest==w) with
 | some k=>if qai c then match c.news[k]?,wAt c w with
   | some n,some x=>(setN (setW c w (hears x n)) (cutAt c.news k),true)
   | _,_=>(c,false)
  else (c,false)
 | none=>(c,false)
def stepPick(c:Cluster)(p:Pick):Cluster×Bool:=
 if p.kind=1 then qbr c p.a else if p.kind=2 then qbs c p.a else if p.kind=3 then qbk c p.a
 else if p.kind=4 then qbx c p.a p.b else if p.kind=5 then qbt c p.a p.b else if p.kind=6 then qbc c p.a
 else if p.kind=7 then qby c p.a else (c,false)
end Go.Proofs.YtdkobdhckkjmeaaGreat
