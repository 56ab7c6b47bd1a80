/- PutCell, CellsIn, OutsOnly, OutCells: what program and reference compute. -/
import Derived.Test.YtdanpadojemjeaaGreatC0
import Derived.Test.YtdanpadojemjeaaGreatQ1
import Derived.Test.YtdanpadojemjeaaGreatGU
set_option linter.unusedVariables false
set_option linter.unusedSimpArgs false
namespace Go.Proofs.YtdanpadojemjeaaGreat
open Go.Sx Go.RowKit Go.Proofs.Tryz
def qcu(xs:List Cell)(x:Cell):Bool:=xs.any fun a=>decide (a=x)
def qbV(xs:List Cell)(x:Cell):Nat:=(xs.findIdx? fun a=>!decide (qbc a x<0)).getD xs.length
def qbD(xs:List Cell)(x:Cell):List Cell:=if qcu xs x then xs else xs.take (qbV xs x)++x::xs.drop (qbV xs x)
theorem qk9(xs:List Cell)(x:Cell):qbV xs x≤xs.length:=by
 unfold qbV
 cases h:xs.findIdx? (fun a=>!decide (qbc a x<0)) with
 | none=>simp
 | some i=>
  rw[zai]at h
  have:=h.1
  simp
  omega
theorem qpR(xs:List Cell)(x:Cell)(hl:xs.length≤8388608):Rt 242 [.one (.sl 4 (xs.map Cell.e)),.agg x.e] [.one (B (qcu xs x))]:=by
 have l:=qaS (P:=prog) (c:=(qaa f242 0)) xs (fun a=>decide (a=x)) (fun i=>qe6 (xs.map Cell.e) x.op x.epoch x.key x.val i) (X:=fun _ _=>qk6 true) qaw (qaf 0)
  (fun i a ha h=>qAr ⟨lt1 (lt_of ha),lt0,lt2 (lt_of ha),qac Cell.e ha,(qk2 a x).trans h,up1 (lt_of ha) hl,trivial⟩)
  (fun i a ha h=>qAq ⟨lt1 (lt_of ha),lt0,lt2 (lt_of ha),qac Cell.e ha,(qk2 a x).trans h,trivial⟩)
  (qAs ⟨ge1,trivial⟩)
 unfold qcu
 rcases l with⟨_,_,h1,h2⟩ | ⟨i,a,_,_,_,_,h1,h2⟩
 ·rw[h1];exact qAu ⟨h2,trivial⟩
 ·rw[h1];exact qAt ⟨h2,trivial⟩
theorem qpS(xs:List Cell)(x:Cell)(r:Bool)(h:qcu xs x=r)(hl:xs.length≤8388608):Rt 242 [.one (.sl 4 (xs.map Cell.e)),.agg x.e] [.one (B r)]:=h▸qpR xs x hl
def idxC(xs:List Cell)(x:Cell):Int:=match xs.findIdx? (fun a=>decide (a=x)) with | some i=>i | none=>-1
theorem qBd(xs:List Cell)(x:Cell):decide (idxC xs x≥0)=qcu xs x:=by
 unfold idxC qcu
 cases h:xs.findIdx? (fun a=>decide (a=x)) with
 | none=>
  have:xs.any (fun a=>decide (a=x))=false:=by
   rw[zP]
   rw[zbs]at h
   exact fun a ha=>by simpa using h a ha
  rw[this];rfl
 | some i=>
  rw[zai]at h
  obtain⟨hi,h2,_⟩:=h
  have:xs.any (fun a=>decide (a=x))=true:=zcj.2 ⟨_,zax hi,h2⟩
  rw[this];simp
theorem qBe(xs:List Cell)(x:Cell)(hl:xs.length≤8388608):Rt 259 [.one (.sl 4 (xs.map Cell.e)),.agg x.e] [.one (I (idxC xs x))]:=by
 have l:=qaS (P:=prog) (c:=(qaa f259 0)) xs (fun a=>decide (a=x)) (fun i=>qe3 (xs.map Cell.e) x.op x.epoch x.key x.val i) (X:=fun i _=>qk3 i) qaw (qaf 0)
  (fun i a ha h=>qzQ ⟨lt1 (lt_of ha),lt0,lt2 (lt_of ha),qac Cell.e ha,(qpv a x).trans h,up1 (lt_of ha) hl,trivial⟩)
  (fun i a ha h=>qzP ⟨lt1 (lt_of ha),lt0,lt2 (lt_of ha),qac Cell.e ha,(qpv a x).trans h,trivial⟩)
  (qzR ⟨ge1,trivial⟩)
 unfold idxC
 rcases l with⟨_,h1,_,h2⟩ | ⟨i,a,_,_,_,h1,_,h2⟩
 ·simp only[h1];exact qzT ⟨h2,trivial⟩
 ·simp only[h1];exact qzS ⟨h2,trivial⟩
theorem qpT(xs:List Cell)(x:Cell)(hl:xs.length≤8388608):Rt 244 [.one (.sl 4 (xs.map Cell.e)),.agg x.e] [.one (B (qcu xs x))]:=by
 rw[←qBd]
 exact qzM ⟨qzO ⟨qBe xs x hl,trivial⟩,trivial⟩
theorem qpU(xs:List Cell)(x:Cell)(r:Bool)(h:qcu xs x=r)(hl:xs.length≤8388608):Rt 244 [.one (.sl 4 (xs.map Cell.e)),.agg x.e] [.one (B r)]:=h▸qpT xs x hl
theorem qdY(xs:List Cell)(hl:xs.length≤8388608):Rt 196 [.one (.sl 4 (xs.map Cell.e))] [.one (.sl 4 (xs.map Cell.e))]:=
 qzL ⟨by simp;omega,by simp;omega,qae _ Cell.flat _,trivial⟩
theorem qhv(xs:List Cell)(x:Cell)(hl:xs.length≤8388608):Rt 223 [.one (.sl 4 (xs.map Cell.e)),.agg x.e] [.one (.sl 4 ((qbD xs x).map Cell.e))]:=by
 unfold qbD
 cases h:qcu xs x with
 | true=>
  rw[zp rfl]
  exact qAv ⟨qpS xs x true h hl,rfl,by simp;omega,by simp;omega,qae _ Cell.flat _,trivial⟩
 | false=>
  rw[zo (by simp)]
  have l:qan prog (qaa f223 0) (qe7 (xs.map Cell.e) x.op x.epoch x.key x.val 0) (Ex.exit 0) (qht (xs.map Cell.e) x.op x.epoch x.key x.val (qbV xs x)):=by
   have l:=qaS (P:=prog) (c:=(qaa f223 0)) xs (fun a=>!decide (qbc a x<0)) (fun i=>qe7 (xs.map Cell.e) x.op x.epoch x.key x.val i) (X:=fun i _=>qht (xs.map Cell.e) x.op x.epoch x.key x.val i) (qaf 0) (qaf 0)
    (fun i a ha h=>qAw ⟨lt1 (lt_of ha),lt0,lt2 (lt_of ha),qac Cell.e ha,qiP a x,by simpa using h,up1 (lt_of ha) hl,trivial⟩)
    (fun i a ha h=>qAx ⟨lt1 (lt_of ha),lt0,lt2 (lt_of ha),qac Cell.e ha,qiP a x,by simpa using h,trivial⟩)
    (qAy ⟨ge1,trivial⟩)
   unfold qbV
   rcases l with⟨_,h1,_,h2⟩ | ⟨i,a,_,_,_,h1,_,h2⟩
   ·rw[h1];exact h2
   ·rw[h1];exact h2
  have hp:=qk9 xs x
  generalize qbV xs x=p at*
  refine qzK (qAz ⟨qpS xs x false h hl,rfl,l,by simp,by simp,by simp;omega,by simp;omega,by simp;omega,?_,by simp;omega,by simp;omega,qau x.flat,by simp,by simp;omega,by simp,by simp;omega,by simp;omega,?_,trivial⟩) ?_
  ·simp only[zV,zae,Nat.sub_zero,zck,←zcr]
   exact qae _ Cell.flat _
  ·simp only[zV,zae,←zcr,←List.map_drop]
   exact qae _ Cell.flat _
  ·simp only[zV,zae,Nat.sub_zero,zck,List.nil_append,←zcr,←List.map_drop,zU,zav,zba]
   congr 1
   rw[zbk (by simp)]
   rfl
theorem qpV(xs:List Cell)(x:Cell)(hl:xs.length≤8388608):Rt 226 [.one (.sl 4 (xs.map Cell.e)),.agg x.e] [.one (.sl 4 ((qbD xs x).map Cell.e))]:=by
 have c:=qdY xs hl
 unfold qbD
 cases h:qcu xs x with
 | true=>
  rw[zp rfl]
  exact qzU ⟨c,qpU xs x true h hl,rfl,trivial⟩
 | false=>
  rw[zo (by simp)]
  have l:qan prog (qaa f226 0) (qe4 (xs.map Cell.e) x.op x.epoch x.key x.val (xs.map Cell.e) 0) (Ex.exit 0) (qhs x.op x.epoch x.key x.val (xs.map Cell.e) (qbV xs x)):=by
   have l:=qaS (P:=prog) (c:=(qaa f226 0)) xs (fun a=>!decide (qbc a x<0)) (fun i=>qe4 (xs.map Cell.e) x.op x.epoch x.key x.val (xs.map Cell.e) i) (X:=fun i _=>qhs x.op x.epoch x.key x.val (xs.map Cell.e) i) (qaf 0) (qaf 0)
    (fun i a ha h=>qzV ⟨lt1 (lt_of ha),lt0,lt2 (lt_of ha),qac Cell.e ha,qiO a x,by simpa using h,up1 (lt_of ha) hl,trivial⟩)
    (fun i a ha h=>qzW ⟨lt1 (lt_of ha),lt0,lt2 (lt_of ha),qac Cell.e ha,qiO a x,by simpa using h,trivial⟩)
    (qzX ⟨ge1,trivial⟩)
   unfold qbV
   rcases l with⟨_,h1,_,h2⟩ | ⟨i,a,_,_,_,h1,_,h2⟩
   ·rw[h1];exact h2
   ·rw[h1];exact h2
  exact qzY ⟨c,qpU xs x false h hl,rfl,l,qBc xs x (qbV xs x) (qk9 xs x) hl,trivial⟩
end Go.Proofs.YtdanpadojemjeaaGreat
namespace Go.Proofs.YtdanpadojemjeaaGreat
open Go.Sx Go.RowKit Go.Proofs.Tryz
def qaP(g:Graph)(op:Int):Option Node:=if 0≤op then g.nodes[op.toNat]? else none
theorem qiS{g:Graph}{a:Int}{w:Node}(h:qaP g a=some w):0≤a∧a<(↑(g.nodes.map Node.e).length:Int)∧(g.nodes.map Node.e)[a.toNat]?=some w.e∧inR a 0 (↑(g.nodes.map Node.e).length-1)=true:=by
 unfold qaP at h
 split at h
 ·have:=(zk.1 h).1
  refine⟨‹_›,by simp;omega,by simp[h],?_⟩
  simp only[inR,zb,zi];omega
 ·cases h
theorem qpW{g:Graph}{a:Int}(h:qaP g a=none):inR a 0 (↑(g.nodes.map Node.e).length-1)=false:=by
 unfold qaP at h
 simp only[inR,zb,zf]
 split at h
 ·rw[List.getElem?_eq_none_iff]at h;omega
 ·omega
theorem qla{g:Graph}{a:Int}{w:Node}(h:qaP g a=some w):w∈g.nodes:=by
 unfold qaP at h
 split at h
 ·exact zw h
 ·cases h
theorem Graph.nodes_le{g:Graph}(h:g.sz≤8388608):g.nodes.length≤8388608:=by simp only[Graph.sz,szS]at h;omega
theorem Graph.outs_le{g:Graph}(h:g.sz≤8388608){w:Node}(hw:w∈g.nodes):w.outs.length≤8388608:=by
 have:=qdj (sz:=Node.sz) hw
 simp only[Graph.sz,szS]at h
 have h5:w.outs.length≤w.sz:=by simp only[Node.sz];omega
 omega
theorem qiT{g:Graph}(h:g.sz≤8388608):inInt .i64 ((↑(g.nodes.map Node.e).length:Int)-1):=by
 have:=Graph.nodes_le h
 exact⟨by simp;omega,by simp;omega⟩
theorem qBf(g:Graph)(op:Int)(hg:g.sz≤8388608):Rt 200 [.agg g.e,.one (I op)] [.one (B (qaP g op).isSome)]:=by
 cases h:qaP g op with
 | none=>exact qpx ⟨qiT hg,qa2 _ _ _ _ (qpW h),trivial⟩
 | some w=>exact qpx ⟨qiT hg,qa2 _ _ _ _ (qiS h).2.2.2,trivial⟩
theorem qge(g:Graph)(op:Int)(r:Bool)(h:(qaP g op).isSome=r)(hg:g.sz≤8388608):Rt 200 [.agg g.e,.one (I op)] [.one (B r)]:=h▸qBf g op hg
def qdZ(g:Graph)(op:Int):Node×Bool:=match qaP g op with | some n=>(n,true) | none=>(⟨0,0,0,[]⟩,false)
theorem qBg(n:Int):∀d∈eI n,∃x,d=.v x:=by
 intro d hd
 simp only[eI,zL,zbu,or_false]at hd
 subst hd;exact⟨_,rfl⟩
theorem qBh(g:Graph)(op:Int)(hg:g.sz≤8388608):Rt 222 [.agg g.e,.one (I op)] [.agg (qdZ g op).1.e,.one (B (qdZ g op).2)]:=by
 unfold qdZ
 cases h:qaP g op with
 | none=>exact qAA ⟨qiT hg,qaM _ _ _ _ (qpW h),rfl,trivial⟩
 | some w=>
  obtain⟨h1,h2,h3,h4⟩:=qiS h
  have ho:=Graph.outs_le hg (qla h)
  exact qAB ⟨qiT hg,qaM _ _ _ _ h4,rfl,h1,h2,h3,by simp;omega,by simp;omega,qae _ qBg _,trivial⟩
theorem qiU(g:Graph)(op:Int)(r:Node×Bool)(h:qdZ g op=r)(hg:g.sz≤8388608):Rt 222 [.agg g.e,.one (I op)] [.agg r.1.e,.one (B r.2)]:=h▸qBh g op hg
end Go.Proofs.YtdanpadojemjeaaGreat
namespace Go.Proofs.YtdanpadojemjeaaGreat
open Go.Sx Go.RowKit Go.Sort Go.Proofs.Tryz
theorem qiQ(xs:List Record)(hl:xs.length≤8388608):Rt 195 [.one (.sl 5 (xs.map Record.e))] [.one (.sl 5 (xs.map Record.e))]:=
 qyi ⟨by simp;omega,by simp;omega,qae _ Record.flat _,trivial⟩
theorem Cluster.wlen_le{c:Cluster}(h:c.sz≤8388608):c.workers.length≤8388608:=by simp only[Cluster.sz,szS]at h;omega
theorem Cluster.llen_le{c:Cluster}(h:c.sz≤8388608):c.links.length≤8388608:=by simp only[Cluster.sz,szS]at h;omega
end Go.Proofs.YtdanpadojemjeaaGreat
namespace Go.Proofs.YtdanpadojemjeaaGreat
open Go.Sx Go.RowKit Go.Proofs.Tryz
def qbW(w:Worker)(e:Int):Bool:=w.dones.any fun d=>d.epoch==e
theorem Worker.dones_le{w:Worker}(h:w.sz≤8388608):w.dones.length≤8388608:=by simp only[Worker.sz]at h;omega
theorem Cluster.worker_sz{c:Cluster}(h:c.sz≤8388608){w:Worker}(hl:w∈c.workers):w.sz≤8388608:=by
 have:=qdj (sz:=Worker.sz) hl
 simp only[Cluster.sz,szS]at h;omega
theorem qCQ(w:Worker)(e:Int)(hw:w.sz≤8388608):Rt 114 [.agg w.e,.one (I e)] [.one (B (qbW w e))]:=by
 have hl:=Worker.dones_le hw
 have l:=qaS (P:=prog) (c:=(qaa f114 0)) w.dones (fun d=>d.epoch==e) (fun i=>qeX (w.queue.map Record.e) (w.staged.map Record.e) (w.inputs.map Record.e) (w.cells.map Cell.e) (w.sums.map eI) (w.black.map eB) (w.caps.map eB) (w.dones.map Done.e) e i) (X:=fun _ _=>qkW true) qaw (qaf 0)
  (fun i a ha h=>qzb ⟨lt1 (lt_of ha),lt0,lt2 (lt_of ha),qac Done.e ha,h,up1 (lt_of ha) hl,trivial⟩)
  (fun i a ha h=>qza ⟨lt1 (lt_of ha),lt0,lt2 (lt_of ha),qac Done.e ha,h,trivial⟩)
  (qzc ⟨ge1,trivial⟩)
 unfold qbW
 rcases l with⟨_,_,h1,h2⟩ | ⟨i,a,_,_,_,_,h1,h2⟩
 ·rw[h1];exact qze ⟨h2,trivial⟩
 ·rw[h1];exact qzd ⟨h2,trivial⟩
theorem qp6(xs:List Done)(e:Int)(hl:xs.length≤8388608):Rt 126 [.one (.sl 2 (xs.map Done.e)),.one (I e)] [.one (B (xs.any fun d=>d.epoch==e))]:=
 qzf ⟨qCL xs (fun d=>d.epoch==e) _ _ hl (by kernel_rfl) (fun x _=>qzg trivial),trivial⟩
theorem qCR(w:Worker)(e:Int)(hw:w.sz≤8388608):Rt 66 [.agg w.e,.one (I e)] [.one (B (qbW w e))]:=
 qzh ⟨qp6 w.dones e (Worker.dones_le hw),trivial⟩
theorem qlf(w:Worker)(e:Int)(r:Bool)(h:qbW w e=r)(hw:w.sz≤8388608):Rt 114 [.agg w.e,.one (I e)] [.one (B r)]:=h▸qCQ w e hw
theorem len0{α:Type}{f:α→List D}(xs:List α)(b:Bool)(h:decide (xs.length=0)=b):((↑(xs.map f).length:Int)==0)=b:=by
 subst h
 by_cases h:xs.length=0
 ·simp[h]
 ·rw[show decide (xs.length=0)=false from dF h]
  simp only[zb,zbq,zcc]
  omega
end Go.Proofs.YtdanpadojemjeaaGreat
namespace Go.Proofs.YtdanpadojemjeaaGreat
open Go.Sx Go.RowKit Go.Proofs.Tryz
theorem Cluster.link_wf{c:Cluster}(h:c.wf){l:Link}(hl:l∈c.links):l.wf:=h.links_ok.2 l hl
theorem Cluster.link_sz{c:Cluster}(h:c.sz≤8388608){l:Link}(hl:l∈c.links):l.sz≤8388608:=by
 have:=qcs (sz:=Link.sz) (xs:=c.links) (m:=8388608) (by simp only[Cluster.sz]at h;omega) hl
 exact this
theorem wlen{α:Type}{f:Int→α}{xs:List Int}(h:xs.length≤8388608):IntKind.i64.wrap ((↑(xs.map f).length:Int)-1)=(xs.length:Int)-1:=by
 rw[zb]
 exact inInt.wrap ⟨by omega,by omega⟩
def qc1(key workers:Int):Int:=if workers<1 then 0 else if key.tmod workers<0 then key.tmod workers+workers else key.tmod workers
theorem qlt(a b:Int)(h:0<b):- b<a.tmod b:=by
 rcases Int.le_total 0 a with ha | ha
 ·have:=Int.tmod_nonneg b ha;omega
 ·have h1:(-a).tmod b<b:=Int.tmod_lt_of_pos _ h
  rw[Int.neg_tmod]at h1
  omega
theorem qFv(key workers:Int)(hw:workers≤9223372036854775807):Rt 212 [.one (I key),.one (I workers)] [.one (I (qc1 key workers))]:=by
 unfold qc1
 split
 ·exact qCS ⟨by simpa using ‹workers<1›,trivial⟩
 ·rename_i h
  have h1:=qlt key workers (by omega)
  have h2:key.tmod workers<workers:=Int.tmod_lt_of_pos _ (by omega)
  split
  ·rename_i h3
   exact qCT ⟨by simp only[zf];omega,by omega,by simpa using h3,⟨by omega,by omega⟩,trivial⟩
  ·rename_i h3
   exact qCU ⟨by simp only[zf];omega,by omega,by simpa using h3,trivial⟩
theorem qFw(key workers:Int)(hw:workers≤9223372036854775807):Rt 153 [.one (I key),.one (I workers)] [.one (I (qc1 key workers))]:=by
 unfold qc1
 split
 ·exact qCV ⟨by simpa using ‹workers<1›,trivial⟩
 ·rename_i h
  have h1:=qlt key workers (by omega)
  have h2:key.tmod workers<workers:=Int.tmod_lt_of_pos _ (by omega)
  split
  ·rename_i h3
   exact qCW ⟨by simp only[zf];omega,by omega,by simpa using h3,⟨by omega,by omega⟩,trivial⟩
  ·rename_i h3
   exact qCX ⟨by simp only[zf];omega,by omega,by simpa using h3,trivial⟩
theorem Worker.queue_le{w:Worker}(h:w.sz≤8388608):w.queue.length≤8388608:=by simp only[Worker.sz]at h;omega
theorem Worker.inputs_le{w:Worker}(h:w.sz≤8388608):w.inputs.length≤8388608:=by simp only[Worker.sz]at h;omega
end Go.Proofs.YtdanpadojemjeaaGreat
