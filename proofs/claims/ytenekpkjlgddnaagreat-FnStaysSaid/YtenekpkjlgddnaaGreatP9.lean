/- PutCell, CellsIn, OutsOnly, OutCells: what program and reference compute. -/
import Derived.Test.YtenekpkjlgddnaaGreatC0
import Derived.Test.YtenekpkjlgddnaaGreatQ1
import Derived.Test.YtenekpkjlgddnaaGreatC6
import Derived.Test.YtenekpkjlgddnaaGreatGU
set_option linter.unusedVariables false
set_option linter.unusedSimpArgs false
namespace Go.Proofs.YtenekpkjlgddnaaGreat
open Go.Sx Go.RowKit Go.Proofs.Tryz
def qcY(xs:List Cell)(x:Cell):Bool:=xs.any fun a=>decide (a=x)
def qdE(xs:List Cell)(x:Cell):Nat:=(xs.findIdx? fun a=>!decide (qeQ a x<0)).getD xs.length
def qca(xs:List Cell)(x:Cell):List Cell:=if qcY xs x then xs else xs.take (qdE xs x)++x::xs.drop (qdE xs x)
theorem qkO(xs:List Cell)(x:Cell):qdE xs x≤xs.length:=by
 unfold qdE
 cases h:xs.findIdx? (fun a=>!decide (qeQ a x<0)) with
 | none=>simp
 | some i=>
  rw[zai]at h
  have:=h.1
  simp
  omega
theorem qkP(xs:List Cell)(x:Cell):(qca xs x).length≤xs.length+1:=by
 unfold qca
 split
 ·omega
 ·have:=qkO xs x
  simp
  omega
def idxC(xs:List Cell)(x:Cell):Int:=match xs.findIdx? (fun a=>decide (a=x)) with | some i=>i | none=>-1
theorem qpM(xs:List Cell)(x:Cell):decide (idxC xs x≥0)=qcY xs x:=by
 unfold idxC qcY
 cases h:xs.findIdx? (fun a=>decide (a=x)) with
 | none=>
  have:xs.any (fun a=>decide (a=x))=false:=by
   rw[zP]
   rw[zbs]at h
   exact fun a ha=>by simpa using h a ha
  rw[this];rfl
 | some i=>
  rw[zai]at h
  obtain⟨hi,h2,_⟩:=h
  have:xs.any (fun a=>decide (a=x))=true:=zcj.2 ⟨_,zax hi,h2⟩
  rw[this];simp
theorem qpN(xs:List Cell)(x:Cell)(hl:xs.length≤8388608):Rt 103 [.one (.sl 4 (xs.map Cell.e)),.agg x.e] [.one (I (idxC xs x))]:=by
 have l:=qa7 (P:=prog) (c:=(qab f103 0)) xs (fun a=>decide (a=x)) (fun i=>qdC (xs.map Cell.e) x.op x.epoch x.key x.val i) (X:=fun i _=>qhS i) qaE (qaj 0)
  (fun i a ha h=>qo7 ⟨lt1 (lt_of ha),lt0,lt2 (lt_of ha),qad Cell.e ha,(qkz a x).trans h,up1 (lt_of ha) hl,trivial⟩)
  (fun i a ha h=>qo6 ⟨lt1 (lt_of ha),lt0,lt2 (lt_of ha),qad Cell.e ha,(qkz a x).trans h,trivial⟩)
  (qo8 ⟨ge1,trivial⟩)
 unfold idxC
 rcases l with⟨_,h1,_,h2⟩ | ⟨i,a,_,_,_,h1,_,h2⟩
 ·simp only[h1];exact qpa ⟨h2,trivial⟩
 ·simp only[h1];exact qo9 ⟨h2,trivial⟩
theorem qkQ(xs:List Cell)(x:Cell)(hl:xs.length≤8388608):Rt 89 [.one (.sl 4 (xs.map Cell.e)),.agg x.e] [.one (B (qcY xs x))]:=by
 rw[←qpM]
 exact qo3 ⟨qo5 ⟨qpN xs x hl,trivial⟩,trivial⟩
theorem qkR(xs:List Cell)(x:Cell)(r:Bool)(h:qcY xs x=r)(hl:xs.length≤8388608):Rt 89 [.one (.sl 4 (xs.map Cell.e)),.agg x.e] [.one (B r)]:=h▸qkQ xs x hl
theorem qcZ(xs:List Cell)(hl:xs.length≤8388608):Rt 71 [.one (.sl 4 (xs.map Cell.e))] [.one (.sl 4 (xs.map Cell.e))]:=
 qo2 ⟨by simp;omega,by simp;omega,qaM _ Cell.flat _,trivial⟩
theorem qkS(xs:List Cell)(x:Cell)(hl:xs.length≤8388608):Rt 88 [.one (.sl 4 (xs.map Cell.e)),.agg x.e] [.one (.sl 4 ((qca xs x).map Cell.e))]:=by
 have c:=qcZ xs hl
 unfold qca
 cases h:qcY xs x with
 | true=>
  rw[zp rfl]
  exact qpb ⟨c,qkR xs x true h hl,rfl,trivial⟩
 | false=>
  rw[zo (by simp)]
  have l:qai prog (qab f88 0) (qdD (xs.map Cell.e) x.op x.epoch x.key x.val (xs.map Cell.e) 0) (Ex.exit 0) (qeP x.op x.epoch x.key x.val (xs.map Cell.e) (qdE xs x)):=by
   have l:=qa7 (P:=prog) (c:=(qab f88 0)) xs (fun a=>!decide (qeQ a x<0)) (fun i=>qdD (xs.map Cell.e) x.op x.epoch x.key x.val (xs.map Cell.e) i) (X:=fun i _=>qeP x.op x.epoch x.key x.val (xs.map Cell.e) i) (qaj 0) (qaj 0)
    (fun i a ha h=>qpc ⟨lt1 (lt_of ha),lt0,lt2 (lt_of ha),qad Cell.e ha,qfX a x,by simpa using h,up1 (lt_of ha) hl,trivial⟩)
    (fun i a ha h=>qpd ⟨lt1 (lt_of ha),lt0,lt2 (lt_of ha),qad Cell.e ha,qfX a x,by simpa using h,trivial⟩)
    (qpe ⟨ge1,trivial⟩)
   unfold qdE
   rcases l with⟨_,h1,_,h2⟩ | ⟨i,a,_,_,_,h1,_,h2⟩
   ·rw[h1];exact h2
   ·rw[h1];exact h2
  exact qpf ⟨c,qkR xs x false h hl,rfl,l,qpL xs x (qdE xs x) (qkO xs x) hl,trivial⟩
end Go.Proofs.YtenekpkjlgddnaaGreat
namespace Go.Proofs.YtenekpkjlgddnaaGreat
open Go.Sx Go.RowKit Go.Proofs.Tryz
def qaU(g:Graph)(op:Int):Option Node:=if 0≤op then g.nodes[op.toNat]? else none
theorem qkT{g:Graph}{a:Int}{w:Node}(h:qaU g a=some w):0≤a∧a<(↑(g.nodes.map Node.e).length:Int)∧(g.nodes.map Node.e)[a.toNat]?=some w.e∧inR a 0 (↑(g.nodes.map Node.e).length-1)=true:=by
 unfold qaU at h
 split at h
 ·have:=(zk.1 h).1
  refine⟨‹_›,by simp;omega,by simp[h],?_⟩
  simp only[inR,zb,zi];omega
 ·cases h
theorem qpO{g:Graph}{a:Int}(h:qaU g a=none):inR a 0 (↑(g.nodes.map Node.e).length-1)=false:=by
 unfold qaU at h
 simp only[inR,zb,zf]
 split at h
 ·rw[List.getElem?_eq_none_iff]at h;omega
 ·omega
theorem qpP{g:Graph}{a:Int}{w:Node}(h:qaU g a=some w):w∈g.nodes:=by
 unfold qaU at h
 split at h
 ·exact zw h
 ·cases h
theorem Graph.nodes_le{g:Graph}(h:g.sz≤8388608):g.nodes.length≤8388608:=by simp only[Graph.sz,szS]at h;omega
theorem Graph.outs_le{g:Graph}(h:g.sz≤8388608){w:Node}(hw:w∈g.nodes):w.outs.length≤8388608:=by
 have:=qfO (sz:=Node.sz) hw
 simp only[Graph.sz,szS]at h
 have h5:w.outs.length≤w.sz:=by simp only[Node.sz];omega
 omega
theorem qkU{g:Graph}(h:g.sz≤8388608):inInt .i64 ((↑(g.nodes.map Node.e).length:Int)-1):=by
 have:=Graph.nodes_le h
 exact⟨by simp;omega,by simp;omega⟩
theorem qpQ(g:Graph)(op:Int)(hg:g.sz≤8388608):Rt 74 [.agg g.e,.one (I op)] [.one (B (qaU g op).isSome)]:=by
 cases h:qaU g op with
 | none=>exact qkD ⟨qkU hg,qay _ _ _ _ (qpO h),trivial⟩
 | some w=>exact qkD ⟨qkU hg,qay _ _ _ _ (qkT h).2.2.2,trivial⟩
theorem qea(g:Graph)(op:Int)(r:Bool)(h:(qaU g op).isSome=r)(hg:g.sz≤8388608):Rt 74 [.agg g.e,.one (I op)] [.one (B r)]:=h▸qpQ g op hg
end Go.Proofs.YtenekpkjlgddnaaGreat
namespace Go.Proofs.YtenekpkjlgddnaaGreat
open Go.Sx Go.RowKit Go.Sort Go.Proofs.Tryz
theorem qfZ(xs:List Record)(hl:xs.length≤8388608):Rt 70 [.one (.sl 5 (xs.map Record.e))] [.one (.sl 5 (xs.map Record.e))]:=
 qoe ⟨by simp;omega,by simp;omega,qaM _ Record.flat _,trivial⟩
theorem Cluster.wlen_le{c:Cluster}(h:c.sz≤8388608):c.workers.length≤8388608:=by simp only[Cluster.sz,szS]at h;omega
theorem Cluster.llen_le{c:Cluster}(h:c.sz≤8388608):c.links.length≤8388608:=by simp only[Cluster.sz,szS]at h;omega
end Go.Proofs.YtenekpkjlgddnaaGreat
namespace Go.Proofs.YtenekpkjlgddnaaGreat
open Go.Sx Go.RowKit Go.Proofs.Tryz
def qdI(w:Worker)(e:Int):Bool:=w.dones.any fun d=>d.epoch==e
theorem Worker.dones_le{w:Worker}(h:w.sz≤8388608):w.dones.length≤8388608:=by simp only[Worker.sz]at h;omega
theorem Cluster.worker_sz{c:Cluster}(h:c.sz≤8388608){w:Worker}(hl:w∈c.workers):w.sz≤8388608:=by
 have:=qfO (sz:=Worker.sz) hl
 simp only[Cluster.sz,szS]at h;omega
theorem qk9(xs:List Done)(e:Int)(hl:xs.length≤8388608):Rt 66 [.one (.sl 2 (xs.map Done.e)),.one (I e)] [.one (B (xs.any fun d=>d.epoch==e))]:=
 qoB ⟨qtD xs (fun d=>d.epoch==e) _ _ hl (by kernel_rfl) (fun x _=>qoC trivial),trivial⟩
theorem qtG(w:Worker)(e:Int)(hw:w.sz≤8388608):Rt 49 [.agg w.e,.one (I e)] [.one (B (qdI w e))]:=
 qoD ⟨qk9 w.dones e (Worker.dones_le hw),trivial⟩
theorem len0{α:Type}{f:α→List D}(xs:List α)(b:Bool)(h:decide (xs.length=0)=b):((↑(xs.map f).length:Int)==0)=b:=by
 subst h
 by_cases h:xs.length=0
 ·simp[h]
 ·rw[show decide (xs.length=0)=false from dF h]
  simp only[zb,zbq,zcc]
  omega
end Go.Proofs.YtenekpkjlgddnaaGreat
namespace Go.Proofs.YtenekpkjlgddnaaGreat
open Go.Sx Go.RowKit Go.Proofs.Tryz
theorem Cluster.link_wf{c:Cluster}(h:c.wf){l:Link}(hl:l∈c.links):l.wf:=h.links_ok.2 l hl
theorem Cluster.link_sz{c:Cluster}(h:c.sz≤8388608){l:Link}(hl:l∈c.links):l.sz≤8388608:=by
 have:=qfR (sz:=Link.sz) (xs:=c.links) (m:=8388608) (by simp only[Cluster.sz]at h;omega) hl
 exact this
theorem wlen{α:Type}{f:Int→α}{xs:List Int}(h:xs.length≤8388608):IntKind.i64.wrap ((↑(xs.map f).length:Int)-1)=(xs.length:Int)-1:=by
 rw[zb]
 exact inInt.wrap ⟨by omega,by omega⟩
def qbk(key workers:Int):Int:=if workers<1 then 0 else if key.tmod workers<0 then key.tmod workers+workers else key.tmod workers
theorem qh9(a b:Int)(h:0<b):- b<a.tmod b:=by
 rcases Int.le_total 0 a with ha | ha
 ·have:=Int.tmod_nonneg b ha;omega
 ·have h1:(-a).tmod b<b:=Int.tmod_lt_of_pos _ h
  rw[Int.neg_tmod]at h1
  omega
theorem qu4(key workers:Int)(hw:workers≤9223372036854775807):Rt 33 [.one (I key),.one (I workers)] [.one (I (qbk key workers))]:=by
 unfold qbk
 split
 ·exact qtH ⟨by simpa using ‹workers<1›,trivial⟩
 ·rename_i h
  have h1:=qh9 key workers (by omega)
  have h2:key.tmod workers<workers:=Int.tmod_lt_of_pos _ (by omega)
  split
  ·rename_i h3
   exact qtI ⟨by simp only[zf];omega,by omega,by simpa using h3,⟨by omega,by omega⟩,trivial⟩
  ·rename_i h3
   exact qtJ ⟨by simp only[zf];omega,by omega,by simpa using h3,trivial⟩
theorem qu5(key workers:Int)(hw:workers≤9223372036854775807):Rt 38 [.one (I key),.one (I workers)] [.one (I (qbk key workers))]:=by
 unfold qbk
 split
 ·exact qtK ⟨by simpa using ‹workers<1›,trivial⟩
 ·rename_i h
  have h1:=qh9 key workers (by omega)
  have h2:key.tmod workers<workers:=Int.tmod_lt_of_pos _ (by omega)
  split
  ·rename_i h3
   exact qtL ⟨by simp only[zf];omega,by omega,by simpa using h3,⟨by omega,by omega⟩,trivial⟩
  ·rename_i h3
   exact qtM ⟨by simp only[zf];omega,by omega,by simpa using h3,trivial⟩
theorem Worker.queue_le{w:Worker}(h:w.sz≤8388608):w.queue.length≤8388608:=by simp only[Worker.sz]at h;omega
theorem Worker.inputs_le{w:Worker}(h:w.sz≤8388608):w.inputs.length≤8388608:=by simp only[Worker.sz]at h;omega
end Go.Proofs.YtenekpkjlgddnaaGreat
