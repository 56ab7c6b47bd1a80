/- PutCell, CellsIn, OutsOnly, OutCells: what program and reference compute. -/
import Derived.Test.YtenekpkjlgddnaaC0
import Derived.Test.YtenekpkjlgddnaaQ2
set_option linter.unusedVariables false
set_option linter.unusedSimpArgs false
namespace Go.Proofs.Ytenekpkjlgddnaa
open Go.Sx Go.RowKit Go.Proofs.Try
def qbo(xs:List Cell)(x:Cell):Bool:=xs.any fun a=>decide (a=x)
def qcv(xs:List Cell)(x:Cell):Nat:=(xs.findIdx? fun a=>!decide (qej a x<0)).getD xs.length
def qaW(xs:List Cell)(x:Cell):List Cell:=if qbo xs x then xs else xs.take (qcv xs x)++x::xs.drop (qcv xs x)
theorem qih(xs:List Cell)(x:Cell):qcv xs x≤xs.length:=by
 unfold qcv
 cases h:xs.findIdx? (fun a=>!decide (qej a x<0)) with
 | none=>simp
 | some i=>
  rw[zai]at h
  have:=h.1
  simp
  omega
theorem qii(xs:List Cell)(x:Cell):(qaW xs x).length≤xs.length+1:=by
 unfold qaW
 split
 ·omega
 ·have:=qih xs x
  simp
  omega
def idxC(xs:List Cell)(x:Cell):Int:=match xs.findIdx? (fun a=>decide (a=x)) with | some i=>i | none=>-1
theorem qlr(xs:List Cell)(x:Cell):decide (idxC xs x≥0)=qbo xs x:=by
 unfold idxC qbo
 cases h:xs.findIdx? (fun a=>decide (a=x)) with
 | none=>
  have:xs.any (fun a=>decide (a=x))=false:=by
   rw[zP]
   rw[zbs]at h
   exact fun a ha=>by simpa using h a ha
  rw[this];rfl
 | some i=>
  rw[zai]at h
  obtain⟨hi,h2,_⟩:=h
  have:xs.any (fun a=>decide (a=x))=true:=zcj.2 ⟨_,zax hi,h2⟩
  rw[this];simp
theorem qls(xs:List Cell)(x:Cell)(hl:xs.length≤8388608):Rt 111 [.one (.sl 4 (xs.map Cell.e)),.agg x.e] [.one (I (idxC xs x))]:=by
 have l:=qcU (P:=prog) (c:=(qab f111 0)) xs (fun a=>decide (a=x)) (fun i=>qct (xs.map Cell.e) x.op x.epoch x.key x.val i) (X:=fun i _=>qf0 i) qcT (qaF 0)
  (fun i a ha h=>qkK ⟨lt1 (lt_of ha),lt0,lt2 (lt_of ha),qaB Cell.e ha,(qh5 a x).trans h,up1 (lt_of ha) hl,trivial⟩)
  (fun i a ha h=>qkJ ⟨lt1 (lt_of ha),lt0,lt2 (lt_of ha),qaB Cell.e ha,(qh5 a x).trans h,trivial⟩)
  (qkL ⟨ge1,trivial⟩)
 unfold idxC
 rcases l with⟨_,h1,_,h2⟩ | ⟨i,a,_,_,_,h1,_,h2⟩
 ·simp only[h1];exact qkN ⟨h2,trivial⟩
 ·simp only[h1];exact qkM ⟨h2,trivial⟩
theorem qij(xs:List Cell)(x:Cell)(hl:xs.length≤8388608):Rt 69 [.one (.sl 4 (xs.map Cell.e)),.agg x.e] [.one (B (qbo xs x))]:=by
 rw[←qlr]
 exact qkG ⟨qkI ⟨qls xs x hl,trivial⟩,trivial⟩
theorem qik(xs:List Cell)(x:Cell)(r:Bool)(h:qbo xs x=r)(hl:xs.length≤8388608):Rt 69 [.one (.sl 4 (xs.map Cell.e)),.agg x.e] [.one (B r)]:=h▸qij xs x hl
theorem qcw(xs:List Cell)(hl:xs.length≤8388608):Rt 44 [.one (.sl 4 (xs.map Cell.e))] [.one (.sl 4 (xs.map Cell.e))]:=
 qkF ⟨by simp;omega,by simp;omega,qaM _ Cell.flat _,trivial⟩
theorem qil(xs:List Cell)(x:Cell)(hl:xs.length≤8388608):Rt 68 [.one (.sl 4 (xs.map Cell.e)),.agg x.e] [.one (.sl 4 ((qaW xs x).map Cell.e))]:=by
 have c:=qcw xs hl
 unfold qaW
 cases h:qbo xs x with
 | true=>
  rw[zp rfl]
  exact qkO ⟨c,qik xs x true h hl,rfl,trivial⟩
 | false=>
  rw[zo (by simp)]
  have l:qam prog (qab f68 0) (qcu (xs.map Cell.e) x.op x.epoch x.key x.val (xs.map Cell.e) 0) (Ex.exit 0) (qdo x.op x.epoch x.key x.val (xs.map Cell.e) (qcv xs x)):=by
   have l:=qcU (P:=prog) (c:=(qab f68 0)) xs (fun a=>!decide (qej a x<0)) (fun i=>qcu (xs.map Cell.e) x.op x.epoch x.key x.val (xs.map Cell.e) i) (X:=fun i _=>qdo x.op x.epoch x.key x.val (xs.map Cell.e) i) (qaF 0) (qaF 0)
    (fun i a ha h=>qkP ⟨lt1 (lt_of ha),lt0,lt2 (lt_of ha),qaB Cell.e ha,qic a x,by simpa using h,up1 (lt_of ha) hl,trivial⟩)
    (fun i a ha h=>qkQ ⟨lt1 (lt_of ha),lt0,lt2 (lt_of ha),qaB Cell.e ha,qic a x,by simpa using h,trivial⟩)
    (qkR ⟨ge1,trivial⟩)
   unfold qcv
   rcases l with⟨_,h1,_,h2⟩ | ⟨i,a,_,_,_,h1,_,h2⟩
   ·rw[h1];exact h2
   ·rw[h1];exact h2
  exact qkS ⟨c,qik xs x false h hl,rfl,l,qlq xs x (qcv xs x) (qih xs x) hl,trivial⟩
end Go.Proofs.Ytenekpkjlgddnaa
namespace Go.Proofs.Ytenekpkjlgddnaa
open Go.Sx Go.RowKit Go.Proofs.Try
def qas(g:Graph)(op:Int):Option Node:=if 0≤op then g.nodes[op.toNat]? else none
theorem qim{g:Graph}{a:Int}{w:Node}(h:qas g a=some w):0≤a∧a<(↑(g.nodes.map Node.e).length:Int)∧(g.nodes.map Node.e)[a.toNat]?=some w.e∧inR a 0 (↑(g.nodes.map Node.e).length-1)=true:=by
 unfold qas at h
 split at h
 ·have:=(zk.1 h).1
  refine⟨‹_›,by simp;omega,by simp[h],?_⟩
  simp only[inR,zb,zi];omega
 ·cases h
theorem qlt{g:Graph}{a:Int}(h:qas g a=none):inR a 0 (↑(g.nodes.map Node.e).length-1)=false:=by
 unfold qas at h
 simp only[inR,zb,zf]
 split at h
 ·rw[List.getElem?_eq_none_iff]at h;omega
 ·omega
theorem qlu{g:Graph}{a:Int}{w:Node}(h:qas g a=some w):w∈g.nodes:=by
 unfold qas at h
 split at h
 ·exact zw h
 ·cases h
theorem Graph.nodes_le{g:Graph}(h:g.sz≤8388608):g.nodes.length≤8388608:=by simp only[Graph.sz,szS]at h;omega
theorem Graph.outs_le{g:Graph}(h:g.sz≤8388608){w:Node}(hw:w∈g.nodes):w.outs.length≤8388608:=by
 have:=qhH (sz:=Node.sz) hw
 simp only[Graph.sz,szS]at h
 have h5:w.outs.length≤w.sz:=by simp only[Node.sz];omega
 omega
theorem qin{g:Graph}(h:g.sz≤8388608):inInt .i64 ((↑(g.nodes.map Node.e).length:Int)-1):=by
 have:=Graph.nodes_le h
 exact⟨by simp;omega,by simp;omega⟩
theorem qlv(g:Graph)(op:Int)(hg:g.sz≤8388608):Rt 42 [.agg g.e,.one (I op)] [.one (B (qas g op).isSome)]:=by
 cases h:qas g op with
 | none=>exact qh7 ⟨qin hg,qh4 _ _ _ _ (qlt h),trivial⟩
 | some w=>exact qh7 ⟨qin hg,qh4 _ _ _ _ (qim h).2.2.2,trivial⟩
theorem qel(g:Graph)(op:Int)(r:Bool)(h:(qas g op).isSome=r)(hg:g.sz≤8388608):Rt 42 [.agg g.e,.one (I op)] [.one (B r)]:=h▸qlv g op hg
end Go.Proofs.Ytenekpkjlgddnaa
