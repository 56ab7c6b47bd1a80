/- PutCell, CellsIn, OutsOnly, OutCells: what program and reference compute. -/
import Derived.Test.YtdanpadojemjeaaGreatC0
import Derived.Test.YtdanpadojemjeaaGreatQ2
set_option linter.unusedVariables false
set_option linter.unusedSimpArgs false
namespace Go.Proofs.YtdanpadojemjeaaGreat
open Go.Sx Go.RowKit Go.Proofs.Tryz
def qcm(xs:List Cell)(x:Cell):Bool:=xs.any fun a=>decide (a=x)
def qbR(xs:List Cell)(x:Cell):Nat:=(xs.findIdx? fun a=>!decide (qa9 a x<0)).getD xs.length
def qbv(xs:List Cell)(x:Cell):List Cell:=if qcm xs x then xs else xs.take (qbR xs x)++x::xs.drop (qbR xs x)
theorem qki(xs:List Cell)(x:Cell):qbR xs x≤xs.length:=by
 unfold qbR
 cases h:xs.findIdx? (fun a=>!decide (qa9 a x<0)) with
 | none=>simp
 | some i=>
  rw[zad]at h
  have:=h.1
  simp
  omega
theorem qom(xs:List Cell)(x:Cell):(qbv xs x).length≤xs.length+1:=by
 unfold qbv
 split
 ·omega
 ·have:=qki xs x
  simp
  omega
theorem qon(xs:List Cell)(x:Cell)(hl:xs.length≤8388608):Rt 242 [.one (.sl 4 (xs.map Cell.e)),.agg x.e] [.one (B (qcm xs x))]:=by
 have l:=qaT (P:=prog) (c:=(qaa f242 0)) xs (fun a=>decide (a=x)) (fun i=>qeL (xs.map Cell.e) x.op x.epoch x.key x.val i) (X:=fun _ _=>qkc true) qav (qaf 0)
  (fun i a ha h=>qxR ⟨lt1 (lt_of ha),lt0,lt2 (lt_of ha),qac Cell.e ha,(qkd a x).trans h,up1 (lt_of ha) hl,trivial⟩)
  (fun i a ha h=>qxQ ⟨lt1 (lt_of ha),lt0,lt2 (lt_of ha),qac Cell.e ha,(qkd a x).trans h,trivial⟩)
  (qxS ⟨ge1,trivial⟩)
 unfold qcm
 rcases l with⟨_,_,h1,h2⟩ | ⟨i,a,_,_,_,_,h1,h2⟩
 ·rw[h1];exact qxU ⟨h2,trivial⟩
 ·rw[h1];exact qxT ⟨h2,trivial⟩
theorem qoo(xs:List Cell)(x:Cell)(r:Bool)(h:qcm xs x=r)(hl:xs.length≤8388608):Rt 242 [.one (.sl 4 (xs.map Cell.e)),.agg x.e] [.one (B r)]:=h▸qon xs x hl
def idxC(xs:List Cell)(x:Cell):Int:=match xs.findIdx? (fun a=>decide (a=x)) with | some i=>i | none=>-1
theorem qyO(xs:List Cell)(x:Cell):decide (idxC xs x≥0)=qcm xs x:=by
 unfold idxC qcm
 cases h:xs.findIdx? (fun a=>decide (a=x)) with
 | none=>
  have:xs.any (fun a=>decide (a=x))=false:=by
   rw[zO]
   rw[zbr]at h
   exact fun a ha=>by simpa using h a ha
  rw[this];rfl
 | some i=>
  rw[zad]at h
  obtain⟨hi,h2,_⟩:=h
  have:xs.any (fun a=>decide (a=x))=true:=zci.2 ⟨_,zat hi,h2⟩
  rw[this];simp
theorem qyP(xs:List Cell)(x:Cell)(hl:xs.length≤8388608):Rt 259 [.one (.sl 4 (xs.map Cell.e)),.agg x.e] [.one (I (idxC xs x))]:=by
 have l:=qaT (P:=prog) (c:=(qaa f259 0)) xs (fun a=>decide (a=x)) (fun i=>qeI (xs.map Cell.e) x.op x.epoch x.key x.val i) (X:=fun i _=>qj9 i) qav (qaf 0)
  (fun i a ha h=>qxg ⟨lt1 (lt_of ha),lt0,lt2 (lt_of ha),qac Cell.e ha,(qn5 a x).trans h,up1 (lt_of ha) hl,trivial⟩)
  (fun i a ha h=>qxf ⟨lt1 (lt_of ha),lt0,lt2 (lt_of ha),qac Cell.e ha,(qn5 a x).trans h,trivial⟩)
  (qxh ⟨ge1,trivial⟩)
 unfold idxC
 rcases l with⟨_,h1,_,h2⟩ | ⟨i,a,_,_,_,h1,_,h2⟩
 ·simp only[h1];exact qxj ⟨h2,trivial⟩
 ·simp only[h1];exact qxi ⟨h2,trivial⟩
theorem qop(xs:List Cell)(x:Cell)(hl:xs.length≤8388608):Rt 244 [.one (.sl 4 (xs.map Cell.e)),.agg x.e] [.one (B (qcm xs x))]:=by
 rw[←qyO]
 exact qxc ⟨qxe ⟨qyP xs x hl,trivial⟩,trivial⟩
theorem qoq(xs:List Cell)(x:Cell)(r:Bool)(h:qcm xs x=r)(hl:xs.length≤8388608):Rt 244 [.one (.sl 4 (xs.map Cell.e)),.agg x.e] [.one (B r)]:=h▸qop xs x hl
theorem qdI(xs:List Cell)(hl:xs.length≤8388608):Rt 196 [.one (.sl 4 (xs.map Cell.e))] [.one (.sl 4 (xs.map Cell.e))]:=
 qxb ⟨by simp;omega,by simp;omega,qae _ Cell.flat _,trivial⟩
theorem qgK(xs:List Cell)(x:Cell)(hl:xs.length≤8388608):Rt 223 [.one (.sl 4 (xs.map Cell.e)),.agg x.e] [.one (.sl 4 ((qbv xs x).map Cell.e))]:=by
 unfold qbv
 cases h:qcm xs x with
 | true=>
  rw[zq rfl]
  exact qxV ⟨qoo xs x true h hl,rfl,by simp;omega,by simp;omega,qae _ Cell.flat _,trivial⟩
 | false=>
  rw[zo (by simp)]
  have l:qam prog (qaa f223 0) (qeM (xs.map Cell.e) x.op x.epoch x.key x.val 0) (Ex.exit 0) (qgI (xs.map Cell.e) x.op x.epoch x.key x.val (qbR xs x)):=by
   have l:=qaT (P:=prog) (c:=(qaa f223 0)) xs (fun a=>!decide (qa9 a x<0)) (fun i=>qeM (xs.map Cell.e) x.op x.epoch x.key x.val i) (X:=fun i _=>qgI (xs.map Cell.e) x.op x.epoch x.key x.val i) (qaf 0) (qaf 0)
    (fun i a ha h=>qxW ⟨lt1 (lt_of ha),lt0,lt2 (lt_of ha),qac Cell.e ha,qhY a x,by simpa using h,up1 (lt_of ha) hl,trivial⟩)
    (fun i a ha h=>qxX ⟨lt1 (lt_of ha),lt0,lt2 (lt_of ha),qac Cell.e ha,qhY a x,by simpa using h,trivial⟩)
    (qxY ⟨ge1,trivial⟩)
   unfold qbR
   rcases l with⟨_,h1,_,h2⟩ | ⟨i,a,_,_,_,h1,_,h2⟩
   ·rw[h1];exact h2
   ·rw[h1];exact h2
  have hp:=qki xs x
  generalize qbR xs x=p at*
  refine qyr (qxZ ⟨qoo xs x false h hl,rfl,l,by simp,by simp,by simp;omega,by simp;omega,by simp;omega,?_,by simp;omega,by simp;omega,qas x.flat,by simp,by simp;omega,by simp,by simp;omega,by simp;omega,?_,trivial⟩) ?_
  ·simp only[zU,zbb,Nat.sub_zero,zcj,←zcn]
   exact qae _ Cell.flat _
  ·simp only[zU,zbb,←zcn,←List.map_drop]
   exact qae _ Cell.flat _
  ·simp only[zU,zbb,Nat.sub_zero,zcj,List.nil_append,←zcn,←List.map_drop,zai,zar,zce]
   congr 1
   rw[zbi (by simp)]
   rfl
theorem qor(xs:List Cell)(x:Cell)(hl:xs.length≤8388608):Rt 226 [.one (.sl 4 (xs.map Cell.e)),.agg x.e] [.one (.sl 4 ((qbv xs x).map Cell.e))]:=by
 have c:=qdI xs hl
 unfold qbv
 cases h:qcm xs x with
 | true=>
  rw[zq rfl]
  exact qxk ⟨c,qoq xs x true h hl,rfl,trivial⟩
 | false=>
  rw[zo (by simp)]
  have l:qam prog (qaa f226 0) (qeJ (xs.map Cell.e) x.op x.epoch x.key x.val (xs.map Cell.e) 0) (Ex.exit 0) (qgH x.op x.epoch x.key x.val (xs.map Cell.e) (qbR xs x)):=by
   have l:=qaT (P:=prog) (c:=(qaa f226 0)) xs (fun a=>!decide (qa9 a x<0)) (fun i=>qeJ (xs.map Cell.e) x.op x.epoch x.key x.val (xs.map Cell.e) i) (X:=fun i _=>qgH x.op x.epoch x.key x.val (xs.map Cell.e) i) (qaf 0) (qaf 0)
    (fun i a ha h=>qxl ⟨lt1 (lt_of ha),lt0,lt2 (lt_of ha),qac Cell.e ha,qhX a x,by simpa using h,up1 (lt_of ha) hl,trivial⟩)
    (fun i a ha h=>qxm ⟨lt1 (lt_of ha),lt0,lt2 (lt_of ha),qac Cell.e ha,qhX a x,by simpa using h,trivial⟩)
    (qxn ⟨ge1,trivial⟩)
   unfold qbR
   rcases l with⟨_,h1,_,h2⟩ | ⟨i,a,_,_,_,h1,_,h2⟩
   ·rw[h1];exact h2
   ·rw[h1];exact h2
  exact qxo ⟨c,qoq xs x false h hl,rfl,l,qyN xs x (qbR xs x) (qki xs x) hl,trivial⟩
end Go.Proofs.YtdanpadojemjeaaGreat
namespace Go.Proofs.YtdanpadojemjeaaGreat
open Go.Sx Go.RowKit Go.Proofs.Tryz
def qaM(g:Graph)(op:Int):Option Node:=if 0≤op then g.nodes[op.toNat]? else none
theorem qh1{g:Graph}{a:Int}{w:Node}(h:qaM g a=some w):0≤a∧a<(↑(g.nodes.map Node.e).length:Int)∧(g.nodes.map Node.e)[a.toNat]?=some w.e∧inR a 0 (↑(g.nodes.map Node.e).length-1)=true:=by
 unfold qaM at h
 split at h
 ·have:=(zk.1 h).1
  refine⟨‹_›,by simp;omega,by simp[h],?_⟩
  simp only[inR,zb,zi];omega
 ·cases h
theorem qos{g:Graph}{a:Int}(h:qaM g a=none):inR a 0 (↑(g.nodes.map Node.e).length-1)=false:=by
 unfold qaM at h
 simp only[inR,zb,zf]
 split at h
 ·rw[List.getElem?_eq_none_iff]at h;omega
 ·omega
theorem qkj{g:Graph}{a:Int}{w:Node}(h:qaM g a=some w):w∈g.nodes:=by
 unfold qaM at h
 split at h
 ·exact zw h
 ·cases h
theorem Graph.nodes_le{g:Graph}(h:g.sz≤8388608):g.nodes.length≤8388608:=by simp only[Graph.sz,szS]at h;omega
theorem Graph.outs_le{g:Graph}(h:g.sz≤8388608){w:Node}(hw:w∈g.nodes):w.outs.length≤8388608:=by
 have:=qc1 (sz:=Node.sz) hw
 simp only[Graph.sz,szS]at h
 have h5:w.outs.length≤w.sz:=by simp only[Node.sz];omega
 omega
theorem qh2{g:Graph}(h:g.sz≤8388608):inInt .i64 ((↑(g.nodes.map Node.e).length:Int)-1):=by
 have:=Graph.nodes_le h
 exact⟨by simp;omega,by simp;omega⟩
theorem qyQ(g:Graph)(op:Int)(hg:g.sz≤8388608):Rt 200 [.agg g.e,.one (I op)] [.one (B (qaM g op).isSome)]:=by
 cases h:qaM g op with
 | none=>exact qn0 ⟨qh2 hg,qaY _ _ _ _ (qos h),trivial⟩
 | some w=>exact qn0 ⟨qh2 hg,qaY _ _ _ _ (qh1 h).2.2.2,trivial⟩
theorem qfO(g:Graph)(op:Int)(r:Bool)(h:(qaM g op).isSome=r)(hg:g.sz≤8388608):Rt 200 [.agg g.e,.one (I op)] [.one (B r)]:=h▸qyQ g op hg
def qdJ(g:Graph)(op:Int):Node×Bool:=match qaM g op with | some n=>(n,true) | none=>(⟨0,0,0,[]⟩,false)
theorem qyR(n:Int):∀d∈eI n,∃x,d=.v x:=by
 intro d hd
 simp only[eI,zL,zbt,or_false]at hd
 subst hd;exact⟨_,rfl⟩
theorem qyS(g:Graph)(op:Int)(hg:g.sz≤8388608):Rt 222 [.agg g.e,.one (I op)] [.agg (qdJ g op).1.e,.one (B (qdJ g op).2)]:=by
 unfold qdJ
 cases h:qaM g op with
 | none=>exact qx0 ⟨qh2 hg,qaK _ _ _ _ (qos h),rfl,trivial⟩
 | some w=>
  obtain⟨h1,h2,h3,h4⟩:=qh1 h
  have ho:=Graph.outs_le hg (qkj h)
  exact qx1 ⟨qh2 hg,qaK _ _ _ _ h4,rfl,h1,h2,h3,by simp;omega,by simp;omega,qae _ qyR _,trivial⟩
theorem qh3(g:Graph)(op:Int)(r:Node×Bool)(h:qdJ g op=r)(hg:g.sz≤8388608):Rt 222 [.agg g.e,.one (I op)] [.agg r.1.e,.one (B r.2)]:=h▸qyS g op hg
end Go.Proofs.YtdanpadojemjeaaGreat
