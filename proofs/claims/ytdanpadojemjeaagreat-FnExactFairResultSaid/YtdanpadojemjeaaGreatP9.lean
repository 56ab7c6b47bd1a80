/- PutCell, CellsIn, OutsOnly, OutCells: what program and reference compute. -/
import Derived.Test.YtdanpadojemjeaaGreatC0
import Derived.Test.YtdanpadojemjeaaGreatQ1
import Derived.Test.YtdanpadojemjeaaGreatGU
set_option linter.unusedVariables false
set_option linter.unusedSimpArgs false
namespace Go.Proofs.YtdanpadojemjeaaGreat
open Go.Sx Go.RowKit Go.Proofs.Tryz
def qcs(xs:List Cell)(x:Cell):Bool:=xs.any fun a=>decide (a=x)
def qbT(xs:List Cell)(x:Cell):Nat:=(xs.findIdx? fun a=>!decide (qa3 a x<0)).getD xs.length
def qbc(xs:List Cell)(x:Cell):List Cell:=if qcs xs x then xs else xs.take (qbT xs x)++x::xs.drop (qbT xs x)
theorem qkL(xs:List Cell)(x:Cell):qbT xs x≤xs.length:=by
 unfold qbT
 cases h:xs.findIdx? (fun a=>!decide (qa3 a x<0)) with
 | none=>simp
 | some i=>
  rw[zai]at h
  have:=h.1
  simp
  omega
theorem qkM(xs:List Cell)(x:Cell):(qbc xs x).length≤xs.length+1:=by
 unfold qbc
 split
 ·omega
 ·have:=qkL xs x
  simp
  omega
theorem qoN(xs:List Cell)(x:Cell)(hl:xs.length≤8388608):Rt 242 [.one (.sl 4 (xs.map Cell.e)),.agg x.e] [.one (B (qcs xs x))]:=by
 have l:=qaL (P:=prog) (c:=(qaa f242 0)) xs (fun a=>decide (a=x)) (fun i=>qeX (xs.map Cell.e) x.op x.epoch x.key x.val i) (X:=fun _ _=>qkG true) qat (qaf 0)
  (fun i a ha h=>qwO ⟨lt1 (lt_of ha),lt0,lt2 (lt_of ha),qac Cell.e ha,(qkB a x).trans h,up1 (lt_of ha) hl,trivial⟩)
  (fun i a ha h=>qwN ⟨lt1 (lt_of ha),lt0,lt2 (lt_of ha),qac Cell.e ha,(qkB a x).trans h,trivial⟩)
  (qwP ⟨ge1,trivial⟩)
 unfold qcs
 rcases l with⟨_,_,h1,h2⟩ | ⟨i,a,_,_,_,_,h1,h2⟩
 ·rw[h1];exact qwR ⟨h2,trivial⟩
 ·rw[h1];exact qwQ ⟨h2,trivial⟩
theorem qoO(xs:List Cell)(x:Cell)(r:Bool)(h:qcs xs x=r)(hl:xs.length≤8388608):Rt 242 [.one (.sl 4 (xs.map Cell.e)),.agg x.e] [.one (B r)]:=h▸qoN xs x hl
def idxC(xs:List Cell)(x:Cell):Int:=match xs.findIdx? (fun a=>decide (a=x)) with | some i=>i | none=>-1
theorem qxO(xs:List Cell)(x:Cell):decide (idxC xs x≥0)=qcs xs x:=by
 unfold idxC qcs
 cases h:xs.findIdx? (fun a=>decide (a=x)) with
 | none=>
  have:xs.any (fun a=>decide (a=x))=false:=by
   rw[zP]
   rw[zbs]at h
   exact fun a ha=>by simpa using h a ha
  rw[this];rfl
 | some i=>
  rw[zai]at h
  obtain⟨hi,h2,_⟩:=h
  have:xs.any (fun a=>decide (a=x))=true:=zcj.2 ⟨_,zax hi,h2⟩
  rw[this];simp
theorem qxP(xs:List Cell)(x:Cell)(hl:xs.length≤8388608):Rt 259 [.one (.sl 4 (xs.map Cell.e)),.agg x.e] [.one (I (idxC xs x))]:=by
 have l:=qaL (P:=prog) (c:=(qaa f259 0)) xs (fun a=>decide (a=x)) (fun i=>qeT (xs.map Cell.e) x.op x.epoch x.key x.val i) (X:=fun i _=>qkC i) qat (qaf 0)
  (fun i a ha h=>qvZ ⟨lt1 (lt_of ha),lt0,lt2 (lt_of ha),qac Cell.e ha,(qon a x).trans h,up1 (lt_of ha) hl,trivial⟩)
  (fun i a ha h=>qvY ⟨lt1 (lt_of ha),lt0,lt2 (lt_of ha),qac Cell.e ha,(qon a x).trans h,trivial⟩)
  (qv0 ⟨ge1,trivial⟩)
 unfold idxC
 rcases l with⟨_,h1,_,h2⟩ | ⟨i,a,_,_,_,h1,_,h2⟩
 ·simp only[h1];exact qv2 ⟨h2,trivial⟩
 ·simp only[h1];exact qv1 ⟨h2,trivial⟩
theorem qoP(xs:List Cell)(x:Cell)(hl:xs.length≤8388608):Rt 244 [.one (.sl 4 (xs.map Cell.e)),.agg x.e] [.one (B (qcs xs x))]:=by
 rw[←qxO]
 exact qvV ⟨qvX ⟨qxP xs x hl,trivial⟩,trivial⟩
theorem qoQ(xs:List Cell)(x:Cell)(r:Bool)(h:qcs xs x=r)(hl:xs.length≤8388608):Rt 244 [.one (.sl 4 (xs.map Cell.e)),.agg x.e] [.one (B r)]:=h▸qoP xs x hl
theorem qdT(xs:List Cell)(hl:xs.length≤8388608):Rt 196 [.one (.sl 4 (xs.map Cell.e))] [.one (.sl 4 (xs.map Cell.e))]:=
 qvU ⟨by simp;omega,by simp;omega,qae _ Cell.flat _,trivial⟩
theorem qfO(xs:List Cell)(x:Cell)(hl:xs.length≤8388608):Rt 223 [.one (.sl 4 (xs.map Cell.e)),.agg x.e] [.one (.sl 4 ((qbc xs x).map Cell.e))]:=by
 unfold qbc
 cases h:qcs xs x with
 | true=>
  rw[zp rfl]
  exact qwS ⟨qoO xs x true h hl,rfl,by simp;omega,by simp;omega,qae _ Cell.flat _,trivial⟩
 | false=>
  rw[zo (by simp)]
  have l:qaj prog (qaa f223 0) (qeY (xs.map Cell.e) x.op x.epoch x.key x.val 0) (Ex.exit 0) (qgN (xs.map Cell.e) x.op x.epoch x.key x.val (qbT xs x)):=by
   have l:=qaL (P:=prog) (c:=(qaa f223 0)) xs (fun a=>!decide (qa3 a x<0)) (fun i=>qeY (xs.map Cell.e) x.op x.epoch x.key x.val i) (X:=fun i _=>qgN (xs.map Cell.e) x.op x.epoch x.key x.val i) (qaf 0) (qaf 0)
    (fun i a ha h=>qwT ⟨lt1 (lt_of ha),lt0,lt2 (lt_of ha),qac Cell.e ha,qii a x,by simpa using h,up1 (lt_of ha) hl,trivial⟩)
    (fun i a ha h=>qwU ⟨lt1 (lt_of ha),lt0,lt2 (lt_of ha),qac Cell.e ha,qii a x,by simpa using h,trivial⟩)
    (qwV ⟨ge1,trivial⟩)
   unfold qbT
   rcases l with⟨_,h1,_,h2⟩ | ⟨i,a,_,_,_,h1,_,h2⟩
   ·rw[h1];exact h2
   ·rw[h1];exact h2
  have hp:=qkL xs x
  generalize qbT xs x=p at*
  refine qvT (qwW ⟨qoO xs x false h hl,rfl,l,by simp,by simp,by simp;omega,by simp;omega,by simp;omega,?_,by simp;omega,by simp;omega,qap x.flat,by simp,by simp;omega,by simp,by simp;omega,by simp;omega,?_,trivial⟩) ?_
  ·simp only[zV,zae,Nat.sub_zero,zck,←zcr]
   exact qae _ Cell.flat _
  ·simp only[zV,zae,←zcr,←List.map_drop]
   exact qae _ Cell.flat _
  ·simp only[zV,zae,Nat.sub_zero,zck,List.nil_append,←zcr,←List.map_drop,zU,zav,zba]
   congr 1
   rw[zbk (by simp)]
   rfl
theorem qkN(xs:List Cell)(x:Cell)(hl:xs.length≤8388608):Rt 226 [.one (.sl 4 (xs.map Cell.e)),.agg x.e] [.one (.sl 4 ((qbc xs x).map Cell.e))]:=by
 have c:=qdT xs hl
 unfold qbc
 cases h:qcs xs x with
 | true=>
  rw[zp rfl]
  exact qv3 ⟨c,qoQ xs x true h hl,rfl,trivial⟩
 | false=>
  rw[zo (by simp)]
  have l:qaj prog (qaa f226 0) (qeU (xs.map Cell.e) x.op x.epoch x.key x.val (xs.map Cell.e) 0) (Ex.exit 0) (qgL x.op x.epoch x.key x.val (xs.map Cell.e) (qbT xs x)):=by
   have l:=qaL (P:=prog) (c:=(qaa f226 0)) xs (fun a=>!decide (qa3 a x<0)) (fun i=>qeU (xs.map Cell.e) x.op x.epoch x.key x.val (xs.map Cell.e) i) (X:=fun i _=>qgL x.op x.epoch x.key x.val (xs.map Cell.e) i) (qaf 0) (qaf 0)
    (fun i a ha h=>qv4 ⟨lt1 (lt_of ha),lt0,lt2 (lt_of ha),qac Cell.e ha,qih a x,by simpa using h,up1 (lt_of ha) hl,trivial⟩)
    (fun i a ha h=>qv5 ⟨lt1 (lt_of ha),lt0,lt2 (lt_of ha),qac Cell.e ha,qih a x,by simpa using h,trivial⟩)
    (qv6 ⟨ge1,trivial⟩)
   unfold qbT
   rcases l with⟨_,h1,_,h2⟩ | ⟨i,a,_,_,_,h1,_,h2⟩
   ·rw[h1];exact h2
   ·rw[h1];exact h2
  exact qv7 ⟨c,qoQ xs x false h hl,rfl,l,qxN xs x (qbT xs x) (qkL xs x) hl,trivial⟩
def qbU(out xs:List Cell):List Cell:=xs.foldl qbc out
def qdw(c:Cluster):List Cell:=c.workers.foldl (fun out w=>qbU out w.cells) []
theorem qkO:∀(xs out:List Cell),(qbU out xs).length≤out.length+xs.length
 | [],out=>by simp[qbU]
 | x::xs,out=>by
  have h1:=qkM out x
  have h2:=qkO xs (qbc out x)
  simp only[qbU,List.foldl_cons,zq]at h2 ⊢
  omega
theorem qkP:∀(ws:List Worker) (out:List Cell),(ws.foldl (fun out w=>qbU out w.cells) out).length≤out.length+(ws.map Worker.sz).sum
 | [],out=>by simp
 | w::ws,out=>by
  have h1:=qkO w.cells out
  have h2:=qkP ws (qbU out w.cells)
  have h3:w.cells.length≤w.sz:=by simp only[Worker.sz];omega
  simp only[List.foldl_cons,zav,zcw]
  omega
theorem Cluster.workers_sz{c:Cluster}(h:c.sz≤8388608):(c.workers.map Worker.sz).sum≤8388608:=by
 simp only[Cluster.sz,szS]at h
 omega
theorem qgR{c:Cluster}(h:c.sz≤8388608):(qdw c).length≤8388608:=by
 have:=qkP c.workers []
 have:=Cluster.workers_sz h
 unfold qdw
 simp only[zh] at*
 omega
theorem qoR{c:Cluster}(h:c.sz≤8388608){i:Nat}{w:Worker}(hw:c.workers[i]?=some w)(j:Nat):(qbU (qbu (fun out w=>qbU out w.cells) [] c.workers i) (w.cells.take j)).length≤8388608:=by
 have h1:=qkO (w.cells.take j) (qbu (fun out w=>qbU out w.cells) [] c.workers i)
 have h2:=qkP (c.workers.take i) []
 have h3:=Cluster.workers_sz h
 have h4:sumTo Worker.sz c.workers (i+1)≤(c.workers.map Worker.sz).sum:=qkg
 rw[qh6 hw]at h4
 have h5:w.cells.length≤w.sz:=by simp only[Worker.sz];omega
 simp only[qbu,sumTo,zh,zay] at*
 omega
theorem qoS{out xs:List Cell}{i:Nat}{a:Cell}(h:xs[i]?=some a):qbU out (xs.take (i+1))=qbc (qbU out (xs.take i)) a:=by
 simp[qbU,zbe,h,List.foldl_append]
theorem qxQ(c:Cluster)(hc:c.sz≤8388608):Rt 170 [.agg c.e] [.one (.sl 4 ((qdw c).map Cell.e))]:=by
 have hl:c.workers.length≤8388608:=by have h:=hc;simp only[Cluster.sz,szS]at h;omega
 let f:=fun (out:List Cell) (w:Worker)=>qbU out w.cells
 have inner:∀(i:Nat) (w:Worker),c.workers[i]?=some w→qaj prog (qaa f170 1) (qfM (c.graph.nodes.map Node.e) c.graph.workers c.graph.cap (c.workers.map Worker.e) (c.links.map Link.e) (c.tokens.map Token.e) (c.news.map News.e) i (0:Nat) ((qbu f [] c.workers i).map Cell.e)) (Ex.exit 2)
   (qkH (c.graph.nodes.map Node.e) c.graph.workers c.graph.cap (c.workers.map Worker.e) (c.links.map Link.e) (c.tokens.map Token.e) (c.news.map News.e) i ((qbu f [] c.workers (i+1)).map Cell.e)):=by
  intro i w hw
  have hwl:w.cells.length≤8388608:=by
   have:=qeA (sz:=Worker.sz) (qar hw)
   have:=Cluster.workers_sz hc
   have h5:w.cells.length≤w.sz:=by simp only[Worker.sz];omega
   omega
  have l:=qan (P:=prog) (c:=(qaa f170 1)) (qaf 2) w.cells.length (fun j:Nat=>qfM (c.graph.nodes.map Node.e) c.graph.workers c.graph.cap (c.workers.map Worker.e) (c.links.map Link.e) (c.tokens.map Token.e) (c.news.map News.e) i j ((qbU (qbu f [] c.workers i) (w.cells.take j)).map Cell.e)) (fun j hj=>by
   obtain⟨a,ha⟩:=qai hj
   have hle:=qoR hc hw j
   rw[qoS ha]
   exact qw4 ⟨lt0,lt2 (lt_of hw),qac Worker.e hw,lt1 hj,lt0,lt2 (lt_of hw),qac Worker.e hw,lt0,lt2 hj,qac Cell.e ha,qfO _ a hle,up1 hj hwl,trivial⟩) (qw5 ⟨lt0,lt2 (lt_of hw),qac Worker.e hw,ge1,trivial⟩)
  rw[zC]at l
  rw[qh8 hw]
  exact l
 have l:=qan (P:=prog) (c:=(qaa f170 0)) (qaf 0) c.workers.length (fun i:Nat=>qgO (c.graph.nodes.map Node.e) c.graph.workers c.graph.cap (c.workers.map Worker.e) (c.links.map Link.e) (c.tokens.map Token.e) (c.news.map News.e) i ((qbu f [] c.workers i).map Cell.e)) (fun i hi=>by
  obtain⟨w,hw⟩:=qai hi
  exact qw6 ⟨lt1 hi,inner i w hw,up1 hi hl,trivial⟩) (qw7 ⟨ge1,trivial⟩)
 rw[qh9]at l
 exact qw8 ⟨l,trivial⟩
theorem qxR(c:Cluster)(hc:c.sz≤8388608):Rt 178 [.agg c.e] [.one (.sl 4 ((qdw c).map Cell.e))]:=by
 have hl:c.workers.length≤8388608:=by have h:=hc;simp only[Cluster.sz,szS]at h;omega
 let f:=fun (out:List Cell) (w:Worker)=>qbU out w.cells
 have inner:∀(i:Nat) (w:Worker),c.workers[i]?=some w→qaj prog (qaa f178 1) (qfL (c.workers.map Worker.e) i (w.cells.map Cell.e) (0:Nat) ((qbu f [] c.workers i).map Cell.e)) (Ex.exit 2)
   (qkD (c.workers.map Worker.e) i ((qbu f [] c.workers (i+1)).map Cell.e)):=by
  intro i w hw
  have hwl:w.cells.length≤8388608:=by
   have:=qeA (sz:=Worker.sz) (qar hw)
   have:=Cluster.workers_sz hc
   have h5:w.cells.length≤w.sz:=by simp only[Worker.sz];omega
   omega
  have l:=qan (P:=prog) (c:=(qaa f178 1)) (qaf 2) w.cells.length (fun j:Nat=>qfL (c.workers.map Worker.e) i (w.cells.map Cell.e) j ((qbU (qbu f [] c.workers i) (w.cells.take j)).map Cell.e)) (fun j hj=>by
   obtain⟨a,ha⟩:=qai hj
   have hle:=qoR hc hw j
   rw[qoS ha]
   exact qwd ⟨lt1 hj,lt0,lt2 hj,qac Cell.e ha,qkN _ a hle,up1 hj hwl,trivial⟩) (qwe ⟨ge1,trivial⟩)
  rw[zC]at l
  rw[qh8 hw]
  exact l
 have l:=qan (P:=prog) (c:=(qaa f178 0)) (qaf 0) c.workers.length (fun i:Nat=>qgM (c.workers.map Worker.e) i ((qbu f [] c.workers i).map Cell.e)) (fun i hi=>by
  obtain⟨w,hw⟩:=qai hi
  exact qwf ⟨lt1 hi,lt0,lt2 hi,qac Worker.e hw,inner i w hw,up1 hi hl,trivial⟩) (qwg ⟨ge1,trivial⟩)
 rw[qh9]at l
 exact qwh ⟨l,trivial⟩
end Go.Proofs.YtdanpadojemjeaaGreat
namespace Go.Proofs.YtdanpadojemjeaaGreat
open Go.Sx Go.RowKit Go.Proofs.Tryz
def qaH(g:Graph)(op:Int):Option Node:=if 0≤op then g.nodes[op.toNat]? else none
def isOut(g:Graph)(x:Cell):Bool:=match qaH g x.op with | some n=>n.kind==8 | none=>false
def qfP(g:Graph)(xs:List Cell):List Cell:=xs.filter (isOut g)
theorem qgS{g:Graph}{a:Int}{w:Node}(h:qaH g a=some w):0≤a∧a<(↑(g.nodes.map Node.e).length:Int)∧(g.nodes.map Node.e)[a.toNat]?=some w.e∧inR a 0 (↑(g.nodes.map Node.e).length-1)=true:=by
 unfold qaH at h
 split at h
 ·have:=(zk.1 h).1
  refine⟨‹_›,by simp;omega,by simp[h],?_⟩
  simp only[inR,zb,zi];omega
 ·cases h
theorem qoT{g:Graph}{a:Int}(h:qaH g a=none):inR a 0 (↑(g.nodes.map Node.e).length-1)=false:=by
 unfold qaH at h
 simp only[inR,zb,zf]
 split at h
 ·rw[List.getElem?_eq_none_iff]at h;omega
 ·omega
theorem qkQ{g:Graph}{a:Int}{w:Node}(h:qaH g a=some w):w∈g.nodes:=by
 unfold qaH at h
 split at h
 ·exact zw h
 ·cases h
theorem Graph.nodes_le{g:Graph}(h:g.sz≤8388608):g.nodes.length≤8388608:=by simp only[Graph.sz,szS]at h;omega
theorem Graph.outs_le{g:Graph}(h:g.sz≤8388608){w:Node}(hw:w∈g.nodes):w.outs.length≤8388608:=by
 have:=qeA (sz:=Node.sz) hw
 simp only[Graph.sz,szS]at h
 have h5:w.outs.length≤w.sz:=by simp only[Node.sz];omega
 omega
theorem qik{g:Graph}(h:g.sz≤8388608):inInt .i64 ((↑(g.nodes.map Node.e).length:Int)-1):=by
 have:=Graph.nodes_le h
 exact⟨by simp;omega,by simp;omega⟩
theorem qxS(g:Graph)(op:Int)(hg:g.sz≤8388608):Rt 200 [.agg g.e,.one (I op)] [.one (B (qaH g op).isSome)]:=by
 cases h:qaH g op with
 | none=>exact qop ⟨qik hg,qaT _ _ _ _ (qoT h),trivial⟩
 | some w=>exact qop ⟨qik hg,qaT _ _ _ _ (qgS h).2.2.2,trivial⟩
theorem qdU(g:Graph)(op:Int)(r:Bool)(h:(qaH g op).isSome=r)(hg:g.sz≤8388608):Rt 200 [.agg g.e,.one (I op)] [.one (B r)]:=h▸qxS g op hg
def qdc(g:Graph)(op:Int):Node×Bool:=match qaH g op with | some n=>(n,true) | none=>(⟨0,0,0,[]⟩,false)
theorem qxT(n:Int):∀d∈eI n,∃x,d=.v x:=by
 intro d hd
 simp only[eI,zL,zbu,or_false]at hd
 subst hd;exact⟨_,rfl⟩
theorem qxU(g:Graph)(op:Int)(hg:g.sz≤8388608):Rt 222 [.agg g.e,.one (I op)] [.agg (qdc g op).1.e,.one (B (qdc g op).2)]:=by
 unfold qdc
 cases h:qaH g op with
 | none=>exact qwX ⟨qik hg,qaG _ _ _ _ (qoT h),rfl,trivial⟩
 | some w=>
  obtain⟨h1,h2,h3,h4⟩:=qgS h
  have ho:=Graph.outs_le hg (qkQ h)
  exact qwY ⟨qik hg,qaG _ _ _ _ h4,rfl,h1,h2,h3,by simp;omega,by simp;omega,qae _ qxT _,trivial⟩
theorem qfQ(g:Graph)(op:Int)(r:Node×Bool)(h:qdc g op=r)(hg:g.sz≤8388608):Rt 222 [.agg g.e,.one (I op)] [.agg r.1.e,.one (B r.2)]:=h▸qxU g op hg
theorem qxV(g:Graph)(xs:List Cell)(hg:g.sz≤8388608)(hl:xs.length≤8388608):Rt 169 [.agg g.e,.one (.sl 4 (xs.map Cell.e))] [.one (.sl 4 ((qfP g xs).map Cell.e))]:=by
 have l:=qan (P:=prog) (c:=(qaa f169 0)) (qaf 0) xs.length (fun i:Nat=>qdv (xs.map Cell.e) i (((xs.take i).filter (isOut g)).map Cell.e) (g.nodes.map Node.e) g.workers g.cap) (fun i hi=>by
  obtain⟨a,ha⟩:=qai hi
  have hf:=qdR (isOut g) xs i
  have hs:=qcV (isOut g) ha
  cases h:qaH g a.op with
  | none=>
   have hp:isOut g a=false:=by simp[isOut,h]
   rw[zo (by simp[hp]),zaa]at hs
   rw[hs]
   exact qw1 ⟨lt1 hi,lt0,lt2 hi,qac Cell.e ha,qfQ g a.op _ (by unfold qdc;rw[h]) hg,rfl,up1 hi hl,trivial⟩
  | some w=>
   have n:=qfQ g a.op (w,true) (by unfold qdc;rw[h]) hg
   by_cases hk:(w.kind==8)=true
   ·have hp:isOut g a=true:=by simp only[isOut,h];exact hk
    rw[zp hp]at hs
    rw[hs,zU]
    exact qwZ ⟨lt1 hi,lt0,lt2 hi,qac Cell.e ha,n,rfl,hk,lt0,lt2 hi,qac Cell.e ha,by simp;omega,by simp;omega,qap a.flat,up1 hi hl,trivial⟩
   ·have hp:isOut g a=false:=by simp only[isOut,h];simpa using hk
    rw[zo (by simp[hp]),zaa]at hs
    rw[hs]
    exact qw0 ⟨lt1 hi,lt0,lt2 hi,qac Cell.e ha,n,rfl,by simpa using hk,up1 hi hl,trivial⟩) (qw2 ⟨ge1,trivial⟩)
 rw[zC]at l
 exact qw3 ⟨l,trivial⟩
theorem qxW(g:Graph)(xs:List Cell)(hg:g.sz≤8388608)(hl:xs.length≤8388608):Rt 177 [.agg g.e,.one (.sl 4 (xs.map Cell.e))] [.one (.sl 4 ((qfP g xs).map Cell.e))]:=by
 have l:=qan (P:=prog) (c:=(qaa f177 0)) (qaf 0) xs.length (fun i:Nat=>qdu (xs.map Cell.e) i (((xs.take i).filter (isOut g)).map Cell.e) (g.nodes.map Node.e) g.workers g.cap) (fun i hi=>by
  obtain⟨a,ha⟩:=qai hi
  have hf:=qdR (isOut g) xs i
  have hs:=qcV (isOut g) ha
  cases h:qaH g a.op with
  | none=>
   have hp:isOut g a=false:=by simp[isOut,h]
   rw[zo (by simp[hp]),zaa]at hs
   rw[hs]
   exact qwa ⟨lt1 hi,lt0,lt2 hi,qac Cell.e ha,qdU g a.op false (by rw[h];rfl) hg,rfl,up1 hi hl,trivial⟩
  | some w=>
   have n:=qdU g a.op true (by rw[h];rfl) hg
   obtain⟨h1,h2,h3,h4⟩:=qgS h
   by_cases hk:(w.kind==8)=true
   ·have hp:isOut g a=true:=by simp only[isOut,h];exact hk
    rw[zp hp]at hs
    rw[hs,zU]
    exact qv8 ⟨lt1 hi,lt0,lt2 hi,qac Cell.e ha,n,rfl,h1,h2,h3,hk,by simp;omega,by simp;omega,qap a.flat,up1 hi hl,trivial⟩
   ·have hp:isOut g a=false:=by simp only[isOut,h];simpa using hk
    rw[zo (by simp[hp]),zaa]at hs
    rw[hs]
    exact qv9 ⟨lt1 hi,lt0,lt2 hi,qac Cell.e ha,n,rfl,h1,h2,h3,by simpa using hk,up1 hi hl,trivial⟩) (qwb ⟨ge1,trivial⟩)
 rw[zC]at l
 exact qwc ⟨l,trivial⟩
def qdV(c:Cluster)(e:Int):List Cell:=(qfP c.graph (qdw c)).filter fun x=>x.epoch==e
theorem qkR{g:Graph}{xs:List Cell}(h:xs.length≤8388608):(qfP g xs).length≤8388608:=zce (zat ..) h
theorem qxX{c:Cluster}{e:Int}(h:c.sz≤8388608):(qdV c e).length≤8388608:=zce (zat ..) (qkR (qgR h))
theorem Cluster.graph_sz{c:Cluster}(h:c.sz≤8388608):c.graph.sz≤8388608:=by simp only[Cluster.sz]at h;omega
theorem qxY(c:Cluster)(e:Int)(hc:c.sz≤8388608):Rt 100 [.agg c.e,.one (I e)] [.one (.sl 4 ((qdV c e).map Cell.e))]:=by
 have o:=qxV c.graph (qdw c) (Cluster.graph_sz hc) (qgR hc)
 have hl:=qkR (g:=c.graph) (qgR hc)
 unfold qdV
 generalize qfP c.graph (qdw c)=xs at*
 let p:=fun x:Cell=>x.epoch==e
 have l:=qan (P:=prog) (c:=(qaa f100 0)) (qaf 0) xs.length (fun i:Nat=>qeZ e (xs.map Cell.e) i (((xs.take i).filter p).map Cell.e)) (fun i hi=>by
  obtain⟨a,ha⟩:=qai hi
  have hf:=qdR p xs i
  have hs:=qcV p ha
  by_cases hp:p a=true
  ·rw[zp hp]at hs
   rw[hs,zU]
   exact qw9 ⟨lt1 hi,lt0,lt2 hi,qac Cell.e ha,hp,lt0,lt2 hi,qac Cell.e ha,by simp;omega,by simp;omega,qap a.flat,up1 hi hl,trivial⟩
  ·rw[zo hp,zaa]at hs
   rw[hs]
   exact qxa ⟨lt1 hi,lt0,lt2 hi,qac Cell.e ha,zQ.2 hp,up1 hi hl,trivial⟩) (qxb ⟨ge1,trivial⟩)
 rw[zC]at l
 exact qxc ⟨qxQ c hc,o,l,trivial⟩
theorem qxZ(c:Cluster)(e:Int)(hc:c.sz≤8388608):Rt 105 [.agg c.e,.one (I e)] [.one (.sl 4 ((qdV c e).map Cell.e))]:=by
 have o:=qxW c.graph (qdw c) (Cluster.graph_sz hc) (qgR hc)
 have hl:=qkR (g:=c.graph) (qgR hc)
 unfold qdV
 generalize qfP c.graph (qdw c)=xs at*
 let p:=fun x:Cell=>x.epoch==e
 have l:=qan (P:=prog) (c:=(qaa f105 0)) (qaf 0) xs.length (fun i:Nat=>qeV e (xs.map Cell.e) i (((xs.take i).filter p).map Cell.e)) (fun i hi=>by
  obtain⟨a,ha⟩:=qai hi
  have hf:=qdR p xs i
  have hs:=qcV p ha
  by_cases hp:p a=true
  ·rw[zp hp]at hs
   rw[hs,zU]
   exact qwi ⟨lt1 hi,lt0,lt2 hi,qac Cell.e ha,hp,by simp;omega,by simp;omega,qap a.flat,up1 hi hl,trivial⟩
  ·rw[zo hp,zaa]at hs
   rw[hs]
   exact qwj ⟨lt1 hi,lt0,lt2 hi,qac Cell.e ha,zQ.2 hp,up1 hi hl,trivial⟩) (qwk ⟨ge1,trivial⟩)
 rw[zC]at l
 exact qwl ⟨qxR c hc,o,l,trivial⟩
end Go.Proofs.YtdanpadojemjeaaGreat
namespace Go.Proofs.YtdanpadojemjeaaGreat
open Go.Sx Go.RowKit Go.Sort Go.Proofs.Tryz
theorem qgP(xs:List Record)(hl:xs.length≤8388608):Rt 195 [.one (.sl 5 (xs.map Record.e))] [.one (.sl 5 (xs.map Record.e))]:=
 qum ⟨by simp;omega,by simp;omega,qae _ Record.flat _,trivial⟩
theorem Cluster.wlen_le{c:Cluster}(h:c.sz≤8388608):c.workers.length≤8388608:=by simp only[Cluster.sz,szS]at h;omega
theorem Cluster.llen_le{c:Cluster}(h:c.sz≤8388608):c.links.length≤8388608:=by simp only[Cluster.sz,szS]at h;omega
end Go.Proofs.YtdanpadojemjeaaGreat
namespace Go.Proofs.YtdanpadojemjeaaGreat
open Go.Sx Go.RowKit Go.Proofs.Tryz
def qbV(w:Worker)(e:Int):Bool:=w.dones.any fun d=>d.epoch==e
theorem Worker.dones_le{w:Worker}(h:w.sz≤8388608):w.dones.length≤8388608:=by simp only[Worker.sz]at h;omega
theorem Cluster.worker_sz{c:Cluster}(h:c.sz≤8388608){w:Worker}(hl:w∈c.workers):w.sz≤8388608:=by
 have:=qeA (sz:=Worker.sz) hl
 simp only[Cluster.sz,szS]at h;omega
theorem qzu(w:Worker)(e:Int)(hw:w.sz≤8388608):Rt 114 [.agg w.e,.one (I e)] [.one (B (qbV w e))]:=by
 have hl:=Worker.dones_le hw
 have l:=qaL (P:=prog) (c:=(qaa f114 0)) w.dones (fun d=>d.epoch==e) (fun i=>qeM (w.queue.map Record.e) (w.staged.map Record.e) (w.inputs.map Record.e) (w.cells.map Cell.e) (w.sums.map eI) (w.black.map eB) (w.caps.map eB) (w.dones.map Done.e) e i) (X:=fun _ _=>qku true) qat (qaf 0)
  (fun i a ha h=>qvg ⟨lt1 (lt_of ha),lt0,lt2 (lt_of ha),qac Done.e ha,h,up1 (lt_of ha) hl,trivial⟩)
  (fun i a ha h=>qvf ⟨lt1 (lt_of ha),lt0,lt2 (lt_of ha),qac Done.e ha,h,trivial⟩)
  (qvh ⟨ge1,trivial⟩)
 unfold qbV
 rcases l with⟨_,_,h1,h2⟩ | ⟨i,a,_,_,_,_,h1,h2⟩
 ·rw[h1];exact qvj ⟨h2,trivial⟩
 ·rw[h1];exact qvi ⟨h2,trivial⟩
theorem qo6(xs:List Done)(e:Int)(hl:xs.length≤8388608):Rt 126 [.one (.sl 2 (xs.map Done.e)),.one (I e)] [.one (B (xs.any fun d=>d.epoch==e))]:=
 qvk ⟨qzr xs (fun d=>d.epoch==e) _ _ hl (by kernel_rfl) (fun x _=>qvl trivial),trivial⟩
theorem qzv(w:Worker)(e:Int)(hw:w.sz≤8388608):Rt 66 [.agg w.e,.one (I e)] [.one (B (qbV w e))]:=
 qvm ⟨qo6 w.dones e (Worker.dones_le hw),trivial⟩
theorem qzw(e:Int)(xs:List Record):(qbS e xs).length≤xs.length:=zat ..
theorem qkV(w:Worker)(e:Int)(r:Bool)(h:qbV w e=r)(hw:w.sz≤8388608):Rt 114 [.agg w.e,.one (I e)] [.one (B r)]:=h▸qzu w e hw
theorem len0{α:Type}{f:α→List D}(xs:List α)(b:Bool)(h:decide (xs.length=0)=b):((↑(xs.map f).length:Int)==0)=b:=by
 subst h
 by_cases h:xs.length=0
 ·simp[h]
 ·rw[show decide (xs.length=0)=false from dF h]
  simp only[zb,zbq,zcc]
  omega
end Go.Proofs.YtdanpadojemjeaaGreat
namespace Go.Proofs.YtdanpadojemjeaaGreat
open Go.Sx Go.RowKit Go.Proofs.Tryz
theorem Cluster.link_wf{c:Cluster}(h:c.wf){l:Link}(hl:l∈c.links):l.wf:=h.links_ok.2 l hl
theorem Cluster.link_sz{c:Cluster}(h:c.sz≤8388608){l:Link}(hl:l∈c.links):l.sz≤8388608:=by
 have:=qeB (sz:=Link.sz) (xs:=c.links) (m:=8388608) (by simp only[Cluster.sz]at h;omega) hl
 exact this
theorem wlen{α:Type}{f:Int→α}{xs:List Int}(h:xs.length≤8388608):IntKind.i64.wrap ((↑(xs.map f).length:Int)-1)=(xs.length:Int)-1:=by
 rw[zb]
 exact inInt.wrap ⟨by omega,by omega⟩
def qbd(key workers:Int):Int:=if workers<1 then 0 else if key.tmod workers<0 then key.tmod workers+workers else key.tmod workers
theorem qk9(a b:Int)(h:0<b):- b<a.tmod b:=by
 rcases Int.le_total 0 a with ha | ha
 ·have:=Int.tmod_nonneg b ha;omega
 ·have h1:(-a).tmod b<b:=Int.tmod_lt_of_pos _ h
  rw[Int.neg_tmod]at h1
  omega
theorem qpc(key workers:Int)(hw:workers≤9223372036854775807):Rt 212 [.one (I key),.one (I workers)] [.one (I (qbd key workers))]:=by
 unfold qbd
 split
 ·exact qzx ⟨by simpa using ‹workers<1›,trivial⟩
 ·rename_i h
  have h1:=qk9 key workers (by omega)
  have h2:key.tmod workers<workers:=Int.tmod_lt_of_pos _ (by omega)
  split
  ·rename_i h3
   exact qzy ⟨by simp only[zf];omega,by omega,by simpa using h3,⟨by omega,by omega⟩,trivial⟩
  ·rename_i h3
   exact qzz ⟨by simp only[zf];omega,by omega,by simpa using h3,trivial⟩
theorem qpd(key workers:Int)(hw:workers≤9223372036854775807):Rt 153 [.one (I key),.one (I workers)] [.one (I (qbd key workers))]:=by
 unfold qbd
 split
 ·exact qzA ⟨by simpa using ‹workers<1›,trivial⟩
 ·rename_i h
  have h1:=qk9 key workers (by omega)
  have h2:key.tmod workers<workers:=Int.tmod_lt_of_pos _ (by omega)
  split
  ·rename_i h3
   exact qzB ⟨by simp only[zf];omega,by omega,by simpa using h3,⟨by omega,by omega⟩,trivial⟩
  ·rename_i h3
   exact qzC ⟨by simp only[zf];omega,by omega,by simpa using h3,trivial⟩
theorem Worker.queue_le{w:Worker}(h:w.sz≤8388608):w.queue.length≤8388608:=by simp only[Worker.sz]at h;omega
theorem Worker.inputs_le{w:Worker}(h:w.sz≤8388608):w.inputs.length≤8388608:=by simp only[Worker.sz]at h;omega
end Go.Proofs.YtdanpadojemjeaaGreat
