/- PutCell, CellsIn, OutsOnly, OutCells: what program and reference compute. -/
import Derived.Test.YtdkobdhckkjmeaaGreatC0
set_option linter.unusedVariables false
set_option linter.unusedSimpArgs false
namespace Go.Proofs.YtdkobdhckkjmeaaGreat
open Go.Sx Go.RowKit Go.Proofs.Tryz
def qcj(xs:List Cell)(x:Cell):Bool:=xs.any fun a=>decide (a=x)
def qbY(xs:List Cell)(x:Cell):Nat:=(xs.findIdx? fun a=>!decide (qbg a x<0)).getD xs.length
def qbv(xs:List Cell)(x:Cell):List Cell:=if qcj xs x then xs else xs.take (qbY xs x)++x::xs.drop (qbY xs x)
theorem qms(xs:List Cell)(x:Cell):qbY xs x≤xs.length:=by
 unfold qbY;cases h:xs.findIdx? (fun a=>!decide (qbg a x<0)) with
 | none=>simp
 | some i=>
  rw[zai]at h;have:=h.1;simp;omega
theorem qqF(xs:List Cell)(x:Cell):(qbv xs x).length≤xs.length+1:=by
 unfold qbv;split
 ·omega
 ·have:=qms xs x;simp;omega
theorem qqG(xs:List Cell)(x:Cell)(hl:xs.length≤8388608):Rt 305 [.one (.sl 4 (xs.map Cell.e)),.agg x.e] [.one (B (qcj xs x))]:=by
 have l:=qaX (P:=prog) (c:=(qaa f305 0)) xs (fun a=>decide (a=x)) (fun i=>qfi (xs.map Cell.e) x.op x.epoch x.key x.val i) (X:=fun _ _=>qmo true) qaF (qaf 0)
  (fun i a ha h=>qyE ⟨lt1 (lt_of ha),lt0,lt2 (lt_of ha),qac Cell.e ha,(qmk a x).trans h,up1 (lt_of ha) hl,trivial⟩)
  (fun i a ha h=>qyD ⟨lt1 (lt_of ha),lt0,lt2 (lt_of ha),qac Cell.e ha,(qmk a x).trans h,trivial⟩)
  (qyF ⟨ge1,trivial⟩)
 unfold qcj;rcases l with⟨_,_,h1,h2⟩ | ⟨i,a,_,_,_,_,h1,h2⟩
 ·rw[h1];exact qyH ⟨h2,trivial⟩
 ·rw[h1];exact qyG ⟨h2,trivial⟩
theorem qqH(xs:List Cell)(x:Cell)(r:Bool)(h:qcj xs x=r)(hl:xs.length≤8388608):Rt 305 [.one (.sl 4 (xs.map Cell.e)),.agg x.e] [.one (B r)]:=h▸qqG xs x hl
def idxC(xs:List Cell)(x:Cell):Int:=match xs.findIdx? (fun a=>decide (a=x)) with | some i=>i | none=>-1
theorem qzn(xs:List Cell)(x:Cell):decide (idxC xs x≥0)=qcj xs x:=by
 unfold idxC qcj;cases h:xs.findIdx? (fun a=>decide (a=x)) with
 | none=>
  have:xs.any (fun a=>decide (a=x))=false:=by
   rw[zP];rw[zbs]at h;exact fun a ha=>by simpa using h a ha
  rw[this];rfl
 | some i=>
  rw[zai]at h;obtain⟨hi,h2,_⟩:=h;have:xs.any (fun a=>decide (a=x))=true:=zcj.2 ⟨_,zax hi,h2⟩;rw[this];simp
theorem qzo(xs:List Cell)(x:Cell)(hl:xs.length≤8388608):Rt 344 [.one (.sl 4 (xs.map Cell.e)),.agg x.e] [.one (I (idxC xs x))]:=by
 have l:=qaX (P:=prog) (c:=(qaa f344 0)) xs (fun a=>decide (a=x)) (fun i=>qff (xs.map Cell.e) x.op x.epoch x.key x.val i) (X:=fun i _=>qml i) qaF (qaf 0)
  (fun i a ha h=>qx3 ⟨lt1 (lt_of ha),lt0,lt2 (lt_of ha),qac Cell.e ha,(qqp a x).trans h,up1 (lt_of ha) hl,trivial⟩)
  (fun i a ha h=>qx2 ⟨lt1 (lt_of ha),lt0,lt2 (lt_of ha),qac Cell.e ha,(qqp a x).trans h,trivial⟩)
  (qx4 ⟨ge1,trivial⟩)
 unfold idxC;rcases l with⟨_,h1,_,h2⟩ | ⟨i,a,_,_,_,h1,_,h2⟩
 ·simp only[h1];exact qx6 ⟨h2,trivial⟩
 ·simp only[h1];exact qx5 ⟨h2,trivial⟩
theorem qqI(xs:List Cell)(x:Cell)(hl:xs.length≤8388608):Rt 312 [.one (.sl 4 (xs.map Cell.e)),.agg x.e] [.one (B (qcj xs x))]:=by
 rw[←qzn];exact qxZ ⟨qx1 ⟨qzo xs x hl,trivial⟩,trivial⟩
theorem qqJ(xs:List Cell)(x:Cell)(r:Bool)(h:qcj xs x=r)(hl:xs.length≤8388608):Rt 312 [.one (.sl 4 (xs.map Cell.e)),.agg x.e] [.one (B r)]:=h▸qqI xs x hl
theorem qej(xs:List Cell)(hl:xs.length≤8388608):Rt 301 [.one (.sl 4 (xs.map Cell.e))] [.one (.sl 4 (xs.map Cell.e))]:=
 qxY ⟨by simp;omega,by simp;omega,qae _ Cell.flat _,trivial⟩
theorem qhC(xs:List Cell)(x:Cell)(hl:xs.length≤8388608):Rt 249 [.one (.sl 4 (xs.map Cell.e)),.agg x.e] [.one (.sl 4 ((qbv xs x).map Cell.e))]:=by
 unfold qbv;cases h:qcj xs x with
 | true=>
  rw[zp rfl];exact qyI ⟨qqH xs x true h hl,rfl,by simp;omega,by simp;omega,qae _ Cell.flat _,trivial⟩
 | false=>
  rw[zo (by simp)];have l:qam prog (qaa f249 0) (qfj (xs.map Cell.e) x.op x.epoch x.key x.val 0) (Ex.exit 0) (qhA (xs.map Cell.e) x.op x.epoch x.key x.val (qbY xs x)):=by
   have l:=qaX (P:=prog) (c:=(qaa f249 0)) xs (fun a=>!decide (qbg a x<0)) (fun i=>qfj (xs.map Cell.e) x.op x.epoch x.key x.val i) (X:=fun i _=>qhA (xs.map Cell.e) x.op x.epoch x.key x.val i) (qaf 0) (qaf 0)
    (fun i a ha h=>qyJ ⟨lt1 (lt_of ha),lt0,lt2 (lt_of ha),qac Cell.e ha,qjA a x,by simpa using h,up1 (lt_of ha) hl,trivial⟩)
    (fun i a ha h=>qyK ⟨lt1 (lt_of ha),lt0,lt2 (lt_of ha),qac Cell.e ha,qjA a x,by simpa using h,trivial⟩)
    (qyL ⟨ge1,trivial⟩)
   unfold qbY;rcases l with⟨_,h1,_,h2⟩ | ⟨i,a,_,_,_,h1,_,h2⟩
   ·rw[h1];exact h2
   ·rw[h1];exact h2
  have hp:=qms xs x;generalize qbY xs x=p at*;refine qxX (qyM ⟨qqH xs x false h hl,rfl,l,by simp,by simp,by simp;omega,by simp;omega,by simp;omega,?_,by simp;omega,by simp;omega,qat x.flat,by simp,by simp;omega,by simp,by simp;omega,by simp;omega,?_,trivial⟩) ?_
  ·simp only[zV,zae,Nat.sub_zero,zck,←zcr];exact qae _ Cell.flat _
  ·simp only[zV,zae,←zcr,←List.map_drop];exact qae _ Cell.flat _
  ·simp only[zV,zae,Nat.sub_zero,zck,List.nil_append,←zcr,←List.map_drop,zU,zav,zba]
   congr 1
   rw[zbk (by simp)];rfl
theorem qqK(xs:List Cell)(x:Cell)(hl:xs.length≤8388608):Rt 268 [.one (.sl 4 (xs.map Cell.e)),.agg x.e] [.one (.sl 4 ((qbv xs x).map Cell.e))]:=by
 have c:=qej xs hl;unfold qbv;cases h:qcj xs x with
 | true=>
  rw[zp rfl];exact qx7 ⟨c,qqJ xs x true h hl,rfl,trivial⟩
 | false=>
  rw[zo (by simp)];have l:qam prog (qaa f268 0) (qfg (xs.map Cell.e) x.op x.epoch x.key x.val (xs.map Cell.e) 0) (Ex.exit 0) (qhz x.op x.epoch x.key x.val (xs.map Cell.e) (qbY xs x)):=by
   have l:=qaX (P:=prog) (c:=(qaa f268 0)) xs (fun a=>!decide (qbg a x<0)) (fun i=>qfg (xs.map Cell.e) x.op x.epoch x.key x.val (xs.map Cell.e) i) (X:=fun i _=>qhz x.op x.epoch x.key x.val (xs.map Cell.e) i) (qaf 0) (qaf 0)
    (fun i a ha h=>qx8 ⟨lt1 (lt_of ha),lt0,lt2 (lt_of ha),qac Cell.e ha,qjz a x,by simpa using h,up1 (lt_of ha) hl,trivial⟩)
    (fun i a ha h=>qx9 ⟨lt1 (lt_of ha),lt0,lt2 (lt_of ha),qac Cell.e ha,qjz a x,by simpa using h,trivial⟩)
    (qya ⟨ge1,trivial⟩)
   unfold qbY;rcases l with⟨_,h1,_,h2⟩ | ⟨i,a,_,_,_,h1,_,h2⟩
   ·rw[h1];exact h2
   ·rw[h1];exact h2
  exact qyb ⟨c,qqJ xs x false h hl,rfl,l,qzm xs x (qbY xs x) (qms xs x) hl,trivial⟩
def addCells(out xs:List Cell):List Cell:=xs.foldl qbv out
def cellsIn(c:Cluster):List Cell:=c.workers.foldl (fun out w=>addCells out w.cells) []
theorem addCells_le:∀(xs out:List Cell),(addCells out xs).length≤out.length+xs.length
 | [],out=>by simp[addCells]
 | x::xs,out=>by
  have h1:=qqF out x;have h2:=addCells_le xs (qbv out x);simp only[addCells,List.foldl_cons,zq]at h2 ⊢;omega
theorem addAll_le:∀(ws:List Worker) (out:List Cell),(ws.foldl (fun out w=>addCells out w.cells) out).length≤out.length+(ws.map Worker.sz).sum
 | [],out=>by simp
 | w::ws,out=>by
  have h1:=addCells_le w.cells out;have h2:=addAll_le ws (addCells out w.cells);have h3:w.cells.length≤w.sz:=by simp only[Worker.sz];omega
  simp only[List.foldl_cons,zav,zcw];omega
theorem Cluster.workers_sz{c:Cluster}(h:c.sz≤8388608):(c.workers.map Worker.sz).sum≤8388608:=by
 simp only[Cluster.sz,szS]at h;omega
theorem cellsIn_le{c:Cluster}(h:c.sz≤8388608):(cellsIn c).length≤8388608:=by
 have:=addAll_le c.workers [];have:=Cluster.workers_sz h;unfold cellsIn;simp only[zh] at*;omega
theorem inTo_le{c:Cluster}(h:c.sz≤8388608){i:Nat}{w:Worker}(hw:c.workers[i]?=some w)(j:Nat):(addCells (qcU (fun out w=>addCells out w.cells) [] c.workers i) (w.cells.take j)).length≤8388608:=by
 have h1:=addCells_le (w.cells.take j) (qcU (fun out w=>addCells out w.cells) [] c.workers i);have h2:=addAll_le (c.workers.take i) [];have h3:=Cluster.workers_sz h;have h4:sumTo Worker.sz c.workers (i+1)≤(c.workers.map Worker.sz).sum:=qvX;rw[qvW hw]at h4;have h5:w.cells.length≤w.sz:=by simp only[Worker.sz];omega
 simp only[qcU,sumTo,zh,zay] at*;omega
theorem addTo_succ{out xs:List Cell}{i:Nat}{a:Cell}(h:xs[i]?=some a):addCells out (xs.take (i+1))=qbv (addCells out (xs.take i)) a:=by
 simp[addCells,zbe,h,List.foldl_append]
theorem spec_CellsIn_ret(c:Cluster)(hc:c.sz≤8388608):Rt 134 [.agg c.e] [.one (.sl 4 ((cellsIn c).map Cell.e))]:=by
 have hl:c.workers.length≤8388608:=by have h:=hc;simp only[Cluster.sz,szS]at h;omega
 let f:=fun (out:List Cell) (w:Worker)=>addCells out w.cells
 have inner:∀(i:Nat) (w:Worker),c.workers[i]?=some w→qam prog (qaa f134 1) (spec_CellsIn_L1 (c.graph.nodes.map Node.e) c.graph.workers c.graph.cap (c.workers.map Worker.e) (c.links.map Link.e) (c.tokens.map Token.e) (c.news.map News.e) i (0:Nat) ((qcU f [] c.workers i).map Cell.e)) (Ex.exit 2)
   (spec_CellsIn_X1 (c.graph.nodes.map Node.e) c.graph.workers c.graph.cap (c.workers.map Worker.e) (c.links.map Link.e) (c.tokens.map Token.e) (c.news.map News.e) i ((qcU f [] c.workers (i+1)).map Cell.e)):=by
  intro i w hw;have hwl:w.cells.length≤8388608:=by
   have:=qjm (sz:=Worker.sz) (qag hw);have:=Cluster.workers_sz hc;have h5:w.cells.length≤w.sz:=by simp only[Worker.sz];omega
   omega
  have l:=qao (P:=prog) (c:=(qaa f134 1)) (qaf 2) w.cells.length (fun j:Nat=>spec_CellsIn_L1 (c.graph.nodes.map Node.e) c.graph.workers c.graph.cap (c.workers.map Worker.e) (c.links.map Link.e) (c.tokens.map Token.e) (c.news.map News.e) i j ((addCells (qcU f [] c.workers i) (w.cells.take j)).map Cell.e)) (fun j hj=>by
   obtain⟨a,ha⟩:=qal hj;have hle:=inTo_le hc hw j;rw[addTo_succ ha];exact spec_CellsIn_L1_s0 ⟨lt0,lt2 (lt_of hw),qac Worker.e hw,lt1 hj,lt0,lt2 (lt_of hw),qac Worker.e hw,lt0,lt2 hj,qac Cell.e ha,qhC _ a hle,up1 hj hwl,trivial⟩) (spec_CellsIn_L1_x1 ⟨lt0,lt2 (lt_of hw),qac Worker.e hw,ge1,trivial⟩)
  rw[zC]at l;rw[qjn hw];exact l
 have l:=qao (P:=prog) (c:=(qaa f134 0)) (qaf 0) c.workers.length (fun i:Nat=>spec_CellsIn_L0 (c.graph.nodes.map Node.e) c.graph.workers c.graph.cap (c.workers.map Worker.e) (c.links.map Link.e) (c.tokens.map Token.e) (c.news.map News.e) i ((qcU f [] c.workers i).map Cell.e)) (fun i hi=>by
  obtain⟨w,hw⟩:=qal hi;exact spec_CellsIn_L0_s0 ⟨lt1 hi,inner i w hw,up1 hi hl,trivial⟩) (spec_CellsIn_L0_x1 ⟨ge1,trivial⟩)
 rw[qjo]at l;exact spec_CellsIn_p0 ⟨l,trivial⟩
end Go.Proofs.YtdkobdhckkjmeaaGreat
namespace Go.Proofs.YtdkobdhckkjmeaaGreat
open Go.Sx Go.RowKit Go.Proofs.Tryz
def qaN(g:Graph)(op:Int):Option Node:=if 0≤op then g.nodes[op.toNat]? else none
def isOut(g:Graph)(x:Cell):Bool:=match qaN g x.op with | some n=>n.kind==8 | none=>false
def outsOnly(g:Graph)(xs:List Cell):List Cell:=xs.filter (isOut g)
theorem qhD{g:Graph}{a:Int}{w:Node}(h:qaN g a=some w):0≤a∧a<(↑(g.nodes.map Node.e).length:Int)∧(g.nodes.map Node.e)[a.toNat]?=some w.e∧inR a 0 (↑(g.nodes.map Node.e).length-1)=true:=by
 unfold qaN at h;split at h
 ·have:=(zk.1 h).1;refine⟨‹_›,by simp;omega,by simp[h],?_⟩;simp only[inR,zb,zi];omega
 ·cases h
theorem qqL{g:Graph}{a:Int}(h:qaN g a=none):inR a 0 (↑(g.nodes.map Node.e).length-1)=false:=by
 unfold qaN at h;simp only[inR,zb,zf];split at h
 ·rw[List.getElem?_eq_none_iff]at h;omega
 ·omega
theorem qmt{g:Graph}{a:Int}{w:Node}(h:qaN g a=some w):w∈g.nodes:=by
 unfold qaN at h;split at h
 ·exact zw h
 ·cases h
theorem Graph.nodes_le{g:Graph}(h:g.sz≤8388608):g.nodes.length≤8388608:=by simp only[Graph.sz,szS]at h;omega
theorem Graph.outs_le{g:Graph}(h:g.sz≤8388608){w:Node}(hw:w∈g.nodes):w.outs.length≤8388608:=by
 have:=qjm (sz:=Node.sz) hw;simp only[Graph.sz,szS]at h;have h5:w.outs.length≤w.sz:=by simp only[Node.sz];omega
 omega
theorem qjC{g:Graph}(h:g.sz≤8388608):inInt .i64 ((↑(g.nodes.map Node.e).length:Int)-1):=by
 have:=Graph.nodes_le h;exact⟨by simp;omega,by simp;omega⟩
theorem qzp(g:Graph)(op:Int)(hg:g.sz≤8388608):Rt 250 [.agg g.e,.one (I op)] [.one (B (qaN g op).isSome)]:=by
 cases h:qaN g op with
 | none=>exact qqr ⟨qjC hg,qaP _ _ _ _ (qqL h),trivial⟩
 | some w=>exact qqr ⟨qjC hg,qaP _ _ _ _ (qhD h).2.2.2,trivial⟩
theorem qgn(g:Graph)(op:Int)(r:Bool)(h:(qaN g op).isSome=r)(hg:g.sz≤8388608):Rt 250 [.agg g.e,.one (I op)] [.one (B r)]:=h▸qzp g op hg
def qek(g:Graph)(op:Int):Node×Bool:=match qaN g op with | some n=>(n,true) | none=>(⟨0,0,0,[]⟩,false)
theorem qzq(n:Int):∀d∈eI n,∃x,d=.v x:=by
 intro d hd;simp only[eI,zL,zbu,or_false]at hd;subst hd;exact⟨_,rfl⟩
theorem qzr(g:Graph)(op:Int)(hg:g.sz≤8388608):Rt 248 [.agg g.e,.one (I op)] [.agg (qek g op).1.e,.one (B (qek g op).2)]:=by
 unfold qek;cases h:qaN g op with
 | none=>exact qyN ⟨qjC hg,qaL _ _ _ _ (qqL h),rfl,trivial⟩
 | some w=>
  obtain⟨h1,h2,h3,h4⟩:=qhD h;have ho:=Graph.outs_le hg (qmt h);exact qyO ⟨qjC hg,qaL _ _ _ _ h4,rfl,h1,h2,h3,by simp;omega,by simp;omega,qae _ qzq _,trivial⟩
theorem qjD(g:Graph)(op:Int)(r:Node×Bool)(h:qek g op=r)(hg:g.sz≤8388608):Rt 248 [.agg g.e,.one (I op)] [.agg r.1.e,.one (B r.2)]:=h▸qzr g op hg
theorem spec_OutsOnly_ret(g:Graph)(xs:List Cell)(hg:g.sz≤8388608)(hl:xs.length≤8388608):Rt 133 [.agg g.e,.one (.sl 4 (xs.map Cell.e))] [.one (.sl 4 ((outsOnly g xs).map Cell.e))]:=by
 have l:=qao (P:=prog) (c:=(qaa f133 0)) (qaf 0) xs.length (fun i:Nat=>spec_OutsOnly_L0 (xs.map Cell.e) i (((xs.take i).filter (isOut g)).map Cell.e) (g.nodes.map Node.e) g.workers g.cap) (fun i hi=>by
  obtain⟨a,ha⟩:=qal hi;have hf:=qjx (isOut g) xs i;have hs:=qe1 (isOut g) ha;cases h:qaN g a.op with
  | none=>
   have hp:isOut g a=false:=by simp[isOut,h]
   rw[zo (by simp[hp]),zaa]at hs;rw[hs];exact spec_OutsOnly_L0_s2 ⟨lt1 hi,lt0,lt2 hi,qac Cell.e ha,qjD g a.op _ (by unfold qek;rw[h]) hg,rfl,up1 hi hl,trivial⟩
  | some w=>
   have n:=qjD g a.op (w,true) (by unfold qek;rw[h]) hg;by_cases hk:(w.kind==8)=true
   ·have hp:isOut g a=true:=by simp only[isOut,h];exact hk
    rw[zp hp]at hs;rw[hs,zU];exact spec_OutsOnly_L0_s0 ⟨lt1 hi,lt0,lt2 hi,qac Cell.e ha,n,rfl,hk,lt0,lt2 hi,qac Cell.e ha,by simp;omega,by simp;omega,qat a.flat,up1 hi hl,trivial⟩
   ·have hp:isOut g a=false:=by simp only[isOut,h];simpa using hk
    rw[zo (by simp[hp]),zaa]at hs;rw[hs];exact spec_OutsOnly_L0_s1 ⟨lt1 hi,lt0,lt2 hi,qac Cell.e ha,n,rfl,by simpa using hk,up1 hi hl,trivial⟩) (spec_OutsOnly_L0_x3 ⟨ge1,trivial⟩)
 rw[zC]at l;exact spec_OutsOnly_p0 ⟨l,trivial⟩
def outCells(c:Cluster)(e:Int):List Cell:=(outsOnly c.graph (cellsIn c)).filter fun x=>x.epoch==e
theorem outsOnly_le{g:Graph}{xs:List Cell}(h:xs.length≤8388608):(outsOnly g xs).length≤8388608:=zce (zat ..) h
theorem outCells_le{c:Cluster}{e:Int}(h:c.sz≤8388608):(outCells c e).length≤8388608:=zce (zat ..) (outsOnly_le (cellsIn_le h))
theorem Cluster.graph_sz{c:Cluster}(h:c.sz≤8388608):c.graph.sz≤8388608:=by simp only[Cluster.sz]at h;omega
theorem spec_OutCells_ret(c:Cluster)(e:Int)(hc:c.sz≤8388608):Rt 23 [.agg c.e,.one (I e)] [.one (.sl 4 ((outCells c e).map Cell.e))]:=by
 have o:=spec_OutsOnly_ret c.graph (cellsIn c) (Cluster.graph_sz hc) (cellsIn_le hc);have hl:=outsOnly_le (g:=c.graph) (cellsIn_le hc);unfold outCells;generalize outsOnly c.graph (cellsIn c)=xs at*
 let p:=fun x:Cell=>x.epoch==e
 have l:=qao (P:=prog) (c:=(qaa f23 0)) (qaf 0) xs.length (fun i:Nat=>spec_OutCells_L0 e (xs.map Cell.e) i (((xs.take i).filter p).map Cell.e)) (fun i hi=>by
  obtain⟨a,ha⟩:=qal hi;have hf:=qjx p xs i;have hs:=qe1 p ha;by_cases hp:p a=true
  ·rw[zp hp]at hs;rw[hs,zU];exact spec_OutCells_L0_s0 ⟨lt1 hi,lt0,lt2 hi,qac Cell.e ha,hp,lt0,lt2 hi,qac Cell.e ha,by simp;omega,by simp;omega,qat a.flat,up1 hi hl,trivial⟩
  ·rw[zo hp,zaa]at hs;rw[hs];exact spec_OutCells_L0_s1 ⟨lt1 hi,lt0,lt2 hi,qac Cell.e ha,zQ.2 hp,up1 hi hl,trivial⟩) (spec_OutCells_L0_x2 ⟨ge1,trivial⟩)
 rw[zC]at l;exact spec_OutCells_p0 ⟨spec_CellsIn_ret c hc,o,l,trivial⟩
end Go.Proofs.YtdkobdhckkjmeaaGreat
