/- DoneOf: what program and reference compute. -/
import Derived.Test.YtdanpadojemjeaaGreatB0
import Derived.Test.YtdanpadojemjeaaGreatGN
set_option linter.unusedVariables false
set_option linter.unusedSimpArgs false
namespace Go.Proofs.YtdanpadojemjeaaGreat
open Go.Sx Go.RowKit Go.Proofs.Tryz
def qb1(x:Worker)(e:Int):Done×Bool:=
 match x.dones.find? (fun d=>d.epoch==e) with
 | some d=>(d,true)
 | none=>(⟨0,false⟩,false)
theorem qLS(x:Worker)(e:Int)(hx:x.sz≤8388608):Rt 99 [.agg x.e,.one (I e)] [.agg (qb1 x e).1.e,.one (B (qb1 x e).2)]:=by
 have hl:x.dones.length≤8388608:=by simp only[Worker.sz]at hx;omega
 let st:=fun i:Nat=>qeN e i 0 false (x.queue.map Record.e) (x.staged.map Record.e) (x.inputs.map Record.e) (x.cells.map Cell.e) (x.sums.map eI) (x.black.map eB) (x.caps.map eB) (x.dones.map Done.e)
 have step:∀i,i<x.dones.length→(∀b,x.dones[i]?=some b→(b.epoch==e)=false)→Tr prog (qaa f99 0) (st i) .normal (st (i+1)):=by
  intro i hi h
  obtain⟨a,ha⟩:=qai hi
  exact qvo ⟨lt1 hi,lt0,lt2 hi,qac Done.e ha,h a ha,up1 hi hl,trivial⟩
 rcases qh7 (fun d:Done=>d.epoch==e) x.dones with⟨h1,h2⟩ | ⟨i,a,h1,h2,h3,h4⟩
 ·simp only[qb1,h1]
  have l:=qan (qaf 0) x.dones.length st (fun i hi=>step i hi fun b hb=>h2 b (qar hb)) (qvp ⟨ge1,trivial⟩)
  exact qvr ⟨l,trivial⟩
 ·simp only[qb1,h3]
  have hi:=lt_of h1
  have l:=qan qat i st (fun j hj=>step j (by omega) fun b hb=>h4 j b hj hb) (qvn ⟨lt1 hi,lt0,lt2 hi,qac Done.e h1,h2,lt0,lt2 hi,qac Done.e h1,trivial⟩)
  exact qvq ⟨l,trivial⟩
theorem qLT(x:Worker)(e:Int)(hx:x.sz≤8388608):Rt 104 [.agg x.e,.one (I e)] [.agg (qb1 x e).1.e,.one (B (qb1 x e).2)]:=by
 have hl:x.dones.length≤8388608:=by simp only[Worker.sz]at hx;omega
 let st:=fun i:Nat=>qeO (x.dones.map Done.e) e i 0 false
 have step:∀i,i<x.dones.length→(∀b,x.dones[i]?=some b→(b.epoch==e)=false)→Tr prog (qaa f104 0) (st i) .normal (st (i+1)):=by
  intro i hi h
  obtain⟨a,ha⟩:=qai hi
  exact qvt ⟨lt1 hi,lt0,lt2 hi,qac Done.e ha,h a ha,up1 hi hl,trivial⟩
 rcases qh7 (fun d:Done=>d.epoch==e) x.dones with⟨h1,h2⟩ | ⟨i,a,h1,h2,h3,h4⟩
 ·simp only[qb1,h1]
  have l:=qan (qaf 0) x.dones.length st (fun i hi=>step i hi fun b hb=>h2 b (qar hb)) (qvu ⟨ge1,trivial⟩)
  exact qvw ⟨l,trivial⟩
 ·simp only[qb1,h3]
  have hi:=lt_of h1
  have l:=qan qat i st (fun j hj=>step j (by omega) fun b hb=>h4 j b hj hb) (qvs ⟨lt1 hi,lt0,lt2 hi,qac Done.e h1,h2,trivial⟩)
  exact qvv ⟨l,trivial⟩
end Go.Proofs.YtdanpadojemjeaaGreat
