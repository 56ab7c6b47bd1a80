/- The law FairResult answers true. -/
import Derived.Test.YtdanpadojemjeaaGreatP57
import Derived.Test.YtdanpadojemjeaaGreatT6
import Derived.Test.YtdanpadojemjeaaGreatGZ
set_option linter.unusedVariables false
set_option linter.unusedSimpArgs false
namespace Go.Proofs.YtdanpadojemjeaaGreat
open Go.Sx Go.RowKit Go.Proofs.Tryz
theorem bnb(b:Bool):(!(b==b))=false:=by cases b<;>rfl
theorem qMn(g:Graph)(xs:List Record)(e:Int)(hw:g.wf)(hl:(xs.length:Int)≤9223372036854775807)(_:∀x∈xs,x.wf):Rt 10 [.agg g.e,.one (.sl 5 (xs.map Record.e)),.one (I e)] [.one (B true)]:=by
 have r:=qs5 g 1048576 (by omega) (by omega) hw
 by_cases h:g.sz≤1048576
 ·rw[qdN (by omega)]at r
  have r2:=qs3 xs ((1048576:Int)-g.sz) (by omega) (by omega) hl
  by_cases h2:(xs.length:Int)≤(1048576:Int)-g.sz
  ·rw[qdN h2]at r2
   have hb:g.sz≤8388608:=by omega
   have hlb:xs.length≤8388608:=by omega
   have t:=qtp g hb
   have tx:=qtm xs hlb
   have s:=qLU g xs e (by omega)
   have m:=qLV g xs e (by omega)
   have ho:=qLW g xs e (by omega)
   generalize qcb g xs e=o at*
   obtain⟨o,b⟩:=o
   dsimp only at s m ho
   have f0:=qbO Node.cb Node.next_le g.nodes 1
   have g0:=qrl Node.cb Node.sz Node.cb_le g.nodes
   have hz:=hb
   simp only[Graph.sz,szS]at hz
   have f1:=qbO Record.cb Record.next_le xs (nextL Node.next 1 g.nodes)
   rw[Record.cb_sum]at f1
   have tn:=qMh o ho
   have eq:=quh o o true (zap rfl) ho
   have hd:=qMi o 1 (by omega) tn.2 ho
   have ng:decide (nextL Cell.next 1 o<0)=false:=dF (by omega)
   have ne:(nextL Cell.next 1 o != nextL Cell.next 1 o)=false:=by simp
   have mg:RetG prog 47 [.agg [.gv 4 (g.nodes.map Node.e) (some ((markL Node.mark Node.next 1 g.nodes).map Node.e)),.ro (I g.workers),.ro (I g.cap)],.one (.ro (I 1))] [.one (I (nextL Node.next 1 g.nodes))]:=
    qL9 ⟨qMj g.nodes 1 (by omega) (by omega) (by omega) (fun x hx=>by have:=qeA (sz:=Node.sz) hx;omega),trivial⟩
   exact qMm ⟨r,dF (by omega),r2,dF (by omega),t,tx,s,t,tx,m,eq,rfl,bnb b,t,qul g g true (by simp) hb,rfl,tx,que xs xs true (by simp) hlb,rfl,mg,qMf xs _ (by omega) (by omega) hlb,dF (by omega),eq,rfl,bnb b,qMg o 1 (by omega) tn.2 ho,hd,ng,ne,t,tx,m,eq,rfl,bnb b,hd,ng,ne,trivial⟩
  ·rw[qds (by omega)]at r2
   exact qMl ⟨r,dF (by omega),r2,rfl,trivial⟩
 ·rw[qds (by omega)]at r
  exact qMk ⟨r,rfl,trivial⟩
end Go.Proofs.YtdanpadojemjeaaGreat
