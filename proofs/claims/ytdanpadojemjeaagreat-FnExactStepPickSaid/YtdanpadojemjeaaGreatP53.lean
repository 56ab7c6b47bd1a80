/- The laws StepPick and CanMove answer true. -/
import Derived.Test.YtdanpadojemjeaaGreatP51
import Derived.Test.YtdanpadojemjeaaGreatP45
set_option linter.unusedVariables false
set_option linter.unusedSimpArgs false
namespace Go.Proofs.YtdanpadojemjeaaGreat
open Go.Sx Go.RowKit
theorem qMw(c:Cluster)(p:Pick)(hw:c.wf)(_:p.wf):Rt 6 [.agg c.e,.agg p.e] [.one (B true)]:=by
 have r:=qtI c 1048576 (by omega) (by omega) hw
 by_cases h:c.sz≤1048576
 ·rw[qa3 (by omega)]at r
  have hb:c.sz≤8388608:=by omega
  have t:=qt1 c hb
  have tp:=qtT p
  have s:=qLc c p hb (GotLe.of hw)
  have m:=qLb c p hb (GotLe.of hw)
  have hs:(stepPick c p).1.sz≤8388608:=by have:=qIW c p;omega
  generalize stepPick c p=o at*
  obtain⟨o,b⟩:=o
  have tc:=Cluster.topNext_le c hb
  have tn:=Cluster.topNext_le o hs
  have eq:=qnw o o true (zav rfl) hs
  have hd:=qMt o 1 (by omega) tn.2 hs
  have ng:decide (o.topNext 1<0)=false:=dF (by omega)
  have ne:(o.topNext 1 != o.topNext 1)=false:=by simp
  exact qMv ⟨r,dF (by omega),t,tp,s,t,tp,m,eq,rfl,nbb b,t,qnw c c true (by simp) hb,rfl,qqq c 1 (by omega) tc.2 hb,dF (by omega),eq,rfl,nbb b,qqq o 1 (by omega) tn.2 hs,hd,ng,ne,t,tp,m,eq,rfl,nbb b,hd,ng,ne,trivial⟩
 ·rw[qaD (by omega)]at r
  exact qMu ⟨r,rfl,trivial⟩
end Go.Proofs.YtdanpadojemjeaaGreat
