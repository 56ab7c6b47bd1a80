/- The laws RunPicks, FairRound and FairRun answer true. -/
import Derived.Test.YtdanpadojemjeaaGreatP51
import Derived.Test.YtdanpadojemjeaaGreatP45
import Derived.Test.YtdanpadojemjeaaGreatGZ
set_option linter.unusedVariables false
set_option linter.unusedSimpArgs false
namespace Go.Proofs.YtdanpadojemjeaaGreat
open Go.Sx Go.RowKit
theorem nnn(n:Int):(n != n)=false:=by simp
theorem qPY(c:Cluster)(most:Int):(qdw c most).1.sz≤c.sz+1200000:=by
 obtain⟨m,hm,hb⟩:=qmg most
 unfold qdw
 rw[hm,zae]
 have:=qr1 m c 0
 omega
theorem qP0(c:Cluster)(most:Int)(hw:c.wf):Rt 9 [.agg c.e,.one (I most)] [.one (B true)]:=by
 have r:=qg7 c 1048576 (by omega) (by omega) hw
 by_cases h:c.sz≤1048576
 ·rw[qaR (by omega)]at r
  have hb:c.sz≤8388608:=by omega
  have t:=qhj c hb
  have s:=qOm c most (by omega) (GotLe.of hw)
  have m:=qOn c most (by omega) (GotLe.of hw)
  have hs:(qdw c most).1.sz≤8388608:=by have:=qPY c most;omega
  generalize qdw c most=o at*
  obtain⟨o,b⟩:=o
  have tc:=Cluster.topNext_le c hb
  have tn:=Cluster.topNext_le o hs
  have eq:=qdC o o true (zap rfl) hs
  have hd:=qjt o 1 (by omega) tn.2 hs
  have ng:decide (o.topNext 1<0)=false:=dF (by omega)
  have ne:(o.topNext 1 != o.topNext 1)=false:=by simp
  exact qPU ⟨r,dF (by omega),t,s,t,m,eq,rfl,nnn _,t,qdC c c true (by simp) hb,rfl,qen c 1 (by omega) tc.2 hb,dF (by omega),eq,rfl,nnn _,qen o 1 (by omega) tn.2 hs,hd,ng,ne,t,m,eq,rfl,nnn _,hd,ng,ne,trivial⟩
 ·rw[qax (by omega)]at r
  exact qPT ⟨r,rfl,trivial⟩
end Go.Proofs.YtdanpadojemjeaaGreat
