/- The laws RunPicks, FairRound and FairRun answer true. -/
import Derived.Test.YtdanpadojemjeaaGreatP51
import Derived.Test.YtdanpadojemjeaaGreatP45
import Derived.Test.YtdanpadojemjeaaGreatGZ
set_option linter.unusedVariables false
set_option linter.unusedSimpArgs false
namespace Go.Proofs.YtdanpadojemjeaaGreat
open Go.Sx Go.RowKit
theorem nnn(n:Int):(n != n)=false:=by simp
theorem qPZ(c:Cluster)(hw:c.wf):Rt 8 [.agg c.e] [.one (B true)]:=by
 have r:=qg7 c 1048576 (by omega) (by omega) hw
 by_cases h:c.sz≤1048576
 ·rw[qaR (by omega)]at r
  have hb:c.sz≤8388608:=by omega
  have t:=qhj c hb
  have s:=qOl c (by omega) (GotLe.of hw)
  have m:=qr0 c (by omega) (GotLe.of hw)
  have hs:(qbk c).1.sz≤8388608:=by have:=qjq c;omega
  generalize qbk c=o at*
  obtain⟨o,b⟩:=o
  have tc:=Cluster.topNext_le c hb
  have tn:=Cluster.topNext_le o hs
  have eq:=qdC o o true (zap rfl) hs
  have hd:=qjt o 1 (by omega) tn.2 hs
  have ng:decide (o.topNext 1<0)=false:=dF (by omega)
  have ne:(o.topNext 1 != o.topNext 1)=false:=by simp
  exact qPS ⟨r,dF (by omega),t,s,t,m,eq,rfl,nnn _,t,qdC c c true (by simp) hb,rfl,qen c 1 (by omega) tc.2 hb,dF (by omega),eq,rfl,nnn _,qen o 1 (by omega) tn.2 hs,hd,ng,ne,t,m,eq,rfl,nnn _,hd,ng,ne,trivial⟩
 ·rw[qax (by omega)]at r
  exact qPR ⟨r,rfl,trivial⟩
end Go.Proofs.YtdanpadojemjeaaGreat
