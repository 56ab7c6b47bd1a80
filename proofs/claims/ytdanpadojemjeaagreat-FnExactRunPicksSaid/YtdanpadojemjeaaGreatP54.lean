/- The laws RunPicks, FairRound and FairRun answer true. -/
import Derived.Test.YtdanpadojemjeaaGreatP51
import Derived.Test.YtdanpadojemjeaaGreatP45
import Derived.Test.YtdanpadojemjeaaGreatGZ
set_option linter.unusedVariables false
set_option linter.unusedSimpArgs false
namespace Go.Proofs.YtdanpadojemjeaaGreat
open Go.Sx Go.RowKit
theorem Cluster.topNext_lo(c:Cluster)(hc:c.sz≤8388608):1≤c.topNext 1∧c.topNext 1≤900000000000:=by
 have f0:=qav Node.cb Node.next_le c.graph.nodes 1
 have g0:=qfN Node.cb Node.sz Node.cb_le c.graph.nodes
 have f1:=qav Worker.cb Worker.next_le c.workers (nextL Node.next 1 c.graph.nodes)
 have g1:=qfN Worker.cb Worker.sz Worker.cb_le c.workers
 have f2:=qav Link.cb Link.next_le c.links (nextL Worker.next (nextL Node.next 1 c.graph.nodes) c.workers)
 have g2:=qfN Link.cb Link.sz Link.cb_le c.links
 have f3:=qav Token.cb Token.next_le c.tokens (nextL Link.next (nextL Worker.next (nextL Node.next 1 c.graph.nodes) c.workers) c.links)
 rw[Token.cb_sum]at f3
 have f4:=qav News.cb News.next_le c.news (nextL Token.next (nextL Link.next (nextL Worker.next (nextL Node.next 1 c.graph.nodes) c.workers) c.links) c.tokens)
 rw[News.cb_sum]at f4
 simp only[Cluster.sz,Graph.sz,szS]at hc
 unfold Cluster.topNext
 omega
theorem qPV(l:List Pick)(k:Int)(hl:l.length≤8388608)(hk:k≤900000000000):k≤nextL Pick.next k l∧nextL Pick.next k l≤1000000000000:=by
 have f:=qav Pick.cb Pick.next_le l k
 rw[Pick.cb_sum]at f
 omega
theorem qPW(l:List Bool)(k:Int)(hl:l.length≤8388608)(hk:k≤900000000000):k≤nextL nB k l∧nextL nB k l≤1000000000000:=by
 have f:=qav (fun _=>1) nB_le l k
 rw[qdc]at f
 omega
theorem qPX(c:Cluster)(l:List Pick)(hw:c.wf)(hl:(l.length:Int)≤9223372036854775807)(_:∀a∈l,a.wf):Rt 7 [.agg c.e,.one (.sl 3 (l.map Pick.e))] [.one (B true)]:=by
 have r:=qg7 c 1048576 (by omega) (by omega) hw
 by_cases h:c.sz≤1048576
 ·rw[qaR (by omega)]at r
  have r2:=quL l ((1048576:Int)-c.sz) (by omega) (by omega) hl
  by_cases h2:(l.length:Int)≤(1048576:Int)-c.sz
  ·rw[qaR h2]at r2
   have hb:c.sz≤8388608:=by omega
   have hlb:l.length≤8388608:=by omega
   have t:=qhj c hb
   have tp:=qvJ l hlb
   have s:=qOj c l (by omega) (GotLe.of hw)
   have m:=qrX c l (by omega) (GotLe.of hw)
   have hs:(qao c l).1.sz≤8388608:=by have:=qjp l c;omega
   have hn:(qao c l).2.length≤8388608:=by have:=qgC l c;omega
   generalize qao c l=o at*
   obtain⟨o,b⟩:=o
   dsimp only at hs hn s m
   have tc:=Cluster.topNext_lo c hb
   have tn:=Cluster.topNext_lo o hs
   have pn:=qPV l _ hlb tc.2
   have bn:=qPW b _ hn tn.2
   have eq:=qdC o o true (zap rfl) hs
   have eb:=qdW b b true (zap rfl) hn
   have hd:=qjt o 1 (by omega) (by omega) hs
   have hdb:=qmw b (o.topNext 1) (by omega) bn.2 hn
   have ng:decide (o.topNext 1<0)=false:=dF (by omega)
   have nb:decide (nextL nB (o.topNext 1) b<0)=false:=dF (by omega)
   have ne:(nextL nB (o.topNext 1) b != nextL nB (o.topNext 1) b)=false:=by simp
   exact qPQ ⟨r,dF (by omega),r2,dF (by omega),t,tp,s,t,tp,m,eq,rfl,eb,rfl,t,qdC c c true (by simp) hb,rfl,tp,qx9 l l true (by simp) hlb,rfl,qen c 1 (by omega) (by omega) hb,qPD l _ (by omega) pn.2 hlb,dF (by omega),eq,rfl,eb,rfl,qen o 1 (by omega) (by omega) hs,qmv b _ (by omega) bn.2 hn,hd,ng,hdb,nb,ne,t,tp,m,eq,rfl,eb,rfl,hd,ng,hdb,nb,ne,trivial⟩
  ·rw[qax (by omega)]at r2
   exact qPP ⟨r,dF (by omega),r2,rfl,trivial⟩
 ·rw[qax (by omega)]at r
  exact qPO ⟨r,rfl,trivial⟩
end Go.Proofs.YtdanpadojemjeaaGreat
