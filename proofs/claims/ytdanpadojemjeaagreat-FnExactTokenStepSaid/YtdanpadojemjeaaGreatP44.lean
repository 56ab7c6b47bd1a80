/- HearNews: what program and reference compute. -/
import Derived.Test.YtdanpadojemjeaaGreatP43
import Derived.Test.YtdanpadojemjeaaGreatP40
import Derived.Test.YtdanpadojemjeaaGreatQ1
set_option linter.unusedVariables false
set_option linter.unusedSimpArgs false
namespace Go.Proofs.YtdanpadojemjeaaGreat
open Go.Sx Go.RowKit
def runD (c : Cluster) (b : Bool) : List D := [.sl 4 (c.graph.nodes.map Node.e), I c.graph.workers, I c.graph.cap, .sl 8 (c.workers.map Worker.e), .sl 6 (c.links.map Link.e), .sl 5 (c.tokens.map Token.e), .sl 3 (c.news.map News.e), B b]
abbrev runE (c : Cluster) : List D := runD c (qat c)
theorem qmS (w : Worker) (e : Int) (r : Bool) (h : qbE w e = r) (hw : w.sz ≤ 8388608) : Rt 66 [.agg w.e, .one (I e)] [.one (B r)] := h ▸ qt0 w e hw
theorem qCr (c : Cluster) (hc : c.sz ≤ 8388608) (hw : GotLe c) : RetR Tryz.prog 55 [.ro (.agg c.e)] (.new (runE c)) :=
  qut ⟨qvs c hc, qBU c hc hw, trivial⟩
theorem qCs {α : Type} {f : α → List D} {xs : List α} {i : Nat} {a : α} : (xs.map f).set i (f a) = (xs.set i a).map f := List.map_set.symm
theorem qe3 {c : Cluster} {i : Int} {x : Worker} (h : wAt c i = some x) : 0 ≤ i ∧ i < (↑(c.workers.map Worker.e).length : Int) ∧ (c.workers.map Worker.e)[i.toNat]? = some x.e := by
  obtain ⟨h1, h2, h3⟩ := qd5 h
  exact ⟨h1, by rw [List.length_map]; omega, qad Worker.e h3⟩
theorem qe4 {c : Cluster} {i : Int} {x : Worker} (h : wAt c i = some x) (hc : c.sz ≤ 8388608) : x.sz ≤ 8388608 := Cluster.worker_sz1 hc (qap (qd5 h).2.2)
end Go.Proofs.YtdanpadojemjeaaGreat
