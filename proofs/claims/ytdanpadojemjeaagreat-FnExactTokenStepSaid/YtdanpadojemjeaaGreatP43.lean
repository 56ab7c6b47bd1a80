/- The copies of nodes, graphs, links, workers and clusters: what program and reference hand back is what came in. -/
import Derived.Test.YtdanpadojemjeaaGreatP11
import Derived.Test.YtdanpadojemjeaaGreatP9
import Derived.Test.YtdanpadojemjeaaGreatGV
set_option linter.unusedVariables false
set_option linter.unusedSimpArgs false
namespace Go.Proofs.YtdanpadojemjeaaGreat
open Go.Sx Go.RowKit
theorem flatI (xs : List Int) : Flat (xs.map eI) := qbj eI (fun _ _ hd => ⟨_, List.mem_singleton.1 hd⟩) xs
theorem flatB (xs : List Bool) : Flat (xs.map eB) := qbj eB (fun _ _ hd => ⟨_, List.mem_singleton.1 hd⟩) xs
theorem Done.flat (r : Done) : ∀ d ∈ r.e, ∃ x, d = .v x := by
  intro d hd
  simp only [Done.e, List.mem_cons, List.not_mem_nil, or_false] at hd
  rcases hd with rfl | rfl <;> exact ⟨_, rfl⟩
theorem News.flat (r : News) : ∀ d ∈ r.e, ∃ x, d = .v x := by
  intro d hd
  simp only [News.e, List.mem_cons, List.not_mem_nil, or_false] at hd
  rcases hd with rfl | rfl | rfl <;> exact ⟨_, rfl⟩
theorem Token.flat (r : Token) : ∀ d ∈ r.e, ∃ x, d = .v x := by
  intro d hd
  simp only [Token.e, List.mem_cons, List.not_mem_nil, or_false] at hd
  rcases hd with rfl | rfl | rfl | rfl | rfl <;> exact ⟨_, rfl⟩
theorem qeT {α : Type} {f : α → List D} {xs : List α} {i : Nat} {a : α} (h : xs[i]? = some a) : (xs.take (i + 1)).map f = (xs.take i).map f ++ [f a] := by simp [List.take_add_one, h]
theorem nl (l : List (List D)) {k m : Nat} (h : l.length * k ≤ m) : (([] : List (List D)).length + l.length) * k ≤ m := by simpa using h
theorem nl1 (l : List (List D)) {m : Nat} (h : l.length ≤ m) : ([] : List (List D)).length + l.length ≤ m := by simpa using h
theorem Graph.node_sz1 {g : Graph} (h : g.sz ≤ 8388608) {x : Node} (hx : x ∈ g.nodes) : x.sz ≤ 8388608 := qbD (sz := Node.sz) (xs := g.nodes) (m := 8388608) (by simp only [Graph.sz] at h; omega) hx
theorem Graph.nodes_le1 {g : Graph} (h : g.sz ≤ 8388608) : g.nodes.length ≤ 8388608 := by simp only [Graph.sz, szS] at h; omega
theorem Cluster.worker_sz1 {c : Cluster} (h : c.sz ≤ 8388608) {w : Worker} (hw : w ∈ c.workers) : w.sz ≤ 8388608 := qbD (sz := Worker.sz) (xs := c.workers) (m := 8388608) (by simp only [Cluster.sz] at h; omega) hw
theorem Cluster.link_sz1 {c : Cluster} (h : c.sz ≤ 8388608) {w : Link} (hw : w ∈ c.links) : w.sz ≤ 8388608 := qbD (sz := Link.sz) (xs := c.links) (m := 8388608) (by simp only [Cluster.sz] at h; omega) hw
theorem Cluster.graph_sz1 {c : Cluster} (h : c.sz ≤ 8388608) : c.graph.sz ≤ 8388608 := by simp only [Cluster.sz] at h; omega
theorem qvk (x : Node) (h : x.sz ≤ 8388608) : Rt 194 [.agg x.e] [.agg x.e] := by
  simp only [Node.sz] at h
  exact qt7 ⟨nl _ (by simp; omega), nl1 _ (by simp; omega), flatI _, trivial⟩
theorem qvl (x : Link) (h : x.sz ≤ 8388608) : Rt 121 [.agg x.e] [.agg x.e] :=
  qub ⟨qgA x.queue h, trivial⟩
theorem qvm (x : Link) (h : x.sz ≤ 8388608) : Rt 186 [.agg x.e] [.agg x.e] := by
  simp only [Link.sz] at h
  exact qui ⟨nl _ (by simp; omega), nl1 _ (by simp; omega), qbj _ Record.flat _, trivial⟩
theorem qvn (x : Worker) (h : x.sz ≤ 8388608) : Rt 120 [.agg x.e] [.agg x.e] := by
  simp only [Worker.sz] at h
  exact quc ⟨qgA x.queue (by omega), qgA x.staged (by omega), qgA x.inputs (by omega), qt3 x.cells (by omega), nl _ (by simp; omega), nl1 _ (by simp; omega), flatI _, nl _ (by simp; omega), nl1 _ (by simp; omega), flatB _, nl _ (by simp; omega), nl1 _ (by simp; omega), flatB _, nl _ (by simp; omega), nl1 _ (by simp; omega), qbj _ Done.flat _, trivial⟩
theorem qvo (x : Worker) (h : x.sz ≤ 8388608) : Rt 185 [.agg x.e] [.agg x.e] := by
  simp only [Worker.sz] at h
  exact qum ⟨nl _ (by simp; omega), nl1 _ (by simp; omega), qbj _ Record.flat _, nl _ (by simp; omega), nl1 _ (by simp; omega), qbj _ Record.flat _, nl _ (by simp; omega), nl1 _ (by simp; omega), qbj _ Record.flat _, nl _ (by simp; omega), nl1 _ (by simp; omega), qbj _ Cell.flat _, nl _ (by simp; omega), nl1 _ (by simp; omega), flatI _, nl _ (by simp; omega), nl1 _ (by simp; omega), flatB _, nl _ (by simp; omega), nl1 _ (by simp; omega), flatB _, nl _ (by simp; omega), nl1 _ (by simp; omega), qbj _ Done.flat _, trivial⟩
theorem qvp (g : Graph) (hg : g.sz ≤ 8388608) : Rt 119 [.agg g.e] [.agg g.e] := by
  have hn := Graph.nodes_le1 hg
  have l := qaj (P := Tryz.prog) (c := (qaa Tryz.f119 0)) (qaf 0) g.nodes.length (fun i : Nat => qfp (g.nodes.map Node.e) i ((g.nodes.take i).map Node.e) g.workers g.cap 0 0) (fun i hi => by
    obtain ⟨a, ha⟩ := qae hi
    rw [qeT ha]
    exact qt8 ⟨lt1 hi, lt0, lt2 hi, qac Node.e ha, qvk a (Graph.node_sz1 hg (qap ha)), by simp; omega, by simp; omega, up1 hi hn, trivial⟩) (qt9 ⟨ge1, trivial⟩)
  rw [List.take_length] at l
  exact qua ⟨l, trivial⟩
theorem qvq (g : Graph) (hg : g.sz ≤ 8388608) : Rt 165 [.agg g.e] [.agg g.e] := by
  have hn := Graph.nodes_le1 hg
  have l := qaj (P := Tryz.prog) (c := (qaa Tryz.f165 0)) (qaf 0) g.nodes.length (fun i : Nat => qfs i ((g.nodes.take i).map Node.e) g.workers g.cap 0 0 (g.nodes.map Node.e) g.workers g.cap) (fun i hi => by
    obtain ⟨a, ha⟩ := qae hi
    have hs := Graph.node_sz1 hg (qap ha)
    simp only [Node.sz] at hs
    rw [qeT ha]
    exact quj ⟨lt1 hi, lt0, lt2 hi, qac Node.e ha, nl _ (by simp; omega), nl1 _ (by simp; omega), flatI _, by simp; omega, by simp; omega, up1 hi hn, trivial⟩) (quk ⟨ge1, trivial⟩)
  rw [List.take_length] at l
  exact qul ⟨l, trivial⟩
theorem qvr (c : Cluster) (hc : c.sz ≤ 8388608) : Rt 61 [.agg c.e] [.agg c.e] := by
  have hw := Cluster.wlen_le hc
  have hl := Cluster.llen_le hc
  have ht : c.tokens.length ≤ 8388608 := by simp only [Cluster.sz, szS] at hc; omega
  have hx : c.news.length ≤ 8388608 := by simp only [Cluster.sz, szS] at hc; omega
  have l0 := qaj (P := Tryz.prog) (c := (qaa Tryz.f61 0)) (qaf 0) c.workers.length (fun i : Nat => qfq (c.workers.map Worker.e) i (c.graph.nodes.map Node.e) c.graph.workers c.graph.cap ((c.workers.take i).map Worker.e) (c.tokens.map Token.e) (c.news.map News.e) 0 0 (c.graph.nodes.map Node.e) c.graph.workers c.graph.cap (c.workers.map Worker.e) (c.links.map Link.e) (c.tokens.map Token.e) (c.news.map News.e)) (fun i hi => by
    obtain ⟨a, ha⟩ := qae hi
    rw [qeT ha]
    exact qud ⟨lt1 hi, lt0, lt2 hi, qac Worker.e ha, qvn a (Cluster.worker_sz1 hc (qap ha)), by simp; omega, by simp; omega, up1 hi hw, trivial⟩) (que ⟨ge1, trivial⟩)
  have l1 := qaj (P := Tryz.prog) (c := (qaa Tryz.f61 1)) (qaf 2) c.links.length (fun i : Nat => qfr (c.links.map Link.e) i (c.graph.nodes.map Node.e) c.graph.workers c.graph.cap (c.workers.map Worker.e) ((c.links.take i).map Link.e) (c.tokens.map Token.e) (c.news.map News.e) 0 0) (fun i hi => by
    obtain ⟨a, ha⟩ := qae hi
    rw [qeT ha]
    exact quf ⟨lt1 hi, lt0, lt2 hi, qac Link.e ha, qvl a (Cluster.link_sz1 hc (qap ha)), by simp; omega, by simp; omega, up1 hi hl, trivial⟩) (qug ⟨ge1, trivial⟩)
  rw [List.take_length] at l0 l1
  exact quh ⟨qvp c.graph (Cluster.graph_sz1 hc), nl _ (by simp; omega), nl1 _ (by simp; omega), qbj _ Token.flat _, nl _ (by simp; omega), nl1 _ (by simp; omega), qbj _ News.flat _, l0, l1, trivial⟩
theorem qvs (c : Cluster) (hc : c.sz ≤ 8388608) : Rt 112 [.agg c.e] [.agg c.e] := by
  have hw := Cluster.wlen_le hc
  have hl := Cluster.llen_le hc
  have ht : c.tokens.length ≤ 8388608 := by simp only [Cluster.sz, szS] at hc; omega
  have hx : c.news.length ≤ 8388608 := by simp only [Cluster.sz, szS] at hc; omega
  have l0 := qaj (P := Tryz.prog) (c := (qaa Tryz.f112 0)) (qaf 0) c.workers.length (fun i : Nat => qft i (c.graph.nodes.map Node.e) c.graph.workers c.graph.cap ((c.workers.take i).map Worker.e) (c.tokens.map Token.e) (c.news.map News.e) 0 0 (c.graph.nodes.map Node.e) c.graph.workers c.graph.cap (c.workers.map Worker.e) (c.links.map Link.e) (c.tokens.map Token.e) (c.news.map News.e)) (fun i hi => by
    obtain ⟨a, ha⟩ := qae hi
    rw [qeT ha]
    exact qun ⟨lt1 hi, lt0, lt2 hi, qac Worker.e ha, qvo a (Cluster.worker_sz1 hc (qap ha)), by simp; omega, by simp; omega, up1 hi hw, trivial⟩) (qup ⟨ge1, trivial⟩)
  have l1 := qaj (P := Tryz.prog) (c := (qaa Tryz.f112 1)) (qaf 2) c.links.length (fun i : Nat => qfu i (c.graph.nodes.map Node.e) c.graph.workers c.graph.cap (c.workers.map Worker.e) ((c.links.take i).map Link.e) (c.tokens.map Token.e) (c.news.map News.e) 0 0 (c.graph.nodes.map Node.e) c.graph.workers c.graph.cap (c.workers.map Worker.e) (c.links.map Link.e) (c.tokens.map Token.e) (c.news.map News.e)) (fun i hi => by
    obtain ⟨a, ha⟩ := qae hi
    rw [qeT ha]
    exact quq ⟨lt1 hi, lt0, lt2 hi, qac Link.e ha, qvm a (Cluster.link_sz1 hc (qap ha)), by simp; omega, by simp; omega, up1 hi hl, trivial⟩) (qur ⟨ge1, trivial⟩)
  rw [List.take_length] at l0 l1
  exact qus ⟨qvq c.graph (Cluster.graph_sz1 hc), nl _ (by simp; omega), nl1 _ (by simp; omega), qbj _ Token.flat _, nl _ (by simp; omega), nl1 _ (by simp; omega), qbj _ News.flat _, l0, l1, trivial⟩
end Go.Proofs.YtdanpadojemjeaaGreat
