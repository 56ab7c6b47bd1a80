/- Produced, StepKind: what program and reference compute. -/
import Derived.Test.YtialmplmfcahpaaGreatP7
import Derived.Test.YtialmplmfcahpaaGreatP18
import Derived.Test.YtialmplmfcahpaaGreatC5
namespace Go.Proofs.YtialmplmfcahpaaGreat
open Go.Sx Go.RowKit Go.Sort
set_option linter.unusedVariables false
set_option linter.unusedSimpArgs false
def qa0 (c : Cluster) (p : Pick) : List Record :=
  if (qaC c p).2 then
    (if p.kind == 2 then [(qaC c p).1] else match qbD c p.a with | some w => (qbw c.graph w.cells (qaC c p).1).2.1 | none => [])
  else []
theorem qm1 {c : Cluster} {p : Pick} (h : (qaC c p).2 = true) : ∃ w, qbD c p.a = some w := by
  unfold qaC at h
  split at h
  · cases h
  · exact ⟨_, ‹_›⟩
theorem Worker.cells_le {w : Worker} (h : w.sz ≤ 1048576) : w.cells.length ≤ 1048576 := by simp only [Worker.sz] at h; omega
theorem Cluster.graph_sz' {c : Cluster} (h : c.sz ≤ 1048576) : c.graph.sz ≤ 1048576 := by simp only [Cluster.sz] at h; omega
theorem qjP {c : Cluster} {a : Int} {w : Worker} (h : qbD c a = some w) : w ∈ c.workers := by
  unfold qbD at h
  split at h
  · exact List.mem_of_getElem? h
  · cases h
theorem Cluster.worker_sz' {c : Cluster} (h : c.sz ≤ 1048576) {w : Worker} (hl : w ∈ c.workers) : w.sz ≤ 1048576 := by
  have := qcQ (sz := Worker.sz) hl
  simp only [Cluster.sz, szS] at h; omega
theorem qm2 (c : Cluster) (p : Pick) (hc : c.sz ≤ 1048576) : Ret Tryz.prog 15 [.agg c.e, .agg p.e] [.one (.sl 5 ((qa0 c p).map Record.e))] := by
  have cc := qmc c p hc
  unfold qa0
  have hw := fun h => qm1 (c := c) (p := p) h
  generalize qaC c p = x at *
  obtain ⟨r, b⟩ := x
  cases b with
  | false => exact qCy _ _ _ _ _ _ _ _ _ _ _ _ _ _ _ _ ⟨cc, rfl, trivial⟩
  | true =>
    cases hk : p.kind == 2 with
    | true => exact qCz _ _ _ _ _ _ _ _ _ _ _ _ _ _ _ _ ⟨cc, rfl, hk, trivial⟩
    | false =>
      obtain ⟨w, h⟩ := hw rfl
      obtain ⟨h1, h2, h3, _⟩ := qgC h
      have s := qB1 c.graph w.cells r (Cluster.graph_sz' hc) (Worker.cells_le (Cluster.worker_sz' hc (qjP h)))
      rw [h]
      exact qCA _ _ _ _ _ _ _ _ _ _ _ _ _ _ _ _ _ _ _ _ _ _ _ _ _ _ _ ⟨cc, rfl, hk, h1, h2, h3, s, trivial⟩
theorem qm3 (c : Cluster) (p : Pick) (hc : c.sz ≤ 1048576) : Ret Tryz.prog 18 [.agg c.e, .agg p.e] [.one (.sl 5 ((qa0 c p).map Record.e))] := by
  have cc := qmd c p hc
  unfold qa0
  have hw := fun h => qm1 (c := c) (p := p) h
  generalize qaC c p = x at *
  obtain ⟨r, b⟩ := x
  cases b with
  | false => exact qCB _ _ _ _ _ _ _ _ _ _ _ _ _ _ _ _ ⟨cc, rfl, trivial⟩
  | true =>
    cases hk : p.kind == 2 with
    | true => exact qCC _ _ _ _ _ _ _ _ _ _ _ _ _ _ _ _ ⟨cc, rfl, hk, trivial⟩
    | false =>
      obtain ⟨w, h⟩ := hw rfl
      obtain ⟨h1, h2, h3, _⟩ := qgC h
      have s := qB2 c.graph w.cells r (Cluster.graph_sz' hc) (Worker.cells_le (Cluster.worker_sz' hc (qjP h)))
      rw [h]
      exact qCD _ _ _ _ _ _ _ _ _ _ _ _ _ _ _ _ _ _ _ _ _ _ _ _ _ _ _ ⟨cc, rfl, hk, h1, h2, h3, s, trivial⟩
theorem qm4 (c : Cluster) (p : Pick) : (qa0 c p).length ≤ 2 := by
  unfold qa0
  split
  · split
    · simp
    · split
      · rename_i w h
        by_cases hg : qaE c.graph = true
        · exact (qB5 hg w.cells _).2
        · have e : (qbw c.graph w.cells (qaC c p).1).2.1 = [] := by
            unfold qbw
            split
            · unfold qar
              simp [hg]
            · rfl
          rw [e]; simp
      · simp
  · simp
end Go.Proofs.YtialmplmfcahpaaGreat
