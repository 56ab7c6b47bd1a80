/- Orders of stamps and records, SortRecords, PendingAll, PendingOf: what program and reference compute. -/
import Derived.Test.YtdanpadojemjeaaGreatC0
import Derived.Test.YtdanpadojemjeaaGreatGU
set_option linter.unusedVariables false
set_option linter.unusedSimpArgs false
namespace Go.Proofs.YtdanpadojemjeaaGreat
open Go.Sx Go.RowKit Go.Sort
theorem qgA (xs : List Record) (hl : xs.length ≤ 8388608) : Rt 195 [.one (.sl 5 (xs.map Record.e))] [.one (.sl 5 (xs.map Record.e))] :=
  qs2 ⟨by simp; omega, by simp; omega, qbj _ Record.flat _, trivial⟩
theorem Cluster.wlen_le {c : Cluster} (h : c.sz ≤ 8388608) : c.workers.length ≤ 8388608 := by simp only [Cluster.sz, szS] at h; omega
theorem Cluster.llen_le {c : Cluster} (h : c.sz ≤ 8388608) : c.links.length ≤ 8388608 := by simp only [Cluster.sz, szS] at h; omega
end Go.Proofs.YtdanpadojemjeaaGreat
namespace Go.Proofs.YtdanpadojemjeaaGreat
open Go.Sx Go.RowKit
def qbE (w : Worker) (e : Int) : Bool := w.dones.any fun d => d.epoch == e
theorem Worker.dones_le {w : Worker} (h : w.sz ≤ 8388608) : w.dones.length ≤ 8388608 := by simp only [Worker.sz] at h; omega
theorem Cluster.worker_sz {c : Cluster} (h : c.sz ≤ 8388608) {w : Worker} (hl : w ∈ c.workers) : w.sz ≤ 8388608 := by
  have := qcj (sz := Worker.sz) hl
  simp only [Cluster.sz, szS] at h; omega
theorem qtZ (w : Worker) (e : Int) (hw : w.sz ≤ 8388608) : Rt 114 [.agg w.e, .one (I e)] [.one (B (qbE w e))] := by
  have hl := Worker.dones_le hw
  have l := qaV (P := Tryz.prog) (c := (qaa Tryz.f114 0)) w.dones (fun d => d.epoch == e) (fun i => qdS (w.queue.map Record.e) (w.staged.map Record.e) (w.inputs.map Record.e) (w.cells.map Cell.e) (w.sums.map eI) (w.black.map eB) (w.caps.map eB) (w.dones.map Done.e) e i) (X := fun _ _ => qiE true) qao (qaf 0)
    (fun i a ha h => qtt ⟨lt1 (lt_of ha), lt0, lt2 (lt_of ha), qac Done.e ha, h, up1 (lt_of ha) hl, trivial⟩)
    (fun i a ha h => qts ⟨lt1 (lt_of ha), lt0, lt2 (lt_of ha), qac Done.e ha, h, trivial⟩)
    (qtu ⟨ge1, trivial⟩)
  unfold qbE
  rcases l with ⟨_, _, h1, h2⟩ | ⟨i, a, _, _, _, _, h1, h2⟩
  · rw [h1]; exact qtw ⟨h2, trivial⟩
  · rw [h1]; exact qtv ⟨h2, trivial⟩
theorem ql0 (xs : List Done) (e : Int) (hl : xs.length ≤ 8388608) : Rt 126 [.one (.sl 2 (xs.map Done.e)), .one (I e)] [.one (B (xs.any fun d => d.epoch == e))] :=
  qtx ⟨qtR xs (fun d => d.epoch == e) _ _ hl (by kernel_rfl) (fun x _ => qty trivial), trivial⟩
theorem qt0 (w : Worker) (e : Int) (hw : w.sz ≤ 8388608) : Rt 66 [.agg w.e, .one (I e)] [.one (B (qbE w e))] :=
  qtz ⟨ql0 w.dones e (Worker.dones_le hw), trivial⟩
theorem qt1 (w : Worker) (e : Int) (r : Bool) (h : qbE w e = r) (hw : w.sz ≤ 8388608) : Rt 114 [.agg w.e, .one (I e)] [.one (B r)] := h ▸ qtZ w e hw
theorem len0 {α : Type} {f : α → List D} (xs : List α) (b : Bool) (h : decide (xs.length = 0) = b) : ((↑(xs.map f).length : Int) == 0) = b := by
  subst h
  by_cases h : xs.length = 0
  · simp [h]
  · rw [show decide (xs.length = 0) = false from dF h]
    simp only [List.length_map, beq_eq_false_iff_ne, ne_eq]
    omega
end Go.Proofs.YtdanpadojemjeaaGreat
namespace Go.Proofs.YtdanpadojemjeaaGreat
open Go.Sx Go.RowKit
theorem Cluster.link_wf {c : Cluster} (h : c.wf) {l : Link} (hl : l ∈ c.links) : l.wf := h.links_ok.2 l hl
theorem Cluster.link_sz {c : Cluster} (h : c.sz ≤ 8388608) {l : Link} (hl : l ∈ c.links) : l.sz ≤ 8388608 := by
  have := qbD (sz := Link.sz) (xs := c.links) (m := 8388608) (by simp only [Cluster.sz] at h; omega) hl
  exact this
def ql1 (key workers : Int) : Int := if workers < 1 then 0 else if key.tmod workers < 0 then key.tmod workers + workers else key.tmod workers
theorem Worker.queue_le {w : Worker} (h : w.sz ≤ 8388608) : w.queue.length ≤ 8388608 := by simp only [Worker.sz] at h; omega
theorem Worker.inputs_le {w : Worker} (h : w.sz ≤ 8388608) : w.inputs.length ≤ 8388608 := by simp only [Worker.sz] at h; omega
end Go.Proofs.YtdanpadojemjeaaGreat
