/- PutCell, CellsIn, OutsOnly, OutCells: what program and reference compute. -/
import Derived.Test.YtdanpadojemjeaaGreatC0
import Derived.Test.YtdanpadojemjeaaGreatQ2
set_option linter.unusedVariables false
set_option linter.unusedSimpArgs false
namespace Go.Proofs.YtdanpadojemjeaaGreat
open Go.Sx Go.RowKit
def ql3 (xs : List Cell) (x : Cell) : Bool := xs.any fun a => decide (a = x)
def qgC (xs : List Cell) (x : Cell) : Nat := (xs.findIdx? fun a => !decide (qeP a x < 0)).getD xs.length
def qgD (xs : List Cell) (x : Cell) : List Cell := if ql3 xs x then xs else xs.take (qgC xs x) ++ x :: xs.drop (qgC xs x)
theorem qt2 (xs : List Cell) (x : Cell) : qgC xs x ≤ xs.length := by
  unfold qgC
  cases h : xs.findIdx? (fun a => !decide (qeP a x < 0)) with
  | none => simp
  | some i =>
    rw [List.findIdx?_eq_some_iff_getElem] at h
    have := h.1
    simp
    omega
theorem ql4 (xs : List Cell) (x : Cell) : (qgD xs x).length ≤ xs.length + 1 := by
  unfold qgD
  split
  · omega
  · have := qt2 xs x
    simp
    omega
theorem qt3 (xs : List Cell) (hl : xs.length ≤ 8388608) : Rt 196 [.one (.sl 4 (xs.map Cell.e))] [.one (.sl 4 (xs.map Cell.e))] :=
  qtS ⟨by simp; omega, by simp; omega, qbj _ Cell.flat _, trivial⟩
end Go.Proofs.YtdanpadojemjeaaGreat
namespace Go.Proofs.YtdanpadojemjeaaGreat
open Go.Sx Go.RowKit
def qbv (g : Graph) (op : Int) : Option Node := if 0 ≤ op then g.nodes[op.toNat]? else none
theorem qt4 {g : Graph} {a : Int} {w : Node} (h : qbv g a = some w) : 0 ≤ a ∧ a < (↑(g.nodes.map Node.e).length : Int) ∧ (g.nodes.map Node.e)[a.toNat]? = some w.e ∧ inR a 0 (↑(g.nodes.map Node.e).length - 1) = true := by
  unfold qbv at h
  split at h
  · have := (List.getElem?_eq_some_iff.1 h).1
    refine ⟨‹_›, by simp; omega, by simp [h], ?_⟩
    simp only [inR, List.length_map, decide_eq_true_eq]; omega
  · cases h
theorem qt5 {g : Graph} {a : Int} (h : qbv g a = none) : inR a 0 (↑(g.nodes.map Node.e).length - 1) = false := by
  unfold qbv at h
  simp only [inR, List.length_map, decide_eq_false_iff_not]
  split at h
  · rw [List.getElem?_eq_none_iff] at h; omega
  · omega
theorem Graph.nodes_le {g : Graph} (h : g.sz ≤ 8388608) : g.nodes.length ≤ 8388608 := by simp only [Graph.sz, szS] at h; omega
theorem Graph.outs_le {g : Graph} (h : g.sz ≤ 8388608) {w : Node} (hw : w ∈ g.nodes) : w.outs.length ≤ 8388608 := by
  have := qcj (sz := Node.sz) hw
  simp only [Graph.sz, szS] at h
  have h5 : w.outs.length ≤ w.sz := by simp only [Node.sz]; omega
  omega
theorem ql5 {g : Graph} (h : g.sz ≤ 8388608) : inInt .i64 ((↑(g.nodes.map Node.e).length : Int) - 1) := by
  have := Graph.nodes_le h
  exact ⟨by simp; omega, by simp; omega⟩
theorem qt6 (g : Graph) (op : Int) (hg : g.sz ≤ 8388608) : Rt 200 [.agg g.e, .one (I op)] [.one (B (qbv g op).isSome)] := by
  cases h : qbv g op with
  | none => exact qlY ⟨ql5 hg, qaM _ _ _ _ (qt5 h), trivial⟩
  | some w => exact qlY ⟨ql5 hg, qaM _ _ _ _ (qt4 h).2.2.2, trivial⟩
theorem ql6 (g : Graph) (op : Int) (r : Bool) (h : (qbv g op).isSome = r) (hg : g.sz ≤ 8388608) : Rt 200 [.agg g.e, .one (I op)] [.one (B r)] := h ▸ qt6 g op hg
end Go.Proofs.YtdanpadojemjeaaGreat
