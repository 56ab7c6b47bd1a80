/- PutCell, CellsIn, OutsOnly, OutCells: what program and reference compute. -/
import Derived.Test.YtdanpadojemjeaaGreatC0
import Derived.Test.YtdanpadojemjeaaGreatQ2
set_option linter.unusedVariables false
set_option linter.unusedSimpArgs false
namespace Go.Proofs.YtdanpadojemjeaaGreat
open Go.Sx Go.RowKit
def qlL (xs : List Cell) (x : Cell) : Bool := xs.any fun a => decide (a = x)
def qgm (xs : List Cell) (x : Cell) : Nat := (xs.findIdx? fun a => !decide (qeH a x < 0)).getD xs.length
def qgn (xs : List Cell) (x : Cell) : List Cell := if qlL xs x then xs else xs.take (qgm xs x) ++ x :: xs.drop (qgm xs x)
theorem qtu (xs : List Cell) (x : Cell) : qgm xs x ≤ xs.length := by
  unfold qgm
  cases h : xs.findIdx? (fun a => !decide (qeH a x < 0)) with
  | none => simp
  | some i =>
    rw [List.findIdx?_eq_some_iff_getElem] at h
    have := h.1
    simp
    omega
theorem qlM (xs : List Cell) (x : Cell) : (qgn xs x).length ≤ xs.length + 1 := by
  unfold qgn
  split
  · omega
  · have := qtu xs x
    simp
    omega
theorem qtv (xs : List Cell) (hl : xs.length ≤ 8388608) : Rt 196 [.one (.sl 4 (xs.map Cell.e))] [.one (.sl 4 (xs.map Cell.e))] :=
  qtj ⟨by simp; omega, by simp; omega, qbb _ Cell.flat _, trivial⟩
end Go.Proofs.YtdanpadojemjeaaGreat
namespace Go.Proofs.YtdanpadojemjeaaGreat
open Go.Sx Go.RowKit
def qbr (g : Graph) (op : Int) : Option Node := if 0 ≤ op then g.nodes[op.toNat]? else none
theorem qtw {g : Graph} {a : Int} {w : Node} (h : qbr g a = some w) : 0 ≤ a ∧ a < (↑(g.nodes.map Node.e).length : Int) ∧ (g.nodes.map Node.e)[a.toNat]? = some w.e ∧ inR a 0 (↑(g.nodes.map Node.e).length - 1) = true := by
  unfold qbr at h
  split at h
  · have := (List.getElem?_eq_some_iff.1 h).1
    refine ⟨‹_›, by simp; omega, by simp [h], ?_⟩
    simp only [inR, List.length_map, decide_eq_true_eq]; omega
  · cases h
theorem qtx {g : Graph} {a : Int} (h : qbr g a = none) : inR a 0 (↑(g.nodes.map Node.e).length - 1) = false := by
  unfold qbr at h
  simp only [inR, List.length_map, decide_eq_false_iff_not]
  split at h
  · rw [List.getElem?_eq_none_iff] at h; omega
  · omega
theorem Graph.nodes_le {g : Graph} (h : g.sz ≤ 8388608) : g.nodes.length ≤ 8388608 := by simp only [Graph.sz, szS] at h; omega
theorem Graph.outs_le {g : Graph} (h : g.sz ≤ 8388608) {w : Node} (hw : w ∈ g.nodes) : w.outs.length ≤ 8388608 := by
  have := qcg (sz := Node.sz) hw
  simp only [Graph.sz, szS] at h
  have h5 : w.outs.length ≤ w.sz := by simp only [Node.sz]; omega
  omega
theorem qlN {g : Graph} (h : g.sz ≤ 8388608) : inInt .i64 ((↑(g.nodes.map Node.e).length : Int) - 1) := by
  have := Graph.nodes_le h
  exact ⟨by simp; omega, by simp; omega⟩
theorem qty (g : Graph) (op : Int) (hg : g.sz ≤ 8388608) : Rt 200 [.agg g.e, .one (I op)] [.one (B (qbr g op).isSome)] := by
  cases h : qbr g op with
  | none => exact qlF ⟨qlN hg, qaX _ _ _ _ (qtx h), trivial⟩
  | some w => exact qlF ⟨qlN hg, qaX _ _ _ _ (qtw h).2.2.2, trivial⟩
theorem qlO (g : Graph) (op : Int) (r : Bool) (h : (qbr g op).isSome = r) (hg : g.sz ≤ 8388608) : Rt 200 [.agg g.e, .one (I op)] [.one (B r)] := h ▸ qty g op hg
end Go.Proofs.YtdanpadojemjeaaGreat
