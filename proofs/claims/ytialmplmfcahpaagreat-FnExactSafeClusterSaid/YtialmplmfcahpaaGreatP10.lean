/- OutsOnly, OutCells: what program and reference compute; the laws CellsIn, OutCells answer true. -/
import Derived.Test.YtialmplmfcahpaaGreatP9
import Derived.Test.YtialmplmfcahpaaGreatT7
import Derived.Test.YtialmplmfcahpaaGreatGO
set_option linter.unusedVariables false
set_option linter.unusedSimpArgs false
namespace Go.Proofs.YtialmplmfcahpaaGreat
open Go.Sx Go.RowKit
def qaS (g : Graph) (op : Int) : Option Node := if 0 ≤ op then g.nodes[op.toNat]? else none
theorem qeb {g : Graph} {a : Int} {w : Node} (h : qaS g a = some w) : 0 ≤ a ∧ a < (↑(g.nodes.map Node.e).length : Int) ∧ (g.nodes.map Node.e)[a.toNat]? = some w.e ∧ inR a 0 (↑(g.nodes.map Node.e).length - 1) = true := by
  unfold qaS at h
  split at h
  · have := (List.getElem?_eq_some_iff.1 h).1
    refine ⟨‹_›, by simp; omega, by simp [h], ?_⟩
    simp only [inR, List.length_map, decide_eq_true_eq]; omega
  · cases h
theorem qml {g : Graph} {a : Int} (h : qaS g a = none) : inR a 0 (↑(g.nodes.map Node.e).length - 1) = false := by
  unfold qaS at h
  simp only [inR, List.length_map, decide_eq_false_iff_not]
  split at h
  · rw [List.getElem?_eq_none_iff] at h; omega
  · omega
theorem Graph.nodes_le {g : Graph} (h : g.sz ≤ 1048576) : g.nodes.length ≤ 1048576 := by simp only [Graph.sz, szS] at h; omega
theorem Graph.outs_le {g : Graph} (h : g.sz ≤ 1048576) {w : Node} (hw : w ∈ g.nodes) : w.outs.length ≤ 1048576 := by
  have := qcQ (sz := Node.sz) hw
  simp only [Graph.sz, szS] at h
  have h5 : w.outs.length ≤ w.sz := by simp only [Node.sz]; omega
  omega
theorem qgN {g : Graph} (h : g.sz ≤ 1048576) : inInt .i64 ((↑(g.nodes.map Node.e).length : Int) - 1) := by
  have := Graph.nodes_le h
  exact ⟨by simp; omega, by simp; omega⟩
theorem qxh (g : Graph) (op : Int) (hg : g.sz ≤ 1048576) : Ret Tryz.prog 153 [.agg g.e, .one (I op)] [.one (B (qaS g op).isSome)] := by
  cases h : qaS g op with
  | none => exact qlH _ _ _ _ _ ⟨qgN hg, qgr _ _ _ _ (qml h), trivial⟩
  | some w => exact qlH _ _ _ _ _ ⟨qgN hg, qgr _ _ _ _ (qeb h).2.2.2, trivial⟩
theorem qeO (g : Graph) (op : Int) (r : Bool) (h : (qaS g op).isSome = r) (hg : g.sz ≤ 1048576) : Ret Tryz.prog 153 [.agg g.e, .one (I op)] [.one (B r)] := h ▸ qxh g op hg
