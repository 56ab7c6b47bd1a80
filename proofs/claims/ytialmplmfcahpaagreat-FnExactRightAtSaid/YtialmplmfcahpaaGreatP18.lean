/- StepOp, Capped: what program and reference compute. -/
import Derived.Test.YtialmplmfcahpaaGreatP17
set_option linter.unusedVariables false
set_option linter.unusedSimpArgs false
namespace Go.Proofs.YtialmplmfcahpaaGreat
open Go.Sx Go.RowKit
def qBD (g : Graph) (r : Record) (x : Node) : Bool := qaE g && qaR r && x.kind == 7 && decide (0 < x.outs.length) && !(qax r.stamp).2
def capped (g : Graph) (r : Record) : Bool := match qaS g r.op with | some x => qBD g r x | none => false
theorem qmx {g : Graph} (h : qaE g = true) {op : Int} {x : Node} (hn : qaS g op = some x) : qab x = true := by
  simp only [qaE, Bool.and_eq_true, Bool.not_eq_true'] at h
  unfold qaS at hn
  split at hn
  · have := qih h.2 op.toNat x hn
    simp only [qbf, Bool.or_eq_false_iff, Bool.not_eq_false'] at this
    exact this.1.1
  · cases hn
theorem qmy {x : Node} (h : qab x = true) : x.outs.length ≤ 2 := by
  simp only [qab, Bool.and_eq_true, decide_eq_true_eq] at h
  exact h.1.1.1.2
end Go.Proofs.YtialmplmfcahpaaGreat
