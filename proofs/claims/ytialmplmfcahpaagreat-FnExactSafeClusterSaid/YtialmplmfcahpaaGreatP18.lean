/- StepOp, Capped: what program and reference compute. -/
import Derived.Test.YtialmplmfcahpaaGreatP17
set_option linter.unusedVariables false
set_option linter.unusedSimpArgs false
namespace Go.Proofs.YtialmplmfcahpaaGreat
open Go.Sx Go.RowKit
def qBV (g : Graph) (r : Record) (x : Node) : Bool := qaE g && qaR r && x.kind == 7 && decide (0 < x.outs.length) && !(qax r.stamp).2
def capped (g : Graph) (r : Record) : Bool := match qaS g r.op with | some x => qBV g r x | none => false
end Go.Proofs.YtialmplmfcahpaaGreat
