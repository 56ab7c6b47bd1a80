/- slices.DeleteFunc, Recall, StepOp: what program and reference compute (cases put together by gentree.py). -/
import Derived.Test.YtialmplmfcahpaaGreatP16
import Derived.Test.YtialmplmfcahpaaGreatC3
import Derived.Test.YtialmplmfcahpaaGreatGS
set_option linter.unusedVariables false
set_option linter.unusedSimpArgs false
namespace Go.Proofs.YtialmplmfcahpaaGreat
open Go.Sx Go.RowKit
def cellOf (r : Record) : Cell := ⟨r.op, r.stamp.epoch, r.key, r.val⟩
end Go.Proofs.YtialmplmfcahpaaGreat
