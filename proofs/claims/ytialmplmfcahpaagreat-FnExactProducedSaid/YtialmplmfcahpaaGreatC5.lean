/- Comparisons of lists: what program and reference compute. -/
import Derived.Test.YtialmplmfcahpaaGreatC1
import Derived.Test.YtialmplmfcahpaaGreatGT
set_option linter.unusedVariables false
set_option linter.unusedSimpArgs false
namespace Go.Proofs.YtialmplmfcahpaaGreat
open Go.Sx Go.RowKit
end Go.Proofs.YtialmplmfcahpaaGreat
