/- Orders of stamps and records, SortRecords, PendingAll, PendingOf: what program and reference compute. -/
import Derived.Test.YtialmplmfcahpaaGreatC2
import Derived.Test.YtialmplmfcahpaaGreatC6
import Derived.Test.YtialmplmfcahpaaGreatQ3
namespace Go.Proofs.YtialmplmfcahpaaGreat
open Go.Sx Go.RowKit Go.Sort
set_option linter.unusedVariables false
set_option linter.unusedSimpArgs false
end Go.Proofs.YtialmplmfcahpaaGreat
