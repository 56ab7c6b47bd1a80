import Derived.Test.YtialmplmfcahpaaGreatRows
import Derived.Test.YtialmplmfcahpaaGreatR22
set_option linter.unusedVariables false
set_option linter.unusedSimpArgs false
namespace Go.Proofs.YtialmplmfcahpaaGreat
open Go.Sx Go.RowKit
end Go.Proofs.YtialmplmfcahpaaGreat
