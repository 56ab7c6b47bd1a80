/- The functions mark.. and held..: their contracts (printed by gentypes.py) -/
import Derived.Test.YtialmplmfcahpaaGreatT6
set_option linter.unusedVariables false
set_option linter.unusedSimpArgs false
namespace Go.Proofs.YtialmplmfcahpaaGreat
open Go.Sx Go.RowKit
end Go.Proofs.YtialmplmfcahpaaGreat
