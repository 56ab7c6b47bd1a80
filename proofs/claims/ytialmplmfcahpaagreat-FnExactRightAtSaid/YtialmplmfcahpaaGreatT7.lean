/- The functions mark.. and held..: their contracts (printed by gentypes.py) -/
import Derived.Test.YtialmplmfcahpaaGreatT6
namespace Go.Proofs.YtialmplmfcahpaaGreat
open Go.Sx Go.RowKit
end Go.Proofs.YtialmplmfcahpaaGreat
