/- OfEpoch: what program and reference compute. -/
import Derived.Test.YtialmplmfcahpaaGreatC0
namespace Go.Proofs.YtialmplmfcahpaaGreat
open Go.Sx Go.RowKit
end Go.Proofs.YtialmplmfcahpaaGreat
