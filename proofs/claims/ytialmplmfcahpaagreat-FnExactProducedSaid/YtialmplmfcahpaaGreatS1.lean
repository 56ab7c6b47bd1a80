/- The contract of slices.SortFunc at this seat (layings in plain words, written by lay-plain.mjs). -/
import Derived.Shelf.SlSortCmp.NoneTotal
import Derived.Ground.SlsfProg
import Derived.Test.YtialmplmfcahpaaGreatRows
namespace Go.Proofs
open Go.Shelf
end Go.Proofs
