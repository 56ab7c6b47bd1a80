/- slices.Delete at records: the elements but those from i to j, in the memory that was handed over. -/
import Derived.Test.YtdanpadojemjeaaGreatR30
import Derived.Test.YtdanpadojemjeaaGreatT1
import Derived.Test.YtdanpadojemjeaaGreatRows
import Derived.WalkKit
import Derived.Deep.RegionLaw
import Derived.Shelf.RegionOpenPlain
import Derived.Lib.SliceRun
import Derived.Deep.LoopGhost
import Derived.Lib.Walk
set_option linter.unusedVariables false
set_option linter.unusedSimpArgs false
namespace Go.Proofs.YtdanpadojemjeaaGreat
open Go.Sx Go.RowKit Go.Shelf Go.Lib
end Go.Proofs.YtdanpadojemjeaaGreat
