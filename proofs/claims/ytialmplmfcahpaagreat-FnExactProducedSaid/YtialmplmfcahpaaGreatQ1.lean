/- slices.Delete at records: the elements but those from i to j, in the memory that was handed over. -/
import Derived.Test.YtialmplmfcahpaaGreatR30
import Derived.Test.YtialmplmfcahpaaGreatT1
import Derived.Test.YtialmplmfcahpaaGreatRows
import Derived.WalkKit
import Derived.Deep.RegionLaw
import Derived.Shelf.RegionOpenPlain
import Derived.Lib.SliceRun
import Derived.Deep.LoopGhost
import Derived.Lib.Walk
namespace Go.Proofs.YtialmplmfcahpaaGreat
open Go.Sx Go.RowKit Go.Shelf Go.Lib
set_option linter.unusedVariables false
set_option linter.unusedSimpArgs false
set_option maxHeartbeats 4000000 in
set_option maxRecDepth 1000000 in
theorem Record.e_fl (xs : List Record) : xs.map Record.e = fl (xs.map fun r => r.e.map D.unV) := by
  simp only [fl, List.map_map]
  rfl
set_option maxHeartbeats 4000000 in
set_option maxRecDepth 1000000 in
theorem News.e_fl (xs : List News) : xs.map News.e = fl (xs.map fun r => r.e.map D.unV) := by
  simp only [fl, List.map_map]
  rfl
end Go.Proofs.YtialmplmfcahpaaGreat
