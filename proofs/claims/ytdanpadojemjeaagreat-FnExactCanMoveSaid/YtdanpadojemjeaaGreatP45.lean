/- The law HearNews answers true. -/
import Derived.Test.YtdanpadojemjeaaGreatP43
import Derived.Test.YtdanpadojemjeaaGreatT6
import Derived.Test.YtdanpadojemjeaaGreatGO
set_option linter.unusedVariables false
set_option linter.unusedSimpArgs false
namespace Go.Proofs.YtdanpadojemjeaaGreat
open Go.Sx Go.RowKit
theorem nbb(b:Bool):(!(b==b))=false:=by cases b<;>rfl
end Go.Proofs.YtdanpadojemjeaaGreat
