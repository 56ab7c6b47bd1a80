/- FnTop: the law's function returns true. -/
import Derived.Test.YtdkobdhckkjmeaaGreatP55
import Derived.Test.YtdkobdhckkjmeaaGreatP79
import Derived.Test.YtdkobdhckkjmeaaGreatP61
import Derived.Test.YtdkobdhckkjmeaaGreatP72
import Derived.Test.YtdkobdhckkjmeaaGreatP21
import Derived.Test.YtdkobdhckkjmeaaGreatGJ
set_option linter.unusedVariables false
set_option linter.unusedSimpArgs false
namespace Go.Proofs.YtdkobdhckkjmeaaGreat
open Go.Sx Go.RowKit
end Go.Proofs.YtdkobdhckkjmeaaGreat
