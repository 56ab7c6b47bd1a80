import Derived.Test.YtdchjefneblpgaaGreatP87
import Derived.Test.YtdchjefneblpgaaGreatP79
import Derived.Test.YtdchjefneblpgaaGreatGJ
set_option linter.unusedVariables false
set_option linter.unusedSimpArgs false
namespace Go.Proofs.YtdchjefneblpgaaGreat
open Go.Sx Go.RowKit
