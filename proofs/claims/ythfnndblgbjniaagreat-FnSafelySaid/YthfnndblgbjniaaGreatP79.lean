import Derived.Test.YthfnndblgbjniaaGreatC0
import Derived.Test.YthfnndblgbjniaaGreatG1
set_option linter.unusedVariables false
set_option linter.unusedSimpArgs false
namespace Go.Proofs.YthfnndblgbjniaaGreat
open Go.Sx Go.RowKit
