import Derived.Test.YtenekpkjlgddnaaGreatRows
import Derived.Test.YtenekpkjlgddnaaGreatGE
set_option linter.unusedVariables false
set_option linter.unusedSimpArgs false
namespace Go.Proofs.YtenekpkjlgddnaaGreat
open Go.Sx Go.RowKit
end Go.Proofs.YtenekpkjlgddnaaGreat
