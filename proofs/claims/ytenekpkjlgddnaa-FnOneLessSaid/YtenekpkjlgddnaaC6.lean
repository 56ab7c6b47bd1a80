/- OfEpoch: what program and reference compute. -/
import Derived.Test.YtenekpkjlgddnaaC0
set_option linter.unusedVariables false
set_option linter.unusedSimpArgs false
namespace Go.Proofs.Ytenekpkjlgddnaa
open Go.Sx Go.RowKit

end Go.Proofs.Ytenekpkjlgddnaa
