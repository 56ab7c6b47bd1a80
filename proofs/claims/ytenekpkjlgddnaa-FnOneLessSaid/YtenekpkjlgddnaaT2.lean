/- The functions sz.. (printed by gentypes.py) -/
import Derived.Test.YtenekpkjlgddnaaT1
import Derived.Test.YtenekpkjlgddnaaGA
import Derived.Test.YtenekpkjlgddnaaGC
set_option linter.unusedVariables false
set_option linter.unusedSimpArgs false
namespace Go.Proofs.Ytenekpkjlgddnaa
open Go.Sx Go.RowKit

end Go.Proofs.Ytenekpkjlgddnaa

namespace Go.Proofs.Ytenekpkjlgddnaa
open Go.Sx Go.RowKit

end Go.Proofs.Ytenekpkjlgddnaa

namespace Go.Proofs.Ytenekpkjlgddnaa
open Go.Sx Go.RowKit

end Go.Proofs.Ytenekpkjlgddnaa
