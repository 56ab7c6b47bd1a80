/- The functions sz.. (printed by gentypes.py) -/
import Derived.Test.YtenekpkjlgddnaaB0
import Derived.Test.YtenekpkjlgddnaaGA
set_option linter.unusedVariables false
set_option linter.unusedSimpArgs false
namespace Go.Proofs.Ytenekpkjlgddnaa
open Go.Sx Go.RowKit
end Go.Proofs.Ytenekpkjlgddnaa
namespace Go.Proofs.Ytenekpkjlgddnaa
open Go.Sx Go.RowKit
end Go.Proofs.Ytenekpkjlgddnaa
namespace Go.Proofs.Ytenekpkjlgddnaa
open Go.Sx Go.RowKit
end Go.Proofs.Ytenekpkjlgddnaa
