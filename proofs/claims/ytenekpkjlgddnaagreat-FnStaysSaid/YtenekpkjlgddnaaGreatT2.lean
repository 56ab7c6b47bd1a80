/- The functions sz.. (printed by gentypes.py) -/
import Derived.Test.YtenekpkjlgddnaaGreatB0
import Derived.Test.YtenekpkjlgddnaaGreatGA
set_option linter.unusedVariables false
set_option linter.unusedSimpArgs false
namespace Go.Proofs.YtenekpkjlgddnaaGreat
open Go.Sx Go.RowKit
end Go.Proofs.YtenekpkjlgddnaaGreat
namespace Go.Proofs.YtenekpkjlgddnaaGreat
open Go.Sx Go.RowKit
end Go.Proofs.YtenekpkjlgddnaaGreat
namespace Go.Proofs.YtenekpkjlgddnaaGreat
open Go.Sx Go.RowKit
end Go.Proofs.YtenekpkjlgddnaaGreat
