/- WithoutOne, Consumed, AllPicks: what program and reference compute. -/
import Derived.Test.YtenekpkjlgddnaaGreatP9
import Derived.Test.YtenekpkjlgddnaaGreatQ1
set_option linter.unusedVariables false
set_option linter.unusedSimpArgs false
namespace Go.Proofs.YtenekpkjlgddnaaGreat
open Go.Sx Go.RowKit
end Go.Proofs.YtenekpkjlgddnaaGreat
