/- The functions sz.. (printed by gentypes.py) -/
import Derived.Test.YtenekpkjlgddnaaDoorB0
import Derived.Test.YtenekpkjlgddnaaDoorGA
set_option linter.unusedVariables false
set_option linter.unusedSimpArgs false
namespace Go.Proofs.YtenekpkjlgddnaaDoor
open Go.Sx Go.RowKit

end Go.Proofs.YtenekpkjlgddnaaDoor

namespace Go.Proofs.YtenekpkjlgddnaaDoor
open Go.Sx Go.RowKit

theorem laws_toPick_ret (x : Pick) : Ret Tryd.prog 6 [.agg x.e] [.agg x.e] := laws_toPick_p0 _ _ _ trivial

end Go.Proofs.YtenekpkjlgddnaaDoor

namespace Go.Proofs.YtenekpkjlgddnaaDoor
open Go.Sx Go.RowKit

end Go.Proofs.YtenekpkjlgddnaaDoor
