import Derived.Test.YtdkobdhckkjmeaaGreatRows
import Derived.Test.YtdkobdhckkjmeaaGreatGE
set_option linter.unusedVariables false
set_option linter.unusedSimpArgs false
namespace Go.Proofs.YtdkobdhckkjmeaaGreat
open Go.Sx Go.RowKit
variable {A : LL}
end Go.Proofs.YtdkobdhckkjmeaaGreat
namespace Go.Proofs.YtdkobdhckkjmeaaGreat
open Go.Sx Go.RowKit
theorem qkF(A:LL)(h:Oo []):
 Rt 15 [cS 1 A] [cB (decide ((A.length:Int)>1048576))]:=
 h.of
end Go.Proofs.YtdkobdhckkjmeaaGreat
