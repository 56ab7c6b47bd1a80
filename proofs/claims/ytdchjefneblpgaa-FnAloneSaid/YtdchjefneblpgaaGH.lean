import Derived.Test.YtdchjefneblpgaaGE
set_option linter.unusedVariables false
set_option linter.unusedSimpArgs false
namespace Go.Proofs.Ytdchjefneblpgaa
open Go.Sx Go.RowKit
variable {a b c d : Int} {A C E : aE} {q r : Bool}
theorem aaT(h:al [.r 20 [.agg (bj A a b),aB 5 C,ao c] [aB 4 E,ao d,au r,au q]]):
 aA 11 [.agg (bj A a b),aB 5 C,ao c] [au q]:=
 h.of
