import Derived.Test.YtdchjefneblpgaaT1
import Derived.Test.YtdchjefneblpgaaGI
set_option linter.unusedVariables false
set_option linter.unusedSimpArgs false
namespace Go.Proofs.Ytdchjefneblpgaa
open Go.Sx Go.RowKit
end Go.Proofs.Ytdchjefneblpgaa
namespace Go.Proofs.Ytdchjefneblpgaa
open Go.Sx Go.RowKit
end Go.Proofs.Ytdchjefneblpgaa
namespace Go.Proofs.Ytdchjefneblpgaa
open Go.Sx Go.RowKit
