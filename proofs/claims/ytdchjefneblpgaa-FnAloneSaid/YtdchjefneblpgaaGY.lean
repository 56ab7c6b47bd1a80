import Derived.Test.YtdchjefneblpgaaGE
namespace Go.Proofs.Ytdchjefneblpgaa
open Go.Sx Go.RowKit
