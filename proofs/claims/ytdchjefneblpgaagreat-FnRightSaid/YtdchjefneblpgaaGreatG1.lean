import Derived.Test.YtdchjefneblpgaaGreatGE
namespace Go.Proofs.YtdchjefneblpgaaGreat
open Go.Sx Go.RowKit

