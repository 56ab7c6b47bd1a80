import Derived.Test.YtdchjefneblpgaaGreatGE
namespace Go.Proofs.YtdchjefneblpgaaGreat
open Go.Sx Go.RowKit
end Go.Proofs.YtdchjefneblpgaaGreat
namespace Go.Proofs.YtdchjefneblpgaaGreat
open Go.Sx Go.RowKit
end Go.Proofs.YtdchjefneblpgaaGreat
namespace Go.Proofs.YtdchjefneblpgaaGreat
open Go.Sx Go.RowKit
