/- OfEpoch: what program and reference compute. -/
import Derived.Test.YtenekpkjlgddnaaC0
namespace Go.Proofs.Ytenekpkjlgddnaa
open Go.Sx Go.RowKit

end Go.Proofs.Ytenekpkjlgddnaa
