import Derived.Test.YtenekpkjlgddnaaGreatRows
import Derived.Test.YtenekpkjlgddnaaGreatGE
namespace Go.Proofs.YtenekpkjlgddnaaGreat
open Go.Sx Go.RowKit
end Go.Proofs.YtenekpkjlgddnaaGreat
