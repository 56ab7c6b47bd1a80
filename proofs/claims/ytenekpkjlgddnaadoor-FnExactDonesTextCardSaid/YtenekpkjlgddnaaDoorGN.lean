import Derived.Test.YtenekpkjlgddnaaDoorRows
import Derived.Test.YtenekpkjlgddnaaDoorGE
namespace Go.Proofs.YtenekpkjlgddnaaDoor
open Go.Sx Go.RowKit

end Go.Proofs.YtenekpkjlgddnaaDoor
