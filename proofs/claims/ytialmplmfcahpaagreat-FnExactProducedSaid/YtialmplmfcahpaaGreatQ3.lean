/- slices.SortFunc at structs, as a contract with the row handed over. -/
import Derived.Test.YtialmplmfcahpaaGreatR30
import Derived.Test.YtialmplmfcahpaaGreatT1
import Derived.Test.YtialmplmfcahpaaGreatS1
namespace Go.Proofs.YtialmplmfcahpaaGreat
open Go.Sx Go.RowKit Go.Shelf Go.Lib Go.Sort
set_option linter.unusedVariables false
set_option linter.unusedSimpArgs false
instance : Inhabited Record := ⟨(by constructor <;> first | exact (0 : Int) | exact ⟨0, 0⟩)⟩
end Go.Proofs.YtialmplmfcahpaaGreat
