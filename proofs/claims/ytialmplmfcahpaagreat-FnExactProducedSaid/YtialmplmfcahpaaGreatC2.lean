/- Plain laws of orders and of sorting by insertion. -/
import Derived.Test.YtialmplmfcahpaaGreatC1
import Derived.Sort.Statements
import Derived.Shelf.SlSortCmp.Insertion
set_option linter.unusedVariables false
set_option linter.unusedSimpArgs false
namespace Go.Proofs.YtialmplmfcahpaaGreat
open Go.Sx Go.RowKit Go.Sort
section
variable {α : Type}
abbrev SortedL (lt : α → α → Bool) (S : List α) : Prop := S.Pairwise fun a b => (!lt b a) = true
end
end Go.Proofs.YtialmplmfcahpaaGreat
