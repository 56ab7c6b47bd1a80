import Derived.Test.YtdkobdhckkjmeaaGreatRows
import Derived.Test.YtdkobdhckkjmeaaGreatR34
set_option linter.unusedVariables false
set_option linter.unusedSimpArgs false
namespace Go.Proofs.YtdkobdhckkjmeaaGreat
open Go.Sx Go.RowKit Go.Proofs.Tryz
abbrev Rt:=Ret prog
abbrev Rg:=RetG prog
abbrev Rr:=RetR prog
abbrev Tp:=Tr prog
abbrev Oo:=OB prog
