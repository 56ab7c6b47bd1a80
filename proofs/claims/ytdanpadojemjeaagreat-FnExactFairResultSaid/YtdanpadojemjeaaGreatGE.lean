/- Short names. -/
import Derived.Test.YtdanpadojemjeaaGreatRows
import Derived.Test.YtdanpadojemjeaaGreatR33
namespace Go.Proofs.YtdanpadojemjeaaGreat
open Go.Sx Go.RowKit Go.Proofs.Tryz
abbrev Rt:=Ret prog
abbrev Rg:=RetG prog
abbrev Rr:=RetR prog
abbrev Tp:=Tr prog
abbrev Oo:=OB prog
end Go.Proofs.YtdanpadojemjeaaGreat
