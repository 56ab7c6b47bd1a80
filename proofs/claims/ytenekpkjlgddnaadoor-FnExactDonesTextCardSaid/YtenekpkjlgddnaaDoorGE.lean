/- Short names. -/
import Derived.Test.YtenekpkjlgddnaaDoorRows
import Derived.Test.YtenekpkjlgddnaaDoorR34
namespace Go.Proofs.YtenekpkjlgddnaaDoor
open Go.Sx Go.RowKit Go.Proofs.Tryd
abbrev Rt:=Ret prog
abbrev Rg:=RetG prog
abbrev Rr:=RetR prog
abbrev Tp:=Tr prog
abbrev Oo:=OB prog
end Go.Proofs.YtenekpkjlgddnaaDoor
