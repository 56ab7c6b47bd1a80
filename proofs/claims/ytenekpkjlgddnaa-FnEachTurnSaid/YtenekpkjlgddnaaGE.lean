/- Short names. -/
import Derived.Test.YtenekpkjlgddnaaRows
import Derived.Test.YtenekpkjlgddnaaR34
namespace Go.Proofs.Ytenekpkjlgddnaa
open Go.Sx Go.RowKit Go.Proofs.Try
abbrev Rt:=Ret prog
abbrev Rg:=RetG prog
abbrev Rr:=RetR prog
abbrev Tp:=Tr prog
abbrev Oo:=OB prog
end Go.Proofs.Ytenekpkjlgddnaa
