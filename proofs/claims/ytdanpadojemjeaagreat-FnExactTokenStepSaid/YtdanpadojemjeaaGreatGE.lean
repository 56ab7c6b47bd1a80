/- Short names. -/
import Derived.Test.YtdanpadojemjeaaGreatRows
import Derived.Test.YtdanpadojemjeaaGreatR33
namespace Go.Proofs.YtdanpadojemjeaaGreat
open Go.Sx Go.RowKit
abbrev Rt := Ret Tryz.prog
abbrev Rg := RetG Tryz.prog
abbrev Rr := RetR Tryz.prog
abbrev Tp := Tr Tryz.prog
abbrev Oo := OB Tryz.prog
end Go.Proofs.YtdanpadojemjeaaGreat
