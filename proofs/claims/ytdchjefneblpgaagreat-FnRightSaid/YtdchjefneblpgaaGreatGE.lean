import Derived.Test.YtdchjefneblpgaaGreatRows
import Derived.Test.YtdchjefneblpgaaGreatR34
set_option linter.unusedVariables false
set_option linter.unusedSimpArgs false
namespace Go.Proofs.YtdchjefneblpgaaGreat
open Go.Sx Go.RowKit Go.Proofs.Tryz
abbrev av:=ji prog
abbrev Rw:=lk prog
abbrev cW:=cH prog
abbrev aT:=gi prog
abbrev af:=fD prog
def _root_.Go.Sx.O.k(A:ah)(f:Nat)(a b c d n r:Int):O:=.p (cH prog f [a7.cur [D.J 1 A,I a,I b] [D.J 1 A,I c,I d],a7.ro (ag n)] (bi.vals [ag r]))
def _root_.Go.Sx.O.m(A:ah)(f:Nat)(a b c d n:Int)(r:Bool):O:=.p (cH prog f [a7.cur [D.J 1 A,I a,I b] [D.J 1 A,I c,I d],a7.ro (ag n)] (bi.vals [ak r]))
def _root_.Go.Sx.O.w(A:ah)(a b c:Int):O:=.a (.e3 [some [D.J 1 A,I a,I b],none] (bi.vals [ag c]))
def _root_.Go.Sx.O.y(A:ah)(a b:Int)(c:Bool):O:=.a (.e3 [some [D.J 1 A,I a,I b],none] (bi.vals [ak c]))
def ba(n:Nat)(e:List (Nat×aH))(b:List (Nat×List aG)):aD:={ env:=acq n e,boxes:=b }
