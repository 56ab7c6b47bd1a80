import Derived.Test.YtdchjefneblpgaaGreatRows
import Derived.Test.YtdchjefneblpgaaGreatR34
set_option linter.unusedVariables false
set_option linter.unusedSimpArgs false
namespace Go.Proofs.YtdchjefneblpgaaGreat
open Go.Sx Go.RowKit Go.Proofs.Tryz
abbrev aq:=iV prog
abbrev QF:=kY prog
abbrev ca:=b2 prog
abbrev aV:=fX prog
abbrev ad:=fL prog
def _root_.Go.Sx.O.k(A:ag)(f:Nat)(a b c d n r:Int):O:=.p (b2 prog f [aM.cur [D.J 1 A,I a,I b] [D.J 1 A,I c,I d],aM.ro (ae n)] (aY.vals [ae r]))
def _root_.Go.Sx.O.m(A:ag)(f:Nat)(a b c d n:Int)(r:Bool):O:=.p (b2 prog f [aM.cur [D.J 1 A,I a,I b] [D.J 1 A,I c,I d],aM.ro (ae n)] (aY.vals [aj r]))
def _root_.Go.Sx.O.w(A:ag)(a b c:Int):O:=.a (.dN [some [D.J 1 A,I a,I b],none] (aY.vals [ae c]))
def _root_.Go.Sx.O.y(A:ag)(a b:Int)(c:Bool):O:=.a (.dN [some [D.J 1 A,I a,I b],none] (aY.vals [aj c]))
def bb(n:Nat)(e:List (Nat×aI))(b:List (Nat×List aF)):aC:={ env:=abJ n e,boxes:=b }
