import Derived.Test.YtdchjefneblpgaaGreatRows
import Derived.Test.YtdchjefneblpgaaGreatR34
set_option linter.unusedVariables false
set_option linter.unusedSimpArgs false
namespace Go.Proofs.YtdchjefneblpgaaGreat
open Go.Sx Go.RowKit Go.Proofs.Tryz
abbrev av:=im prog
abbrev asW:=ux prog
abbrev b3:=bT prog
abbrev a1:=fz prog
abbrev ad:=fk prog
def _root_.Go.Sx.O.k(A:af)(f:Nat)(a b c d n r:Int):O:=.p (bT prog f [aM.cur [D.J 1 A,I a,I b] [D.J 1 A,I c,I d],aM.ro (ae n)] (aS.vals [ae r]))
def _root_.Go.Sx.O.m(A:af)(f:Nat)(a b c d n:Int)(r:Bool):O:=.p (bT prog f [aM.cur [D.J 1 A,I a,I b] [D.J 1 A,I c,I d],aM.ro (ae n)] (aS.vals [ao r]))
def _root_.Go.Sx.O.w(A:af)(a b c:Int):O:=.a (.dj [some [D.J 1 A,I a,I b],none] (aS.vals [ae c]))
def _root_.Go.Sx.O.y(A:af)(a b:Int)(c:Bool):O:=.a (.dj [some [D.J 1 A,I a,I b],none] (aS.vals [ao c]))
def bj(n:Nat)(e:List (Nat×aI))(b:List (Nat×List aB)):aH:={ env:=Wq n e,boxes:=b }
