import Derived.Test.YtdchjefneblpgaaGreatRows
import Derived.Test.YtdchjefneblpgaaGreatR34
set_option linter.unusedVariables false
set_option linter.unusedSimpArgs false
namespace Go.Proofs.YtdchjefneblpgaaGreat
open Go.Sx Go.RowKit Go.Proofs.Tryz
abbrev aK:=iW prog
abbrev aqR:=nm prog
abbrev bZ:=bU prog
abbrev bb:=fP prog
abbrev ak:=fD prog
def _root_.Go.Sx.O.k(A:ai)(f:Nat)(a b c d n r:Int):O:=.p (bU prog f [aJ.cur [D.J 1 A,I a,I b] [D.J 1 A,I c,I d],aJ.ro (al n)] (aT.vals [al r]))
def _root_.Go.Sx.O.m(A:ai)(f:Nat)(a b c d n:Int)(r:Bool):O:=.p (bU prog f [aJ.cur [D.J 1 A,I a,I b] [D.J 1 A,I c,I d],aJ.ro (al n)] (aT.vals [aI r]))
def _root_.Go.Sx.O.w(A:ai)(a b c:Int):O:=.a (.dq [some [D.J 1 A,I a,I b],none] (aT.vals [al c]))
def _root_.Go.Sx.O.y(A:ai)(a b:Int)(c:Bool):O:=.a (.dq [some [D.J 1 A,I a,I b],none] (aT.vals [aI c]))
def bi(n:Nat)(e:List (Nat×aB))(b:List (Nat×List aC)):aE:={ env:=WG n e,boxes:=b }
