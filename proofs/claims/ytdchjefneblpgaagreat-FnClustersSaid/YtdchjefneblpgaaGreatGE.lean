import Derived.Test.YtdchjefneblpgaaGreatRows
import Derived.Test.YtdchjefneblpgaaGreatR34
set_option linter.unusedVariables false
set_option linter.unusedSimpArgs false
namespace Go.Proofs.YtdchjefneblpgaaGreat
open Go.Sx Go.RowKit Go.Proofs.Tryz
abbrev aw:=iX prog
abbrev ayE:=vG prog
abbrev cc:=bZ prog
abbrev aY:=gl prog
abbrev af:=fC prog
def _root_.Go.Sx.O.k(A:ah)(f:Nat)(a b c d n r:Int):O:=.p (bZ prog f [aN.cur [D.J 1 A,I a,I b] [D.J 1 A,I c,I d],aN.ro (ao n)] (aV.vals [ao r]))
def _root_.Go.Sx.O.m(A:ah)(f:Nat)(a b c d n:Int)(r:Bool):O:=.p (bZ prog f [aN.cur [D.J 1 A,I a,I b] [D.J 1 A,I c,I d],aN.ro (ao n)] (aV.vals [al r]))
def _root_.Go.Sx.O.w(A:ah)(a b c:Int):O:=.a (.dm [some [D.J 1 A,I a,I b],none] (aV.vals [ao c]))
def _root_.Go.Sx.O.y(A:ah)(a b:Int)(c:Bool):O:=.a (.dm [some [D.J 1 A,I a,I b],none] (aV.vals [al c]))
def bf(n:Nat)(e:List (Nat×aJ))(b:List (Nat×List aH)):aF:={ env:=Z9 n e,boxes:=b }
