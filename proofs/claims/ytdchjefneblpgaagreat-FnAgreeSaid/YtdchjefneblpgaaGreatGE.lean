import Derived.Test.YtdchjefneblpgaaGreatRows
import Derived.Test.YtdchjefneblpgaaGreatR34
set_option linter.unusedVariables false
set_option linter.unusedSimpArgs false
namespace Go.Proofs.YtdchjefneblpgaaGreat
open Go.Sx Go.RowKit Go.Proofs.Tryz
abbrev aw:=ja prog
abbrev OE:=k' prog
abbrev dd:=dC prog
abbrev aY:=gA prog
abbrev ah:=fG prog
def _root_.Go.Sx.O.k(A:ak)(f:Nat)(a b c d n r:Int):O:=.p (dC prog f [bc.cur [D.J 1 A,I a,I b] [D.J 1 A,I c,I d],bc.ro (ag n)] (bG.vals [ag r]))
def _root_.Go.Sx.O.m(A:ak)(f:Nat)(a b c d n:Int)(r:Bool):O:=.p (dC prog f [bc.cur [D.J 1 A,I a,I b] [D.J 1 A,I c,I d],bc.ro (ag n)] (bG.vals [al r]))
def _root_.Go.Sx.O.w(A:ak)(a b c:Int):O:=.a (.hd [some [D.J 1 A,I a,I b],none] (bG.vals [ag c]))
def _root_.Go.Sx.O.y(A:ak)(a b:Int)(c:Bool):O:=.a (.hd [some [D.J 1 A,I a,I b],none] (bG.vals [al c]))
def bp(n:Nat)(e:List (Nat×aI))(b:List (Nat×List aD)):aG:={ env:=Yq n e,boxes:=b }
