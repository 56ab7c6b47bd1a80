import Derived.Test.YtdchjefneblpgaaGreatRows
import Derived.Test.YtdchjefneblpgaaGreatR34
namespace Go.Proofs.YtdchjefneblpgaaGreat
open Go.Sx Go.RowKit Go.Proofs.Tryz
abbrev av:=h2 prog
abbrev MK:=kI prog
abbrev b3:=bY prog
abbrev a7:=gl prog
abbrev ad:=fe prog
def _root_.Go.Sx.O.k(A:ae)(f:Nat)(a b c d n r:Int):O:=.p (bY prog f [aM.cur [D.J 1 A,I a,I b] [D.J 1 A,I c,I d],aM.ro (af n)] (aT.vals [af r]))
def _root_.Go.Sx.O.m(A:ae)(f:Nat)(a b c d n:Int)(r:Bool):O:=.p (bY prog f [aM.cur [D.J 1 A,I a,I b] [D.J 1 A,I c,I d],aM.ro (af n)] (aT.vals [ak r]))
def _root_.Go.Sx.O.w(A:ae)(a b c:Int):O:=.a (.dr [some [D.J 1 A,I a,I b],none] (aT.vals [af c]))
def _root_.Go.Sx.O.y(A:ae)(a b:Int)(c:Bool):O:=.a (.dr [some [D.J 1 A,I a,I b],none] (aT.vals [ak c]))
def bg(n:Nat)(e:List (Nat×aJ))(b:List (Nat×List aB)):aI:={ env:=Wl n e,boxes:=b }
