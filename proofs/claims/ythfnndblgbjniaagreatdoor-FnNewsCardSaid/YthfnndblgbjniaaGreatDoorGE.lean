import Derived.Test.YthfnndblgbjniaaGreatDoorRows
import Derived.Test.YthfnndblgbjniaaGreatDoorR34
namespace Go.Proofs.YthfnndblgbjniaaGreatDoor
open Go.Sx Go.RowKit Go.Proofs.Tryz
abbrev ax:=hI prog
abbrev asb:=px prog
abbrev b5:=bP prog
abbrev aX:=fJ prog
abbrev af:=e8 prog
def _root_.Go.Sx.O.k(A:ae)(f:Nat)(a b c d n r:Int):O:=.p (bP prog f [aJ.cur [D.J 1 A,I a,I b] [D.J 1 A,I c,I d],aJ.ro (ag n)] (aS.vals [ag r]))
def _root_.Go.Sx.O.m(A:ae)(f:Nat)(a b c d n:Int)(r:Bool):O:=.p (bP prog f [aJ.cur [D.J 1 A,I a,I b] [D.J 1 A,I c,I d],aJ.ro (ag n)] (aS.vals [ar r]))
def _root_.Go.Sx.O.w(A:ae)(a b c:Int):O:=.a (.cY [some [D.J 1 A,I a,I b],none] (aS.vals [ag c]))
def _root_.Go.Sx.O.y(A:ae)(a b:Int)(c:Bool):O:=.a (.cY [some [D.J 1 A,I a,I b],none] (aS.vals [ar c]))
def bd(n:Nat)(e:List (Nat×aE))(b:List (Nat×List aC)):aD:={ env:=Vd n e,boxes:=b }
