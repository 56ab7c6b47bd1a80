import Derived.Test.YthfnndblgbjniaaGreatDoorRows
import Derived.Test.YthfnndblgbjniaaGreatDoorR34
namespace Go.Proofs.YthfnndblgbjniaaGreatDoor
open Go.Sx Go.RowKit Go.Proofs.Tryz
abbrev al:=ie prog
abbrev NL:=kl prog
abbrev b9:=b3 prog
abbrev aY:=gP prog
abbrev ae:=ft prog
def _root_.Go.Sx.O.k(A:af)(f:Nat)(a b c d n r:Int):O:=.p (b3 prog f [aM.cur [D.J 1 A,I a,I b] [D.J 1 A,I c,I d],aM.ro (ag n)] (aV.vals [ag r]))
def _root_.Go.Sx.O.m(A:af)(f:Nat)(a b c d n:Int)(r:Bool):O:=.p (b3 prog f [aM.cur [D.J 1 A,I a,I b] [D.J 1 A,I c,I d],aM.ro (ag n)] (aV.vals [ai r]))
def _root_.Go.Sx.O.w(A:af)(a b c:Int):O:=.a (.dB [some [D.J 1 A,I a,I b],none] (aV.vals [ag c]))
def _root_.Go.Sx.O.y(A:af)(a b:Int)(c:Bool):O:=.a (.dB [some [D.J 1 A,I a,I b],none] (aV.vals [ai c]))
def bf(n:Nat)(e:List (Nat×aG))(b:List (Nat×List aE)):aF:={ env:=XW n e,boxes:=b }
