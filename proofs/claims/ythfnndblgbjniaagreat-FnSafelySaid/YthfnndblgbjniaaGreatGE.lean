import Derived.Test.YthfnndblgbjniaaGreatRows
import Derived.Test.YthfnndblgbjniaaGreatR34
namespace Go.Proofs.YthfnndblgbjniaaGreat
open Go.Sx Go.RowKit Go.Proofs.Tryz
abbrev ar:=iF prog
abbrev RC:=ks prog
abbrev cb:=b4 prog
abbrev aV:=fS prog
abbrev ad:=fR prog
def _root_.Go.Sx.O.k(A:af)(f:Nat)(a b c d n r:Int):O:=.p (b4 prog f [aM.cur [D.J 1 A,I a,I b] [D.J 1 A,I c,I d],aM.ro (ae n)] (a1.vals [ae r]))
def _root_.Go.Sx.O.m(A:af)(f:Nat)(a b c d n:Int)(r:Bool):O:=.p (b4 prog f [aM.cur [D.J 1 A,I a,I b] [D.J 1 A,I c,I d],aM.ro (ae n)] (a1.vals [ak r]))
def _root_.Go.Sx.O.w(A:af)(a b c:Int):O:=.a (.dL [some [D.J 1 A,I a,I b],none] (a1.vals [ae c]))
def _root_.Go.Sx.O.y(A:af)(a b:Int)(c:Bool):O:=.a (.dL [some [D.J 1 A,I a,I b],none] (a1.vals [ak c]))
def a'(n:Nat)(e:List (Nat×aI))(b:List (Nat×List aG)):aD:={ env:=ac4 n e,boxes:=b }
