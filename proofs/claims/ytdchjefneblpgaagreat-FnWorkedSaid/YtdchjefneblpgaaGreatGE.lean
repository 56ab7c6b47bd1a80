import Derived.Test.YtdchjefneblpgaaGreatRows
import Derived.Test.YtdchjefneblpgaaGreatR34
set_option linter.unusedVariables false
set_option linter.unusedSimpArgs false
namespace Go.Proofs.YtdchjefneblpgaaGreat
open Go.Sx Go.RowKit Go.Proofs.Tryz
abbrev ar:=hA prog
abbrev Mi:=kj prog
abbrev bY:=bT prog
abbrev aX:=gf prog
abbrev ad:=e3 prog
def _root_.Go.Sx.O.k(A:ae)(f:Nat)(a b c d n r:Int):O:=.p (bT prog f [aL.cur [D.J 1 A,I a,I b] [D.J 1 A,I c,I d],aL.ro (af n)] (aT.vals [af r]))
def _root_.Go.Sx.O.m(A:ae)(f:Nat)(a b c d n:Int)(r:Bool):O:=.p (bT prog f [aL.cur [D.J 1 A,I a,I b] [D.J 1 A,I c,I d],aL.ro (af n)] (aT.vals [ag r]))
def _root_.Go.Sx.O.w(A:ae)(a b c:Int):O:=.a (.dg [some [D.J 1 A,I a,I b],none] (aT.vals [af c]))
def _root_.Go.Sx.O.y(A:ae)(a b:Int)(c:Bool):O:=.a (.dg [some [D.J 1 A,I a,I b],none] (aT.vals [ag c]))
def bd(n:Nat)(e:List (Nat×aE))(b:List (Nat×List az)):aD:={ env:=VO n e,boxes:=b }
