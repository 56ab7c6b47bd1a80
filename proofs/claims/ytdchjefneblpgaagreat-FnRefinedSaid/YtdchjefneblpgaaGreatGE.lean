import Derived.Test.YtdchjefneblpgaaGreatRows
import Derived.Test.YtdchjefneblpgaaGreatR34
set_option linter.unusedVariables false
set_option linter.unusedSimpArgs false
namespace Go.Proofs.YtdchjefneblpgaaGreat
open Go.Sx Go.RowKit Go.Proofs.Tryz
abbrev al:=jn prog
abbrev Qy:=jo prog
abbrev b':=bW prog
abbrev a7:=fT prog
abbrev ad:=fS prog
def _root_.Go.Sx.O.k(A:ae)(f:Nat)(a b c d n r:Int):O:=.p (bW prog f [aN.cur [D.J 1 A,I a,I b] [D.J 1 A,I c,I d],aN.ro (ag n)] (aU.vals [ag r]))
def _root_.Go.Sx.O.m(A:ae)(f:Nat)(a b c d n:Int)(r:Bool):O:=.p (bW prog f [aN.cur [D.J 1 A,I a,I b] [D.J 1 A,I c,I d],aN.ro (ag n)] (aU.vals [ai r]))
def _root_.Go.Sx.O.w(A:ae)(a b c:Int):O:=.a (.dp [some [D.J 1 A,I a,I b],none] (aU.vals [ag c]))
def _root_.Go.Sx.O.y(A:ae)(a b:Int)(c:Bool):O:=.a (.dp [some [D.J 1 A,I a,I b],none] (aU.vals [ai c]))
def bj(n:Nat)(e:List (Nat×aL))(b:List (Nat×List aH)):aJ:={ env:=abg n e,boxes:=b }
