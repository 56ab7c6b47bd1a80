import Derived.Test.YtdchjefneblpgaaGreatGE
set_option linter.unusedVariables false
set_option linter.unusedSimpArgs false
namespace Go.Proofs.YtdchjefneblpgaaGreat
open Go.Sx Go.RowKit
variable {a b c d e f g i j k l : Int} {A C : ai}
def A6(A C:ai)(a:Int):aE:=bi 26 [(0,dX 5 A),(1,dX 5 C),(5,aZ a)] []
theorem aoH(h:ak [.i A a (bu e f g i j),.x C a (bu k l b c d),.b (!(e==k&&(f==l&&g==b&&(i==c&&j==d)))) false,.u a]):
 bb (az Tryz.f37 0) (A6 A C a) .normal (A6 A C (a+1)):=
 h.a' [5,0,1] []
def QM:aE:=bi 26 [] []
theorem aoI(h:ak [.f A a false]):
 bb (az Tryz.f37 0) (A6 A C a) (.exit 0) QM:=
 h.a' [] []
theorem aoJ(h:ak [.b ((A.length:Int) != (C.length:Int)) false,.l [] [5,0,1] [] (az Tryz.f37 0) (A6 A C 0) (.exit 0) QM]):
 aK 37 [a7 5 A,a7 5 C] [aI true]:=
 h.of
def Aw(A C:ai)(a:Int):aE:=bi 26 [(0,dX 4 A),(1,dX 4 C),(5,aZ a)] []
theorem aoK(h:ak [.i A a [I c,I d,I e,I f],.x C a [I g,I i,I j,I b],.b (!(c==g&&(d==i&&(e==j&&f==b)))) false,.u a]):
 bb (az Tryz.f19 0) (Aw A C a) .normal (Aw A C (a+1)):=
 h.a' [5,0,1] []
def Sc:aE:=bi 26 [] []
theorem aoL(h:ak [.f A a false]):
 bb (az Tryz.f19 0) (Aw A C a) (.exit 0) Sc:=
 h.a' [] []
theorem aoM(h:ak [.b ((A.length:Int) != (C.length:Int)) false,.l [] [5,0,1] [] (az Tryz.f19 0) (Aw A C 0) (.exit 0) Sc]):
 aK 19 [a7 4 A,a7 4 C] [aI true]:=
 h.of
