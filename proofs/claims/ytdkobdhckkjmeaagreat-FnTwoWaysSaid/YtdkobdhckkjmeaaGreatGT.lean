import Derived.Test.YtdkobdhckkjmeaaGreatRows
import Derived.Test.YtdkobdhckkjmeaaGreatGE
set_option linter.unusedVariables false
set_option linter.unusedSimpArgs false
namespace Go.Proofs.YtdkobdhckkjmeaaGreat
open Go.Sx Go.RowKit
variable {a b c d e f g i j : Int} {A C : LL}
def qhU(A C:LL)(a:Int):St:=
 { env:=envOf 26 [(0,vF 4 A),(1,vF 4 C),(5,vI a)],boxes:=[] }
theorem qJe(h:Oo [.i A a [I c,I d,I e,I f],.x C a [I g,I i,I j,I b],.b (!(c==g&&(d==i&&(e==j&&f==b)))) false,.u a]):
 Tp (qaa Tryz.f22 0) (qhU A C a) .normal (qhU A C (a+1)):=
 h.lp [5,0,1] []
def qsf:St:=
 { env:=envOf 26 [],boxes:=[] }
theorem qJf(h:Oo [.f A a false]):
 Tp (qaa Tryz.f22 0) (qhU A C a) (.exit 0) qsf:=
 h.lp [] []
theorem qJg(h:Oo [.b ((A.length:Int) != (C.length:Int)) false,.l [] [5,0,1] [] (qaa Tryz.f22 0) (qhU A C 0) (.exit 0) qsf]):
 Rt 22 [cS 4 A,cS 4 C] [cB true]:=
 h.of
end Go.Proofs.YtdkobdhckkjmeaaGreat
