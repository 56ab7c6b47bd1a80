import Derived.Test.YtdchjefneblpgaaGreatGE
set_option linter.unusedVariables false
set_option linter.unusedSimpArgs false
namespace Go.Proofs.YtdchjefneblpgaaGreat
open Go.Sx Go.RowKit
variable {a b c d e : Int} {A C : ai} {q : Bool}
theorem aoP(h:ak [.b ((A.length:Int) != (C.length:Int)) true]):
 aK 109 [a7 2 A,a7 2 C] [aI false]:=
 h.of
def vY(A C:ai)(a:Int):aE:=bi 26 [(0,dX 2 A),(1,dX 2 C),(5,aZ a)] []
def KE(q:Bool):aE:=bi 26 [(4,.aD (.one (.bg q)))] []
theorem aoQ(h:ak [.i A a [I b,I c],.x C a [I d,I e],.b (!(b==d&&c==e)) true]):
 bb (az Tryz.f109 0) (vY A C a) .ret (KE false):=
 h.a' [4] []
theorem aoR(h:ak [.i A a [I b,I c],.x C a [I d,I e],.b (!(b==d&&c==e)) false,.u a]):
 bb (az Tryz.f109 0) (vY A C a) .normal (vY A C (a+1)):=
 h.a' [5,0,1] []
def Sd:aE:=bi 26 [] []
theorem aoi(h:ak [.f A a false]):
 bb (az Tryz.f109 0) (vY A C a) (.exit 0) Sd:=
 h.a' [] []
theorem aoj(h:ak [.b ((A.length:Int) != (C.length:Int)) false,.l [] [5,0,1] [] (az Tryz.f109 0) (vY A C 0) .ret (KE q)]):
 aK 109 [a7 2 A,a7 2 C] [aI q]:=
 h.of
theorem aok(h:ak [.b ((A.length:Int) != (C.length:Int)) false,.l [] [5,0,1] [] (az Tryz.f109 0) (vY A C 0) (.exit 0) Sd]):
 aK 109 [a7 2 A,a7 2 C] [aI true]:=
 h.of
end Go.Proofs.YtdchjefneblpgaaGreat
namespace Go.Proofs.YtdchjefneblpgaaGreat
open Go.Sx Go.RowKit
variable {a b c d e : Int} {A C : ai} {q : Bool}
