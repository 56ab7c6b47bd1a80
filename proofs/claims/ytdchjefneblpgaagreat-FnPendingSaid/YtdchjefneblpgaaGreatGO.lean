import Derived.Test.YtdchjefneblpgaaGreatGE
set_option linter.unusedVariables false
set_option linter.unusedSimpArgs false
namespace Go.Proofs.YtdchjefneblpgaaGreat
open Go.Sx Go.RowKit
variable {a b c d e f g i j k : Int} {A C E F G H aw K L M N Q R S bO V X Y Z fu kt lj lR n1 n2 r4 u6 u7 : ai} {q r s t u v : Bool}
theorem aiU(h:ak [.r 12 [a7 1 A] [aI q],.b q true]):
 aK 11 [a7 1 A] [aI true]:=
 h.of
def Bl(A C E:ai)(a:Int):aE:=bi 97 [(0,dX 1 A),(4,aB.aD (bd.one (ay 180000 5 C))),(5,aB.aD (bd.one (ay 400000 2 E))),(6,aZ a)] []
theorem aiV(h:ak [.i C a (bu d b c e f),.r 111 [a7 2 A,.agg [I b,I c]] [aI q],.n q false,.u a]):
 bb (az Tryz.f11 0) (Bl E C A a) .normal (Bl E C A (a+1)):=
 h.a' [6,4,5,0] []
def US(A:ai):aE:=bi 97 [(0,dX 1 A)] []
theorem aiW(h:ak [.f C a false]):
 bb (az Tryz.f11 0) (Bl A C E a) (.exit 0) (US A):=
 h.a' [0] []
theorem aiX(h:ak [.r 12 [a7 1 H] [aI q],.b q false,.r 102 [a7 1 H] [.agg (cl A a b C E F G)],.r 103 [.agg (cl A a b C E F G)] [a7 5 Y],.r 38 [.agg (cl A a b C E F G)] [a7 5 Z],.r 37 [a7 5 Y,a7 5 Z] [aI r],.n r false,.r 104 [.agg (cl A a b C E F G)] [a7 4 fu],.r 105 [.agg (cl A a b C E F G)] [a7 4 kt],.r 19 [a7 4 fu,a7 4 kt] [aI s],.n s false,.r 106 [.agg (cl A a b C E F G)] [al j],.r 107 [.agg (cl A a b C E F G)] [al k],.b (j != k) false,.r 108 [.agg (cl A a b C E F G)] [a7 2 aw],.r 110 [.agg (cl A a b C E F G)] [a7 2 lj],.r 109 [a7 2 aw,a7 2 lj] [aI t],.n t false,.l [] [6,4,5,0] [] (az Tryz.f11 0) (Bl H Y aw 0) (.exit 0) (US H),.r 112 [a7 1 H] [.agg (cl K c d L M N Q),al e],.r 113 [a7 1 H] [.agg (cl R f g S bO V X),al i],.r 114 [.agg (cl K c d L M N Q),al e] [a7 4 lR],.r 20 [.agg (cl K c d L M N Q),al e] [a7 4 n1],.r 19 [a7 4 lR,a7 4 n1] [aI u],.b u true,.r 115 [.agg (cl R f g S bO V X),al i] [a7 5 n2],.r 38 [.agg (cl R f g S bO V X)] [a7 5 r4],.r 116 [a7 5 r4,al i] [a7 5 u6],.r 37 [a7 5 n2,a7 5 u6] [aI v],.b v true,.r 103 [.agg [D.v (aO),I 0,I 0,D.J 8 [[D.J 5 [(bu 0 0 0 3 0)],D.v (aO),D.v (aO),D.v (aO),D.v (aO),D.v (aO),D.v (aO),D.v (aO)]],D.v (aO),D.v (aO),D.v (aO)]] [a7 5 u7]]):
 aK 11 [a7 1 H] [aI ((u7.length:Int)==1)]:=
 h.of
