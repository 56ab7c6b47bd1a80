import Derived.Test.YtdchjefneblpgaaGreatGE
set_option linter.unusedVariables false
set_option linter.unusedSimpArgs false
namespace Go.Proofs.YtdchjefneblpgaaGreat
open Go.Sx Go.RowKit
variable {a b c d e f g i j k l m n o p a0 b9 de d0 bM f0 g0 i0 j0 : Int} {A C E F G H au K L M N Q R S bz V X Y Z fw tB kY vC lP xP lR xR lS xT lT H1 se xU vE xV vF xW xX xY tD tE tF Db Pd Pf Hl Pg Ph Pj : ah} {q r s t u v w x y z ic : Bool}
theorem arz(h:af [.r 12 [aM 1 A] [al q],.b q true]):
 aw 7 [aM 1 A] [al true]:=
 h.of
def X7(A:ah)(q:Bool)(C:ah)(a b:Int)(E F:ah)(c d:Int)(G H au K:ah)(r:Bool)(L:ah)(e f:Int)(M N P Q:ah)(s t:Bool)(R:ah)(g i:Int)(S bz V X Y:ah)(j k:Int)(Z tB vC xP xR:ah)(m n:Int)(xT H1 xU xV xW:ah)(o p:Int)(Hf Hg Hh Hi:ah)(ej:Int)(Hj:ah)(eP c1 d1 e1:Int)(u v w x:Bool)(Pb Pe:ah)(y:Bool)(f1 g1:Int)(ZI:ah)(i1 lA:Int)(ZJ ZK ZL Ha:ah)(z:Bool)(l:List O):List O:=.r 12 [aM 1 A] [al q]::.b q false::.r 49 [aM 1 A] [.agg (bt C a b),aM 5 E]::.r 50 [.agg (bt C a b),aM 5 E] [.agg (cl F c d G H au K),al r]::.r 14 [.agg (bt C a b),aM 5 E] [.agg (cl L e f M N P Q),al s]::.b (!r==s) false::.r 35 [.agg (cl F c d G H au K),.agg (cl L e f M N P Q)] [al t]::.n t false::.r 51 [aM 1 A] [.agg (cl R g i S bz V X)]::.r 52 [aM 1 A] [.agg (cl Y j k Z tB vC xP),.agg (cl xR m n xT H1 xU xV)]::.r 53 [aM 1 A] [.agg (cl xW o p Hf Hg Hh Hi),ao ej]::.r 54 [aM 1 A] [.agg (bt Hj eP c1),ao d1,ao e1]::.r 55 [.agg (cl R g i S bz V X)] [al u]::.r 56 [.agg (cl R g i S bz V X)] [al v]::.b (!u==v) false::.r 57 [.agg (cl Y j k Z tB vC xP),.agg (cl xR m n xT H1 xU xV)] [al w]::.r 35 [.agg (cl Y j k Z tB vC xP),.agg (cl xR m n xT H1 xU xV)] [al x]::.b (!w==x) false::.r 58 [.agg (cl xW o p Hf Hg Hh Hi),ao ej] [aM 5 Pb]::.r 59 [.agg (cl xW o p Hf Hg Hh Hi),ao ej] [aM 5 Pe]::.r 37 [aM 5 Pb,aM 5 Pe] [al y]::.n y false::.r 60 [.agg (bt Hj eP c1),ao d1,ao e1] [ao f1]::.r 61 [.agg (bt Hj eP c1),ao d1,ao e1] [ao g1]::.b (f1 != g1) false::.r 50 [.agg [D.J 4 [[I 1,I 0,I 0,D.v (aO)]],I 2,I 1],.one (.J 5 [(bx 0 0 0 1 0)])] [.agg (cl ZI i1 lA ZJ ZK ZL Ha),al z]::l
theorem arA(h:af (X7 A r E c i lR Db bM f0 Pg se vE vF q xX a0 b9 xY tD tE tF s t F a b G H au K L d e M N Q R S f g bz V X Y Z j k fw kY lP lS l lT m n o p u v w x Pd Pf y de d0 Ph g0 i0 C Pj tB vC z [.n q true,.b z true,.b ((C.length:Int)==2) true,.p ((0:Int)<=1),.p (1<(C.length:Int)),.e C 1 (bj xP xR Hl xT H1 xU xV xW)])):
 aw 7 [aM 1 A] [al ((Hl.length:Int)==1)]:=
 h.of
def BZ(A C:ah)(d e:Int)(au K L M N:ah)(f a:Int)(E F G H:ah)(q:Bool)(b c:Int):aF:=bf 167 [(4,aJ.aI (bC.one (aD 270100 5 A))),(5,aT 5),(18,aT 18),(19,.aI (.one (.bc q))),(20,a1 c),(21,a1 b)] [(18,[aD 1110000 4 N,ay f,ay a,aD 1110003 8 E,aD 1110004 6 F,aD 1110005 5 G,aD 1110006 3 H]),(5,[aD 330000 4 C,ay d,ay e,aD 330003 8 au,aD 330004 6 K,aD 330005 5 L,aD 330006 3 M])]
theorem aqY(h:af [.b (decide (a<=3)) true,.r 58 [.agg (cl F b d H A C E),ao a] [aM 5 G],.v (c+(G.length:Int)),.u a]):
 aY (aq Tryz.f7 0) (BZ au F b d H A C E K e f L M N Q q a c) .normal (BZ au F b d H A C E K e f L M N Q q (a+1) (c+(G.length:Int))):=
 h.aW [21,20,5,4,19,18] [18,5]
def XD(A C:ah)(c d:Int)(au K L M N:ah)(e a:Int)(E F G H:ah)(q:Bool)(b:Int):aF:=bf 167 [(4,aJ.aI (bC.one (aD 270100 5 A))),(5,aT 5),(18,aT 18),(19,.aI (.one (.bc q))),(20,a1 b)] [(18,[aD 1110000 4 N,ay e,ay a,aD 1110003 8 E,aD 1110004 6 F,aD 1110005 5 G,aD 1110006 3 H]),(5,[aD 330000 4 C,ay c,ay d,aD 330003 8 au,aD 330004 6 K,aD 330005 5 L,aD 330006 3 M])]
theorem aqZ(h:af [.b (decide (d<=3)) false]):
 aY (aq Tryz.f7 0) (BZ F G c f N A C E H a b au K L M q d e) (.exit 0) (XD F G c f N A C E H a b au K L M q e):=
 h.aW [5,20,4,19,18] [18,5]
theorem aq0(h:af (X7 A s L e k C au a b K F G H r Pd bM f0 Pf Hl Pg Ph t u M c d N Q R S bz f g V X Y Z fw i j kY lP lR lS lT l m se vE vF xX n xY o p a0 b9 v w x y Pj tB z g0 i0 tD de d0 E tE tF Db q [.n r false,.l [] [21,20,5,4,19,18] [18,5] (aq Tryz.f7 0) (BZ C au a b K F G H tD de d0 E tE tF Db q 0 0) (.exit 0) (XD C au a b K F G H tD de d0 E tE tF Db q j0),.r 56 [.agg (cl au a b K F G H)] [al ic],.b ic true,.b (j0==(C.length:Int)) true,.b q true,.b ((E.length:Int)==2) true,.p ((0:Int)<=1),.p (1<(E.length:Int)),.e E 1 (bj xP xR vC xT H1 xU xV xW)])):
 aw 7 [aM 1 A] [al ((vC.length:Int)==1)]:=
 h.of
