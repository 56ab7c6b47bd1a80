import Derived.Test.YtdkobdhckkjmeaaGreatRows
import Derived.Test.YtdkobdhckkjmeaaGreatGE
set_option linter.unusedVariables false
set_option linter.unusedSimpArgs false
namespace Go.Proofs.YtdkobdhckkjmeaaGreat
open Go.Sx Go.RowKit
variable {a b c d e f g i j k l m n o p a0 b0 : Int} {A C E F G H J K L M N P Q R S U V W X Y Z A0 A1 C0 C1 E0 E1 F0 F1 G0 G1 H0 H1 J0 J1 K0 K1 L0 M0 N0 P0 Q0 R0 S0 U0 V0 W0 X0 Y0 Z0 : LL} {q r s t u v w x : Bool}
theorem laws_FnEpochsApart_p0(h:Oo [.r 15 [cS 1 A] [cB q],.b q true]):
 Rt 5 [cS 1 A] [cB true]:=
 h.of
def laws_FnEpochsApart_L0(A:LL)(a b:Int)(C E:LL)(c d:Int)(F:LL):St:=
 { env:=envOf 143 [(3,vP 3),(4,PV.al (AL.one (lO 230100 5 C))),(5,PV.al (AL.one (lO 230200 3 E))),(7,vI (c.tmod 4)),(8,PV.al (AL.one (lO 32 5 F))),(9,vI d)],boxes:=[(3,[lO 230000 4 A,lI a,lI b])] }
theorem laws_FnEpochsApart_L0_s0(h:Oo [.i A a (ri l i m n o),.b (i==g.tmod 4) true,.x A a (ri b c d e f),.g C [(ri b c d e f)] 40,.h [(ri b c d e f)],.u a]):
 Tp (qaa Tryz.f5 0) (laws_FnEpochsApart_L0 E j k A F g a C) .normal (laws_FnEpochsApart_L0 E j k A F g (a+1) (C++[(ri b c d e f)])):=
 h.lp [9,4,7,8,3,5] [3]
theorem laws_FnEpochsApart_L0_s1(h:Oo [.i A a (ri f c g i j),.b (c==b.tmod 4) false,.u a]):
 Tp (qaa Tryz.f5 0) (laws_FnEpochsApart_L0 E d e A F b a C) .normal (laws_FnEpochsApart_L0 E d e A F b (a+1) C):=
 h.lp [9,4,7,8,3,5] [3]
def laws_FnEpochsApart_X0(A:LL)(a b:Int)(C E:LL)(c:Int)(F:LL):St:=
 { env:=envOf 143 [(3,vP 3),(4,PV.al (AL.one (lO 230100 5 C))),(5,PV.al (AL.one (lO 230200 3 E))),(7,vI (c.tmod 4)),(8,PV.al (AL.one (lO 32 5 F)))],boxes:=[(3,[lO 230000 4 A,lI a,lI b])] }
theorem laws_FnEpochsApart_L0_x2(h:Oo [.f A d false]):
 Tp (qaa Tryz.f5 0) (laws_FnEpochsApart_L0 E a b A F c d C) (.exit 0) (laws_FnEpochsApart_X0 E a b A F c C):=
 h.lp [3,4,5,8,7] [3]
def y07(A:LL)(q:Bool)(C:LL)(a b:Int)(E F G:LL)(c:Int)(W:Code)(H J:LL)(d e:Int)(K L M N:LL)(r:Bool)(P:LL)(f g:Int)(Q R S U V X:LL)(i j:Int)(Y Z A1 C1:LL)(k:Int)(E1:LL)(m n:Int)(F1 G1 H1 J1:LL)(s:Bool)(K1:LL)(o p:Int)(L1 M1 N1 P1:LL)(a1:Int)(Q1 R1 S1 U1 V1 X1 Y1 Z1:LL)(b1:Int)(t u:Bool)(A2 C2 E2 F2 G2 H2 J2 K2:LL)(c1:Int)(v w:Bool)(l:List O):List O:=.r 15 [cS 1 A] [cB q]::.b q false::.r 16 [cS 1 A] [.agg (gr C a b),cS 5 E,cS 3 F]::.r 36 [cS 1 A] [cS 1 G]::.p ((0:Int)≤0)::.p (0<(G.length:Int))::.e G 0 [I c]::.p ((4:Int)≠0)::.l [] [9,4,7,8,3,5] [3] W (laws_FnEpochsApart_L0 C a b E F c 0 []) (.exit 0) (laws_FnEpochsApart_X0 C a b E F c H)::.r 17 [.agg (gr C a b),cS 5 E] [.agg (cl J d e K L M N),cB r]::.r 37 [.agg (cl J d e K L M N),cS 3 F] [.agg (cl P f g Q R S U),cS 1 V]::.r 38 [.agg (cl P f g Q R S U),cI 3000] [.agg (cl X i j Y Z A1 C1),cI k]::.r 17 [.agg (gr C a b),cS 5 H] [.agg (cl E1 m n F1 G1 H1 J1),cB s]::.r 38 [.agg (cl E1 m n F1 G1 H1 J1),cI 3000] [.agg (cl K1 o p L1 M1 N1 P1),cI a1]::.b ((Y.length:Int) != a) false::.b ((L1.length:Int) != a) false::.p ((0:Int)≤0)::.p (0<(Y.length:Int))::.e Y 0 (wk Q1 R1 S1 U1 V1 X1 Y1 Z1)::.r 20 [.agg (wk Q1 R1 S1 U1 V1 X1 Y1 Z1),cI (c.tmod 4)] [.agg [I b1,B t],cB u]::.p ((0:Int)≤0)::.p (0<(L1.length:Int))::.e L1 0 (wk A2 C2 E2 F2 G2 H2 J2 K2)::.r 20 [.agg (wk A2 C2 E2 F2 G2 H2 J2 K2),cI (c.tmod 4)] [.agg [I c1,B v],cB w]::.b u true::.b w true::l
theorem laws_FnEpochsApart_p3(h:Oo (y07 E q A a b G H J c (qaa Tryz.f5 0) W0 K d e L M N P u Q f g R S U V X0 Y0 k l C Z0 A1 C1 m W i j X Y Z A0 v E1 n o F F1 G1 H1 p C0 E0 F0 G0 H0 J0 K0 L0 a0 r s M0 N0 P0 Q0 R0 S0 U0 V0 b0 w t [.b r true])):
 Rt 5 [cS 1 E] [cB ((C.length:Int)==a)]:=
 h.of
theorem laws_FnEpochsApart_p4(h:Oo (y07 E q A a b G H J c (qaa Tryz.f5 0) W0 K d e L M N P v Q f g R S U V X0 Y0 k l C Z0 A1 C1 m W i j X Y Z A0 w E1 n o F F1 G1 H1 p C0 E0 F0 G0 H0 J0 K0 L0 a0 r s M0 N0 P0 Q0 R0 S0 U0 V0 b0 t u [.b r false,.b t true])):
 Rt 5 [cS 1 E] [cB ((C.length:Int)==a)]:=
 h.of
theorem laws_FnEpochsApart_p5(h:Oo (y07 F q C a c G H J b (qaa Tryz.f5 0) J1 K d e L M N P w Q f g R S U V K1 W i j A X Y Z o A0 k l C0 E0 F0 G0 x H0 m n E J0 K0 L0 p M0 N0 P0 Q0 R0 S0 U0 V0 a0 r s W0 X0 Y0 Z0 A1 C1 E1 F1 b0 t u [.b r false,.b t false,.r 39 [.agg (cl W i j A X Y Z),cI (b.tmod 4)] [cS 4 G1],.r 39 [.agg (cl H0 m n E J0 K0 L0),cI (b.tmod 4)] [cS 4 H1],.r 22 [cS 4 G1,cS 4 H1] [cB v],.b v true])):
 Rt 5 [cS 1 F] [cB ((A.length:Int)==a)]:=
 h.of
end Go.Proofs.YtdkobdhckkjmeaaGreat
