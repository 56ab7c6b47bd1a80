import Derived.Test.YtdkobdhckkjmeaaGreatRows
import Derived.Test.YtdkobdhckkjmeaaGreatGE
set_option linter.unusedVariables false
set_option linter.unusedSimpArgs false
namespace Go.Proofs.YtdkobdhckkjmeaaGreat
open Go.Sx Go.RowKit
variable {a b c d e f g i j k l m n o p a0 b0 c0 d0 e0 f0 : Int} {A C E F G H J K L M N P Q R S U V W X Y Z A0 C0 E0 F0 G0 H0 J0 K0 L0 M0 N0 P0 Q0 R0 S0 U0 V0 W0 : LL} {q r s t u v w x y z q0 r0 s0 t0 u0 v0 : Bool}
theorem qku(A:LL)(h:Oo []):
 Rt 15 [cS 1 A] [cB (decide ((A.length:Int)>1048576))]:=
 h.of
theorem laws_FnTokens_p0(h:Oo [.r 15 [cS 1 A] [cB q],.b q true]):
 Rt 7 [cS 1 A] [cB true]:=
 h.of
def y0H(A:LL)(q:Bool)(C:LL)(a b:Int)(E F G H:LL)(c:Int)(J:LL)(d e:Int)(K L M N:LL)(r:Bool)(P:LL)(f g:Int)(Q R S U:LL)(s t u v:Bool)(i j k m:Int)(V:LL)(n o:Int)(X Y Z A1:LL)(w:Bool)(C1:LL)(p a1:Int)(E1 F1 G1 H1:LL)(x:Bool)(J1:LL)(b1 c1:Int)(K1 L1 M1 N1:LL)(y z q1:Bool)(l:List O):List O:=.r 15 [cS 1 A] [cB q]::.b q false::.r 40 [cS 1 A] [.agg (cl C a b E F G H),cI c]::.r 41 [.agg (cl C a b E F G H),cI c] [.agg (cl J d e K L M N),cB r]::.r 42 [.agg (cl C a b E F G H),cI c] [.agg (cl P f g Q R S U),cB s]::.b (!r==s) false::.r 33 [.agg (cl J d e K L M N),.agg (cl P f g Q R S U)] [cB t]::.n t false::.r 43 [.agg (cl C a b E F G H),cI c] [cB u]::.r 44 [.agg (cl C a b E F G H),cI c] [cB v]::.b (!u==v) false::.r 45 [.agg (cl C a b E F G H)] [cI i]::.r 46 [.agg (cl C a b E F G H)] [cI j]::.b (i != j) false::.r 47 [.agg (cl C a b E F G H),cI c] [cI k]::.r 48 [.agg (cl C a b E F G H),cI c] [cI m]::.b (k != m) false::.r 17 [.agg [D.sl 4 [[I 1,I 0,I 0,D.v (sn)]],I 1,I 1],.one (.v (sn))] [.agg (cl V n o X Y Z A1),cB w]::.r 41 [.agg (cl V n o X Y Z A1),cI 2] [.agg (cl C1 p a1 E1 F1 G1 H1),cB x]::.r 41 [.agg (cl C1 p a1 E1 F1 G1 H1),cI 2] [.agg (cl J1 b1 c1 K1 L1 M1 N1),cB y]::.b x true::.b y true::.r 44 [.agg (cl J1 b1 c1 K1 L1 M1 N1),cI 2] [cB z]::.b z true::.r 44 [.agg (cl C1 p a1 E1 F1 G1 H1),cI 2] [cB q1]::l
theorem laws_FnTokens_p6(h:Oo (y0H H r A a b C E F G c J d e K L M N q V i j W X Y Z s t u v k l m n A0 o p C0 E0 F0 G0 r0 P f g Q R S U w H0 a0 b0 J0 K0 L0 M0 x y z [.n q true,.r 33 [.agg (cl J d e K L M N),.agg (cl A a b C E F G)] [cB q0],.b q0 true])):
 Rt 7 [cS 1 H] [.one (B !z)]:=
 h.of
theorem laws_FnTokens_p8(h:Oo (y0H J r E b c C F A G a K d e L M H N q V i j W X Y Z s t u v k l m n A0 o p C0 E0 F0 G0 s0 P f g Q R S U w H0 a0 b0 J0 K0 L0 M0 x y z [.n q false,.n z true,.b ((H.length:Int)==(A.length:Int)) true,.x A a [B t0,I c0,I d0,B u0,B v0],.x C c0 (wk N0 P0 Q0 R0 S0 U0 V0 W0),.r 49 [.agg (wk N0 P0 Q0 R0 S0 U0 V0 W0),cI a] [cB q0],.b q0 true,.r 44 [.agg (cl K d e L M H N),cI a] [cB r0],.n r0 true])):
 Rt 7 [cS 1 J] [cB true]:=
 h.of
theorem laws_FnTokens_p9(h:Oo (y0H N r E b c C F A G a J d e K L H M q V i j W X Y Z s t u v k l m n A0 o p C0 E0 F0 G0 s0 P f g Q R S U w H0 a0 b0 J0 K0 L0 M0 x y z [.n q false,.n z true,.b ((H.length:Int)==(A.length:Int)) true,.x A a [B t0,I c0,I f0,B u0,B v0],.x C c0 (wk N0 P0 Q0 R0 S0 U0 V0 W0),.r 49 [.agg (wk N0 P0 Q0 R0 S0 U0 V0 W0),cI a] [cB q0],.b q0 true,.r 44 [.agg (cl J d e K L H M),cI a] [cB r0],.n r0 false,.r 48 [.agg (cl E b c C F A G),cI a] [cI d0],.r 48 [.agg (cl J d e K L H M),cI a] [cI e0]])):
 Rt 7 [cS 1 N] [cB (d0==e0)]:=
 h.of
