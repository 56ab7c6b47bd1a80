import Derived.Test.YtdkobdhckkjmeaaGreatRows
import Derived.Test.YtdkobdhckkjmeaaGreatGE
set_option linter.unusedVariables false
set_option linter.unusedSimpArgs false
namespace Go.Proofs.YtdkobdhckkjmeaaGreat
open Go.Sx Go.RowKit
variable {a b c d e f g i j k l m n o : Int} {A C E F G H J K L M N P Q R S U V W X Y Z A0 C0 E0 F0 G0 H0 J0 K0 L0 M0 N0 : LL} {q r s t u : Bool}
theorem laws_FnTwoWays_p0(h:Oo [.r 15 [cS 1 A] [cB q],.b q true]):
 Rt 6 [cS 1 A] [cB true]:=
 h.of
def laws_FnTwoWays_L0(A:LL)(a c:Int)(F G:LL)(d e:Int)(H J K C:LL)(b:Int)(E:LL):St:=
 { env:=envOf 132 [(3,vP 3),(5,PV.al (AL.one (lO 240200 3 F))),(6,vP 6),(8,PV.al (AL.one (lO 33 3 E))),(9,vI b)],boxes:=[(6,[lO 310000 4 G,lI d,lI e,lO 310003 8 H,lO 310004 6 J,lO 310005 5 K,lO 310006 3 C]),(3,[lO 240000 4 A,lI a,lI c])] }
theorem laws_FnTwoWays_L0_s0(h:Oo [.b (decide (a≥0)) true,.x C a [I b,I c,I d],.g A [[I b,I c,I d]] 24,.h [[I b,I c,I d]],.v (a-1)]):
 Tp (qaa Tryz.f6 0) (laws_FnTwoWays_L0 J e f C K g i E F G H a A) .normal (laws_FnTwoWays_L0 J e f C K g i E F G H (a-1) (A++[[I b,I c,I d]])):=
 h.lp [9,8,5,6,3] [6,3]
def laws_FnTwoWays_X0(A:LL)(a b:Int)(F G:LL)(c d:Int)(H J K C E:LL):St:=
 { env:=envOf 132 [(3,vP 3),(5,PV.al (AL.one (lO 240200 3 F))),(6,vP 6),(8,PV.al (AL.one (lO 33 3 E)))],boxes:=[(6,[lO 310000 4 G,lI c,lI d,lO 310003 8 H,lO 310004 6 J,lO 310005 5 K,lO 310006 3 C]),(3,[lO 240000 4 A,lI a,lI b])] }
theorem laws_FnTwoWays_L0_x1(h:Oo [.b (decide (a≥0)) false]):
 Tp (qaa Tryz.f6 0) (laws_FnTwoWays_L0 H b c J K d e A C E F a G) (.exit 0) (laws_FnTwoWays_X0 H b c J K d e A C E F G):=
 h.lp [6,5,8,3] [6,3]
def laws_FnTwoWays_L1(a:Int)(A:LL)(c d:Int)(H J K L M:LL)(e b:Int)(C E F G:LL):St:=
 { env:=envOf 132 [(10,vP 10),(12,vP 12),(14,vI a)],boxes:=[(12,[lO 680000 4 A,lI c,lI d,lO 680003 8 H,lO 680004 6 J,lO 680005 5 K,lO 680006 3 L]),(10,[lO 630000 4 M,lI e,lI b,lO 630003 8 C,lO 630004 6 E,lO 630005 5 F,lO 630006 3 G])] }
def y07(a:Int)(A C E F G H J K L:LL)(b:Int)(q r:Bool)(M N P Q R S U V X:LL)(c:Int)(s t:Bool)(l:List O):List O:=.b (decide (a≤3)) true::.p ((0:Int)≤0)::.p (0<(A.length:Int))::.e A 0 (wk C E F G H J K L)::.r 20 [.agg (wk C E F G H J K L),cI a] [.agg [I b,B q],cB r]::.p ((0:Int)≤0)::.p (0<(M.length:Int))::.e M 0 (wk N P Q R S U V X)::.r 20 [.agg (wk N P Q R S U V X),cI a] [.agg [I c,B s],cB t]::.n r false::.n t false::l
theorem laws_FnTwoWays_L1_s3(h:Oo (y07 a C N P Q R S U V W f q r A X Y Z A0 C0 E0 F0 G0 g s t [.n q true,.n s true,.r 23 [.agg (cl J d e C K L M),cI a] [cS 4 H0],.r 23 [.agg (cl E b c A F G H),cI a] [cS 4 J0],.r 22 [cS 4 H0,cS 4 J0] [cB u],.n u false,.u a])):
 Tp (qaa Tryz.f6 1) (laws_FnTwoWays_L1 a E b c A F G H J d e C K L M) .normal (laws_FnTwoWays_L1 (a+1) E b c A F G H J d e C K L M):=
 h.lp [14,10,12] [12,10]
theorem laws_FnTwoWays_L1_s4(h:Oo (y07 a C N P Q R S U V W f q r A X Y Z A0 C0 E0 F0 G0 g s t [.n q true,.n s false,.u a])):
 Tp (qaa Tryz.f6 1) (laws_FnTwoWays_L1 a E b c A F G H J d e C K L M) .normal (laws_FnTwoWays_L1 (a+1) E b c A F G H J d e C K L M):=
 h.lp [14,10,12] [12,10]
theorem laws_FnTwoWays_L1_s5(h:Oo (y07 a C N P Q R S U V W f q r A X Y Z A0 C0 E0 F0 G0 g t s [.n q false,.u a])):
 Tp (qaa Tryz.f6 1) (laws_FnTwoWays_L1 a E b c A F G H J d e C K L M) .normal (laws_FnTwoWays_L1 (a+1) E b c A F G H J d e C K L M):=
 h.lp [14,10,12] [12,10]
def laws_FnTwoWays_X1v4:St:=
 { env:=envOf 132 [],boxes:=[] }
theorem laws_FnTwoWays_L1_x6(h:Oo [.b (decide (a≤3)) false]):
 Tp (qaa Tryz.f6 1) (laws_FnTwoWays_L1 a A b c C E F G H d e J K L M) (.exit 2) laws_FnTwoWays_X1v4:=
 h.lp [] []
theorem laws_FnTwoWays_p4(h:Oo [.r 15 [cS 1 K] [cB q],.b q false,.r 16 [cS 1 K] [.agg (gr J a d),cS 5 L0,cS 3 A],.r 17 [.agg (gr J a d),cS 5 L0] [.agg (cl H b c C E F G),cB r],.v ((A.length:Int)-1),.l [] [9,8,5,6,3] [6,3] (qaa Tryz.f6 0) (laws_FnTwoWays_L0 J a d A H b c C E F G ((A.length:Int)-1) []) (.exit 0) (laws_FnTwoWays_X0 J a d A H b c C E F G N),.r 37 [.agg (cl H b c C E F G),cS 3 A] [.agg (cl P e f Q R S U),cS 1 M0],.r 37 [.agg (cl H b c C E F G),cS 3 N] [.agg (cl V g i W X Y Z),cS 1 N0],.r 38 [.agg (cl P e f Q R S U),cI 3000] [.agg (cl A0 j k L C0 E0 F0),cI n],.r 38 [.agg (cl V g i W X Y Z),cI 3000] [.agg (cl G0 l m M H0 J0 K0),cI o],.b ((L.length:Int) != a) false,.b ((M.length:Int) != a) false,.l [] [14,10,12] [12,10] (qaa Tryz.f6 1) (laws_FnTwoWays_L1 0 G0 l m M H0 J0 K0 A0 j k L C0 E0 F0) (.exit 2) laws_FnTwoWays_X1v4]):
 Rt 6 [cS 1 K] [cB true]:=
 h.of
end Go.Proofs.YtdkobdhckkjmeaaGreat
