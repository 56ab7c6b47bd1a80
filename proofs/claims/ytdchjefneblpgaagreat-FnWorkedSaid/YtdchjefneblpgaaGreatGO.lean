import Derived.Test.YtdchjefneblpgaaGreatGE
namespace Go.Proofs.YtdchjefneblpgaaGreat
open Go.Sx Go.RowKit
variable {a b c d e f g i j k l m n o p : Int} {A C E F G H aj K L M N Q R S bi V X Y Z eg fD hS xA iF xB iG xC iH xD iI H1 jN xE se xF sf xG tP xH tQ xI tR A9 sg A' sh Ba xJ Bc EZ E0 E1 Vu mz jy Mm Vv Mn Vw Mo : ae} {q r s t u v w x y z hE : Bool}
theorem aiD(h:ad [.r 12 [aP 1 A] [ah q],.b q true]):
ar 6 [aP 1 A] [ah true]:=
h.of
def TT(A:ae)(q:Bool)(C:ae)(a b:Int)(E F G H:ae)(c:Int)(aj:ae)(d e:Int)(K L M N:ae)(r:Bool)(P:ae)(f g:Int)(Q R S bi:ae)(s:Bool)(V:ae)(i j:Int)(X Y Z fD:ae)(t:Bool)(xA:ae)(k m:Int)(xB xC xD H1:ae)(u v w:Bool)(xE:ae)(n o:Int)(xF xG xH xI:ae)(x:Bool)(A9:ae)(p eE:Int)(A' Ba Bc E0:ae)(y:Bool)(l:List O):List O:=.r 12 [aP 1 A] [ah q]::.b q false::.r 43 [aP 1 A] [.agg (cl C a b E F G H),af c]::.r 44 [.agg (cl C a b E F G H),af c] [.agg (cl aj d e K L M N),ah r]::.r 45 [.agg (cl C a b E F G H),af c] [.agg (cl P f g Q R S bi),ah s]::.r 36 [.agg (cl C a b E F G H),af c] [.agg (cl V i j X Y Z fD),ah t]::.r 46 [.agg (cl C a b E F G H),af c] [.agg (cl xA k m xB xC xD H1),ah u]::.b (!r==s) false::.r 35 [.agg (cl aj d e K L M N),.agg (cl P f g Q R S bi)] [ah v]::.n v false::.b (!t==u) false::.r 35 [.agg (cl V i j X Y Z fD),.agg (cl xA k m xB xC xD H1)] [ah w]::.n w false::.r 14 [.agg [D.J 4 [[I 1,I 0,I 0,D.v (aO)]],I 2,I 1],.one (.J 5 [(bj 0 0 0 1 0)])] [.agg (cl xE n o xF xG xH xI),ah x]::.r 36 [.agg (cl xE n o xF xG xH xI),af 1] [.agg (cl A9 p eE A' Ba Bc E0),ah y]::l
theorem aiE(h:ad (TT H r A a b C E F G c aj d e K L M N q Q f g R S bi V s X i j Y Z eg hS t iF k l iG iH iI jN u v w se m n sf tP tQ tR z sg o p sh xJ EZ E1 x [.n q true,.r 35 [.agg (cl aj d e K L M N),.agg (cl A a b C E F G)] [ah y],.b y true])):
ar 6 [aP 1 H] [ah x]:=
h.of
def tu(A:ae)(a d:Int)(H aj K L:ae)(e:Int)(M:ae)(f b:Int)(C E F G:ae)(q:Bool)(c:Int):aD:=bd 140 [(3,aQ 3),(4,aW e),(5,aQ 5),(17,.aF (.one (.a' q))),(18,aW c)] [(5,[aA 320000 4 M,au f,au b,aA 320003 8 C,aA 320004 6 E,aA 320005 5 F,aA 320006 3 G]),(3,[aA 260000 4 A,au a,au d,aA 260003 8 H,aA 260004 6 aj,aA 260005 5 K,aA 260006 3 L])]
theorem aiF(h:ad [.f A a true,.b (a != b) true,.x C a (ba L M N Q R S bi V),.x A a (ba X Z eg hS iF iG iH iI),.r 47 [.agg (ba L M N Q R S bi V),.agg (ba X Z eg hS iF iG iH iI)] [ah r],.n r false,.u a]):
aY (ao Tryz.f6 0) (tu aj e f A K Y jN b E c d C F G H q a) .normal (tu aj e f A K Y jN b E c d C F G H q (a+1)):=
h.aV [18,3,4,5,17] [5,3]
theorem aiG(h:ad [.f A a true,.b (a != b) false,.u a]):
aY (ao Tryz.f6 0) (tu aj e f A K L M b C c d E F G H q a) .normal (tu aj e f A K L M b C c d E F G H q (a+1)):=
h.aV [18,3,4,5,17] [5,3]
def KA(A:ae)(a c:Int)(H aj K L:ae)(d:Int)(M:ae)(e b:Int)(C E F G:ae)(q:Bool):aD:=bd 140 [(3,aQ 3),(4,aW d),(5,aQ 5),(17,.aF (.one (.a' q)))] [(5,[aA 320000 4 M,au e,au b,aA 320003 8 C,aA 320004 6 E,aA 320005 5 F,aA 320006 3 G]),(3,[aA 260000 4 A,au a,au c,aA 260003 8 H,aA 260004 6 aj,aA 260005 5 K,aA 260006 3 L])]
theorem aiH(h:ad [.f A e false]):
aY (ao Tryz.f6 0) (tu aj c d A K L M f C a b E F G H q e) (.exit 0) (KA aj c d A K L M f C a b E F G H q):=
h.aV [3,4,5,17] [5,3]
theorem aiI(h:ad (TT N s A b c C E F G a aj d e H K L M r Q f g R S bi V t X i j Y Z eg hS u iF k l iG iH iI jN v w x se m n sf tP tQ tR z E0 o p Vu jy Vv Vw q [.n r false,.l [] [18,3,4,5,17] [5,3] (ao Tryz.f6 0) (tu A b c C E F G a aj d e H K L M q 0) (.exit 0) (KA A b c C E F G a aj d e H K L M q),.x C a (ba sg sh xJ EZ E1 mz Mm Mn),.r 48 [.agg (bl A b c),.agg (ba sg sh xJ EZ E1 mz Mm Mn)] [.agg (ba Mo fD xA xB xC xD H1 xE),ah hE],.x H a (ba xF xG xH xI A9 A' Ba Bc),.r 47 [.agg (ba xF xG xH xI A9 A' Ba Bc),.agg (ba Mo fD xA xB xC xD H1 xE)] [ah y],.b y true])):
ar 6 [aP 1 N] [ah q]:=
h.of
