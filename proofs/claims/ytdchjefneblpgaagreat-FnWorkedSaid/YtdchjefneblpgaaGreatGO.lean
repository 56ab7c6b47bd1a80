import Derived.Test.YtdchjefneblpgaaGreatGE
set_option linter.unusedVariables false
set_option linter.unusedSimpArgs false
namespace Go.Proofs.YtdchjefneblpgaaGreat
open Go.Sx Go.RowKit
variable {a b c d e f g i j k l m n o p : Int} {A C E F G H aj K L M N Q R S bi V X Y Z eg fD hR xy iF xz iG xA iH xB iI H1 jM xC se xD sf xE tN xF tO xG tP A7 sg A8 sh A9 xH Ba EY EZ E0 Vt my jw Mk Vu Ml Vv Mm : ae} {q r s t u v w x y z hE : Bool}
theorem aiz(h:ad [.r 12 [aP 1 A] [ag q],.b q true]):
 ar 6 [aP 1 A] [ag true]:=
 h.of
def TR(A:ae)(q:Bool)(C:ae)(a b:Int)(E F G H:ae)(c:Int)(aj:ae)(d e:Int)(K L M N:ae)(r:Bool)(P:ae)(f g:Int)(Q R S bi:ae)(s:Bool)(V:ae)(i j:Int)(X Y Z fD:ae)(t:Bool)(xy:ae)(k m:Int)(xz xA xB H1:ae)(u v w:Bool)(xC:ae)(n o:Int)(xD xE xF xG:ae)(x:Bool)(A7:ae)(p eE:Int)(A8 A9 Ba EZ:ae)(y:Bool)(l:List O):List O:=.r 12 [aP 1 A] [ag q]::.b q false::.r 43 [aP 1 A] [.agg (cl C a b E F G H),af c]::.r 44 [.agg (cl C a b E F G H),af c] [.agg (cl aj d e K L M N),ag r]::.r 45 [.agg (cl C a b E F G H),af c] [.agg (cl P f g Q R S bi),ag s]::.r 36 [.agg (cl C a b E F G H),af c] [.agg (cl V i j X Y Z fD),ag t]::.r 46 [.agg (cl C a b E F G H),af c] [.agg (cl xy k m xz xA xB H1),ag u]::.b (!r==s) false::.r 35 [.agg (cl aj d e K L M N),.agg (cl P f g Q R S bi)] [ag v]::.n v false::.b (!t==u) false::.r 35 [.agg (cl V i j X Y Z fD),.agg (cl xy k m xz xA xB H1)] [ag w]::.n w false::.r 14 [.agg [D.J 4 [[I 1,I 0,I 0,D.v (aO)]],I 2,I 1],.one (.J 5 [(bj 0 0 0 1 0)])] [.agg (cl xC n o xD xE xF xG),ag x]::.r 36 [.agg (cl xC n o xD xE xF xG),af 1] [.agg (cl A7 p eE A8 A9 Ba EZ),ag y]::l
theorem aiA(h:ad (TR H r A a b C E F G c aj d e K L M N q Q f g R S bi V s X i j Y Z eg hR t iF k l iG iH iI jM u v w se m n sf tN tO tP z sg o p sh xH EY E0 x [.n q true,.r 35 [.agg (cl aj d e K L M N),.agg (cl A a b C E F G)] [ag y],.b y true])):
 ar 6 [aP 1 H] [ag x]:=
 h.of
def tr(A:ae)(a d:Int)(H aj K L:ae)(e:Int)(M:ae)(f b:Int)(C E F G:ae)(q:Bool)(c:Int):aD:=bd 140 [(3,aQ 3),(4,aW e),(5,aQ 5),(17,.aF (.one (.a' q))),(18,aW c)] [(5,[aA 320000 4 M,au f,au b,aA 320003 8 C,aA 320004 6 E,aA 320005 5 F,aA 320006 3 G]),(3,[aA 260000 4 A,au a,au d,aA 260003 8 H,aA 260004 6 aj,aA 260005 5 K,aA 260006 3 L])]
theorem aiB(h:ad [.f A a true,.b (a != b) true,.x C a (ba L M N Q R S bi V),.x A a (ba X Z eg hR iF iG iH iI),.r 47 [.agg (ba L M N Q R S bi V),.agg (ba X Z eg hR iF iG iH iI)] [ag r],.n r false,.u a]):
 aX (ao Tryz.f6 0) (tr aj e f A K Y jM b E c d C F G H q a) .normal (tr aj e f A K Y jM b E c d C F G H q (a+1)):=
 h.aV [18,3,4,5,17] [5,3]
theorem aiC(h:ad [.f A a true,.b (a != b) false,.u a]):
 aX (ao Tryz.f6 0) (tr aj e f A K L M b C c d E F G H q a) .normal (tr aj e f A K L M b C c d E F G H q (a+1)):=
 h.aV [18,3,4,5,17] [5,3]
def Kz(A:ae)(a c:Int)(H aj K L:ae)(d:Int)(M:ae)(e b:Int)(C E F G:ae)(q:Bool):aD:=bd 140 [(3,aQ 3),(4,aW d),(5,aQ 5),(17,.aF (.one (.a' q)))] [(5,[aA 320000 4 M,au e,au b,aA 320003 8 C,aA 320004 6 E,aA 320005 5 F,aA 320006 3 G]),(3,[aA 260000 4 A,au a,au c,aA 260003 8 H,aA 260004 6 aj,aA 260005 5 K,aA 260006 3 L])]
theorem aiD(h:ad [.f A e false]):
 aX (ao Tryz.f6 0) (tr aj c d A K L M f C a b E F G H q e) (.exit 0) (Kz aj c d A K L M f C a b E F G H q):=
 h.aV [3,4,5,17] [5,3]
theorem aiE(h:ad (TR N s A b c C E F G a aj d e H K L M r Q f g R S bi V t X i j Y Z eg hR u iF k l iG iH iI jM v w x se m n sf tN tO tP z EZ o p Vt jw Vu Vv q [.n r false,.l [] [18,3,4,5,17] [5,3] (ao Tryz.f6 0) (tr A b c C E F G a aj d e H K L M q 0) (.exit 0) (Kz A b c C E F G a aj d e H K L M q),.x C a (ba sg sh xH EY E0 my Mk Ml),.r 48 [.agg (bk A b c),.agg (ba sg sh xH EY E0 my Mk Ml)] [.agg (ba Mm fD xy xz xA xB H1 xC),ag hE],.x H a (ba xD xE xF xG A7 A8 A9 Ba),.r 47 [.agg (ba xD xE xF xG A7 A8 A9 Ba),.agg (ba Mm fD xy xz xA xB H1 xC)] [ag y],.b y true])):
 ar 6 [aP 1 N] [ag q]:=
 h.of
