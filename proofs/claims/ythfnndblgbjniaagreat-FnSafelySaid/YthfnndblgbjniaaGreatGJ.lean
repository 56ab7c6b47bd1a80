import Derived.Test.YthfnndblgbjniaaGreatGE
namespace Go.Proofs.YthfnndblgbjniaaGreat
open Go.Sx Go.RowKit
variable {a b c d e f g i j k l m n : Int} {A C E F G H aj K L M N Q R S bc V X Y Z dz e6 fD fK fL fM eU jD : af} {q r s t u v w x y z gr gw gL t0 fo v0 w0 : Bool}
theorem ay1(h:ad [.r 4 [aP 1 A] [ak q],.b q true]):
 ar 3 [aP 1 A] [ak true]:=
 h.of
def zO(A:af)(a b:Int)(C E F G:af)(c d:Int):aD:=a' 115 [(8,aS 8),(9,aT d),(10,aT c)] [(8,[aB 740000 4 A,av a,av b,aB 740003 8 C,aB 740004 6 E,aB 740005 5 F,aB 740006 3 G])]
theorem ay2(h:ad [.i A a (aX aj K C L M N Q R),.v (b+(C.length:Int)),.u a]):
 aV (ap Tryz.f3 0) (zO E c d A F G H a b) .normal (zO E c d A F G H (a+1) (b+(C.length:Int))):=
 h.aQ [10,8,9] [8]
def Ma(A:af)(a b:Int)(C E F G:af)(c:Int):aD:=a' 115 [(8,aS 8),(9,aT c)] [(8,[aB 740000 4 A,av a,av b,aB 740003 8 C,aB 740004 6 E,aB 740005 5 F,aB 740006 3 G])]
theorem ay3(h:ad [.f A c false]):
 aV (ap Tryz.f3 0) (zO C a b A E F G c d) (.exit 0) (Ma C a b A E F G d):=
 h.aQ [8,9] [8]
def aa0(A:af)(q:Bool)(C:af)(a b:Int)(E F G H aj:af)(c d:Int)(K L M N:af)(e:Int)(P:af)(f g:Int)(Q R S bc:af)(i:Int)(r s t u v w x y z q1 bC s1:Bool)(V:af)(j k:Int)(X Y Z dD il:af)(W:Code)(m:Int)(hN:af)(n o:Int)(im iE H1 w6:af)(t1 gD:Bool)(l:List O):List O:=.r 4 [aP 1 A] [ak q]::.b q false::.r 5 [aP 1 A] [.agg (cl C a b E F G H)]::.r 6 [aP 1 A] [.agg (cl aj c d K L M N),ae e]::.r 7 [aP 1 A] [.agg (cl P f g Q R S bc),ae i]::.r 8 [.agg (cl C a b E F G H)] [ak r]::.r 9 [.agg (cl C a b E F G H)] [ak s]::.b (!r==s) false::.r 10 [.agg (cl aj c d K L M N),ae e] [ak t]::.r 11 [.agg (cl aj c d K L M N),ae e] [ak u]::.b (!t==u) false::.r 12 [.agg (cl P f g Q R S bc),ae i] [ak v]::.r 13 [.agg (cl P f g Q R S bc),ae i] [ak w]::.b (!v==w) false::.r 14 [.agg (cl C a b E F G H)] [ak x]::.r 15 [.agg (cl C a b E F G H)] [ak y]::.b (!x==y) false::.r 16 [.agg (cl C a b E F G H)] [ak z]::.r 17 [.agg (cl C a b E F G H)] [ak q1]::.b (!z==q1) false::.r 18 [.agg (cl C a b E F G H)] [ak bC]::.r 19 [.agg (cl C a b E F G H)] [ak s1]::.b (!bC==s1) false::.r 20 [aP 1 A] [.agg (cl V j k X Y Z dD)]::.r 21 [.agg (cl V j k X Y Z dD)] [aP 5 il]::.l [] [10,8,9] [8] W (zO V j k X Y Z dD 0 (il.length:Int)) (.exit 0) (Ma V j k X Y Z dD m)::.r 22 [.agg [D.J 4 [[I 1,I 0,I 0,D.v (aR)]],I 1,I 1],.one (.v (aR))] [.agg (cl hN n o im iE H1 w6),ak t1]::.r 8 [.agg (cl V j k X Y Z dD)] [ak gD]::.b gD true::l
theorem ay4(h:ad (aa0 H q A a b C E F G e6 e f Q R S bc g V i j X Y Z dz k r s t u v w x y z gr gw gL aj c d K L M N fD (ap Tryz.f3 0) l fK m n fL fM eU jD v0 t0 [.b (l==0) true,.r 18 [.agg (cl fK m n fL fM eU jD)] [ak fo]])):
 ar 3 [aP 1 H] [ak fo]:=
 h.of
theorem ay5(h:ad (aa0 H q A a b C E F G e6 e f Q R S bc g V i j X Y Z dz k r s t u v w x y z gr gw gL aj c d K L M N fD (ap Tryz.f3 0) l fK m n fL fM eU jD w0 t0 [.b (l==0) false,.r 18 [.agg (cl aj c d K L M N)] [ak fo],.b fo true,.r 18 [.agg (cl fK m n fL fM eU jD)] [ak v0]])):
 ar 3 [aP 1 H] [ak v0]:=
 h.of
end Go.Proofs.YthfnndblgbjniaaGreat
namespace Go.Proofs.YthfnndblgbjniaaGreat
open Go.Sx Go.RowKit
theorem Z5(A:af)(h:ad []):
 ar 4 [aP 1 A] [ak (decide ((A.length:Int)>1048576))]:=
 h.of
