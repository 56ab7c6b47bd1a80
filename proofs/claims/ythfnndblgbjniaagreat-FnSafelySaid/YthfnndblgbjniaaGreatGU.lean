import Derived.Test.YthfnndblgbjniaaGreatGE
namespace Go.Proofs.YthfnndblgbjniaaGreat
open Go.Sx Go.RowKit
variable {a b c d e f g i j k l m n o p a0 b8 c9 d0 bE f0 : Int} {A C E F G H aj K L M N Q R S bc V X Y Z dz e6 : af} {q r s t u v w x y z gr gw gL t0 : Bool}
def uV(a:Int)(A:af)(b c:Int)(C E F G:af):aD:=a' 45 [(1,aS 1),(3,aT a)] [(1,[.J .free 4 A,av b,av c,.J .free 8 C,.J .free 6 E,.J .free 5 F,.J .free 3 G])]
def CA(q:Bool):aD:=a' 45 [(2,.aF (.one (.bg q)))] []
theorem amL(h:ad [.i A c (bU a G b e f g),.r 44 [ae b,ae 0,ae a] [ak q],.n q true]):
 aV (ap Tryz.f15 0) (uV c H i d C A E F) .ret (CA false):=
 h.aQ [2] []
def Q5(A:af)(a b:Int)(C:af)(c d e f:Int)(q r:Bool)(l:List O):List O:=.i A a (bU b C c d e f)::.r 44 [ae c,ae 0,ae b] [ak q]::.n q false::.r 44 [ae d,ae 0,ae b] [ak r]::l
theorem amM(h:ad (Q5 A d a G b c f g q r [.n r true])):
 aV (ap Tryz.f15 0) (uV d H i e C A E F) .ret (CA false):=
 h.aQ [2] []
theorem alX(h:ad (Q5 A d a C b c f g q r [.n r false,.a .wr,.a .wr,.b (IntKind.i64.wrap (IntKind.i64.wrap (b+c)+(C.length:Int)) != a) true])):
 aV (ap Tryz.f15 0) (uV d H i e E A F G) .ret (CA false):=
 h.aQ [2] []
theorem alY(h:ad (Q5 A b a G c d g i q r [.n r false,.a .wr,.a .wr,.b (IntKind.i64.wrap (IntKind.i64.wrap (c+d)+(G.length:Int)) != a) false,.u b])):
 aV (ap Tryz.f15 0) (uV b H f e C A E F) .normal (uV (b+1) H f e C A E F):=
 h.aQ [3,1] [1]
def Xz:aD:=a' 45 [] []
theorem alZ(h:ad [.f A a false]):
 aV (ap Tryz.f15 0) (uV a G c b C A E F) (.exit 0) Xz:=
 h.aQ [] []
theorem al0(h:ad [.l [] [3,1] [1] (ap Tryz.f15 0) (uV 0 A a b C E F G) .ret (CA q)]):
 ar 15 [.agg (cl A a b C E F G)] [ak q]:=
 h.of
theorem al1(h:ad [.l [] [3,1] [1] (ap Tryz.f15 0) (uV 0 A a b C E F G) (.exit 0) Xz]):
 ar 15 [.agg (cl A a b C E F G)] [ak true]:=
 h.of
def tr(A:af)(a:Int):aD:=a' 51 [(6,dW 6 A),(7,aT (A.length:Int)),(8,aT a)] []
def Ae(q:Bool):aD:=a' 51 [(2,.aF (.one (.bg q)))] []
def abD(A:af)(a b:Int)(C:af)(c d e f:Int)(q:Bool)(l:List O):List O:=.i A a (bU b C c d e f)::.r 43 [ae c,ae 0,ae b] [ak q]::l
theorem al2(h:ad (abD A b c C a d e f q [.n q true])):
 aV (ap Tryz.f14 0) (tr A b) .ret (Ae false):=
 h.aQ [2] []
def IY(A:af)(a b:Int)(C:af)(c d e f:Int)(q r:Bool)(l:List O):List O:=abD A a b C c d e f q (.n q false::.r 43 [ae d,ae 0,ae b] [ak r]::l)
theorem al3(h:ad (IY A d a C b c e f q r [.n r true])):
 aV (ap Tryz.f14 0) (tr A d) .ret (Ae false):=
 h.aQ [2] []
theorem al4(h:ad (IY A d a C c b e f q r [.n r false,.v (a-b),.b (decide (c>a-b)) true])):
 aV (ap Tryz.f14 0) (tr A d) .ret (Ae false):=
 h.aQ [2] []
theorem al5(h:ad (IY A d a C c b e f q r [.n r false,.v (a-b),.b (decide (c>a-b)) false,.v (a-b),.v (a-b-c),.b (a-b-c != (C.length:Int)) true])):
 aV (ap Tryz.f14 0) (tr A d) .ret (Ae false):=
 h.aQ [2] []
theorem al6(h:ad (IY A d a C c b e f q r [.n r false,.v (a-b),.b (decide (c>a-b)) false,.v (a-b),.v (a-b-c),.b (a-b-c != (C.length:Int)) false,.u d])):
 aV (ap Tryz.f14 0) (tr A d) .normal (tr A (d+1)):=
 h.aQ [8,7,6] []
def XA:aD:=a' 51 [] []
theorem al7(h:ad [.f A a false]):
 aV (ap Tryz.f14 0) (tr A a) (.exit 0) XA:=
 h.aQ [] []
theorem al8(h:ad [.l [] [8,7,6] [] (ap Tryz.f14 0) (tr A 0) .ret (Ae q)]):
 ar 14 [.agg (cl C a b E A F G)] [ak q]:=
 h.of
theorem al9(h:ad [.l [] [8,7,6] [] (ap Tryz.f14 0) (tr A 0) (.exit 0) XA]):
 ar 14 [.agg (cl C a b E A F G)] [ak true]:=
 h.of
theorem ama(b:Int)(A:af)(c d e f a:Int)(C:af)(h:ad [.r 81 [aP 5 A,ae a] [aP 5 C]]):
 ar 41 [.agg (bU b A c d e f),ae a] [ae (C.length:Int)]:=
 h.of
theorem amb(b:Int)(A:af)(c d e f a:Int)(C:af)(h:ad [.r 79 [aP 5 A,ae a] [aP 5 C]]):
 ar 39 [.agg (bU b A c d e f),ae a] [ae (C.length:Int)]:=
 h.of
def yH(A:af)(a b:Int)(C E F G:af)(c d e:Int):aD:=a' 36 [(1,aT c),(2,aS 2),(5,aT e),(6,aT d)] [(2,[.J .free 4 A,av a,av b,.J .free 8 C,.J .free 6 E,.J .free 5 F,.J .free 3 G])]
theorem amc(h:ad [.i A a (aX K L M N E Q R S),.a .wr,.r 44 [ae b,ae 0,ae (IntKind.i64.wrap ((E.length:Int)-1))] [ak q],.b q true,.x A a (aX bc V X Y F Z dz e6),.x F b [I e],.a .wr,.u a]):
 aV (ap Tryz.f42 0) (yH C c d A G H aj b a f) .normal (yH C c d A G H aj b (a+1) (IntKind.i64.wrap (f+e))):=
 h.aQ [6,2,1,5] [2]
theorem amd(h:ad [.i A a (aX aj K L M E N Q R),.a .wr,.r 44 [ae b,ae 0,ae (IntKind.i64.wrap ((E.length:Int)-1))] [ak q],.b q false,.u a]):
 aV (ap Tryz.f42 0) (yH C c d A F G H b a e) .normal (yH C c d A F G H b (a+1) e):=
 h.aQ [6,2,1,5] [2]
def XB(a:Int):aD:=a' 36 [(5,aT a)] []
theorem ame(h:ad [.f A a false]):
 aV (ap Tryz.f42 0) (yH C c d A E F G e a b) (.exit 0) (XB b):=
 h.aQ [5] []
theorem amf(h:ad [.l [] [6,2,1,5] [2] (ap Tryz.f42 0) (yH A a b C E F G c 0 0) (.exit 0) (XB d)]):
 ar 42 [.agg (cl A a b C E F G),ae c] [ae d]:=
 h.of
def yI(A:af)(a b c:Int):aD:=a' 30 [(1,aT a),(5,aT c),(9,dW 8 A),(10,aT (A.length:Int)),(11,aT b)] []
theorem amg(h:ad [.i C b (aX E F G H A aj K L),.a .wr,.r 43 [ae a,ae 0,ae (IntKind.i64.wrap ((A.length:Int)-1))] [ak q],.b q true,.x A a [I c],.a .wr,.u b]):
 aV (ap Tryz.f40 0) (yI C a b d) .normal (yI C a (b+1) (IntKind.i64.wrap (d+c))):=
 h.aQ [11,10,9,1,5] []
theorem amh(h:ad [.i A a (aX E F G H C aj K L),.a .wr,.r 43 [ae b,ae 0,ae (IntKind.i64.wrap ((C.length:Int)-1))] [ak q],.b q false,.u a]):
 aV (ap Tryz.f40 0) (yI A b a c) .normal (yI A b (a+1) c):=
 h.aQ [11,10,9,1,5] []
def XC(a:Int):aD:=a' 30 [(5,aT a)] []
theorem ami(h:ad [.f A a false]):
 aV (ap Tryz.f40 0) (yI A c a b) (.exit 0) (XC b):=
 h.aQ [5] []
theorem amj(h:ad [.l [] [11,10,9,1,5] [] (ap Tryz.f40 0) (yI A a 0 0) (.exit 0) (XC b)]):
 ar 40 [.agg (cl C c d A E F G),ae a] [ae b]:=
 h.of
def CB(A:af)(a b:Int)(C E F G:af)(c d e:Int):aD:=a' 28 [(1,aT c),(2,aS 2),(5,aT e),(6,aT d)] [(2,[.J .free 4 A,av a,av b,.J .free 8 C,.J .free 6 E,.J .free 5 F,.J .free 3 G])]
theorem amk(h:ad [.i A a (bU f E g i j k),.r 41 [.agg (bU f E g i j k),ae c] [ae b],.v (d+b),.u a]):
 aV (ap Tryz.f13 0) (CB C e l F A G H c a d) .normal (CB C e l F A G H c (a+1) (d+b)):=
 h.aQ [6,2,5,1] [2]
def XD(A:af)(a b:Int)(C E F G:af)(c d:Int):aD:=a' 28 [(1,aT c),(2,aS 2),(5,aT d)] [(2,[.J .free 4 A,av a,av b,.J .free 8 C,.J .free 6 E,.J .free 5 F,.J .free 3 G])]
theorem aml(h:ad [.f A d false]):
 aV (ap Tryz.f13 0) (CB C a b E A F G c d e) (.exit 0) (XD C a b E A F G c e):=
 h.aQ [2,1,5] [2]
theorem amm(h:ad [.l [] [6,2,5,1] [2] (ap Tryz.f13 0) (CB A a b C E F G c 0 0) (.exit 0) (XD A a b C E F G c d),.r 42 [.agg (cl A a b C E F G),ae c] [ae e]]):
 ar 13 [.agg (cl A a b C E F G),ae c] [ak (e==d)]:=
 h.of
def CC(A:af)(a b c:Int)(E:af)(d e:Int)(F G H C:af):aD:=a' 26 [(1,aT a),(2,aS 2),(5,aT c),(9,dW 6 A),(10,aT (A.length:Int)),(11,aT b)] [(2,[.J .free 4 E,av d,av e,.J .free 8 F,.J .free 6 G,.J .free 5 H,.J .free 3 C])]
theorem alN(h:ad [.i A a (bU g aj i j k l),.r 39 [.agg (bU g aj i j k l),ae c] [ae b],.v (d+b),.u a]):
 aV (ap Tryz.f12 0) (CC A c a d C e f E F G H) .normal (CC A c (a+1) (d+b) C e f E F G H):=
 h.aQ [11,10,9,5,1,2] [2]
def XE(a b:Int)(A:af)(c d:Int)(C E F G:af):aD:=a' 26 [(1,aT a),(2,aS 2),(5,aT b)] [(2,[.J .free 4 A,av c,av d,.J .free 8 C,.J .free 6 E,.J .free 5 F,.J .free 3 G])]
theorem alO(h:ad [.f H d false]):
 aV (ap Tryz.f12 0) (CC H c d e A a b C E F G) (.exit 0) (XE c e A a b C E F G):=
 h.aQ [2,1,5] [2]
theorem alP(h:ad [.l [] [11,10,9,5,1,2] [2] (ap Tryz.f12 0) (CC A a 0 0 C b f aj A K L) (.exit 0) (XE a g M c d E F G H),.r 40 [.agg (cl M c d E F G H),ae a] [ae e]]):
 ar 12 [.agg (cl C b f aj A K L),ae a] [ak (e==g)]:=
 h.of
theorem alQ(h:ad [.b (decide (a<1)) true]):
 ar 85 [ae b,ae a] [ae 0]:=
 h.of
def I1(a:Int)(l:List O):List O:=.b (decide (a<1)) false::.p (a≠0)::l
theorem alR(h:ad (I1 a [.b (decide (b.tmod a<0)) true,.v (b.tmod a+a)])):
 ar 85 [ae b,ae a] [ae (b.tmod a+a)]:=
 h.of
theorem alS(h:ad (I1 a [.b (decide (b.tmod a<0)) false])):
 ar 85 [ae b,ae a] [ae (b.tmod a)]:=
 h.of
theorem alT(h:ad [.b (decide (a<1)) true]):
 ar 84 [ae b,ae a] [ae 0]:=
 h.of
theorem alU(h:ad (I1 a [.b (decide (b.tmod a<0)) true,.v (b.tmod a+a)])):
 ar 84 [ae b,ae a] [ae (b.tmod a+a)]:=
 h.of
theorem alV(h:ad (I1 a [.b (decide (b.tmod a<0)) false])):
 ar 84 [ae b,ae a] [ae (b.tmod a)]:=
 h.of
def xT(A:af)(a b:Int)(C E F G H:af)(c d:Int):aD:=a' 25 [(1,dW 5 H),(2,aT c),(3,aS 3),(7,aT d)] [(3,[.J .free 4 A,av a,av b,.J .free 8 C,.J .free 6 E,.J .free 5 F,.J .free 3 G])]
def O0(q:Bool):aD:=a' 25 [(6,.aF (.one (.bg q)))] []
theorem alW(h:ad [.i A e (bi f g i b j),.r 85 [ae b,ae a] [ae c],.b (c != d) true]):
 aV (ap Tryz.f46 0) (xT C a k E F G H A d e) .ret (O0 false):=
 h.aQ [6] []
theorem ano(h:ad [.i A a (bi g i j d k),.r 85 [ae d,ae b] [ae e],.b (e != c) false,.u a]):
 aV (ap Tryz.f46 0) (xT C b f E F G H A c a) .normal (xT C b f E F G H A c (a+1)):=
 h.aQ [7,1,3,2] [3]
def XF:aD:=a' 25 [] []
theorem anp(h:ad [.f A a false]):
 aV (ap Tryz.f46 0) (xT C b c E F G H A d a) (.exit 0) XF:=
 h.aQ [] []
theorem anq(h:ad [.l [] [7,1,3,2] [3] (ap Tryz.f46 0) (xT A a b C E F G H c 0) .ret (O0 q)]):
 ar 46 [.agg (cl A a b C E F G),aP 5 H,ae c] [ak q]:=
 h.of
theorem anr(h:ad [.l [] [7,1,3,2] [3] (ap Tryz.f46 0) (xT A a b C E F G H c 0) (.exit 0) XF]):
 ar 46 [.agg (cl A a b C E F G),aP 5 H,ae c] [ak true]:=
 h.of
theorem ant(h:ad [.r 82 [aP 5 A,.one (.cl 83 [D.ptr [I b],D.ptr [I a]])] [ak q]]):
 ar 45 [aP 5 A,ae a,ae b] [.one (B !q)]:=
 h.of
theorem anu(h:ad [.r 84 [ae a,ae b] [ae d]]):
 ar 83 [.agg (bi e f g a i),.one (.ptr [I b]),.one (.ptr [I c])] [ak (d != c)]:=
 h.of
def uW(A:af)(a b:Int)(C E F G:af)(c:Int):aD:=a' 61 [(1,aS 1),(3,aT c)] [(1,[.J .free 4 A,av a,av b,.J .free 8 C,.J .free 6 E,.J .free 5 F,.J .free 3 G])]
def G8(q:Bool):aD:=a' 61 [(2,.aF (.one (.bg q)))] []
theorem anv(h:ad [.i A a (aX H R aj K L M N Q),.r 46 [.agg (cl C b c A E F G),aP 5 H,ae a] [ak q],.n q true]):
 aV (ap Tryz.f17 0) (uW C b c A E F G a) .ret (G8 false):=
 h.aQ [2] []
theorem anw(h:ad [.i A a (aX aj e6 K L M N Q R),.r 46 [.agg (cl C b c A E F G),aP 5 aj,ae a] [ak q],.n q false,.x A a (aX S bc H V X Y Z dz),.r 46 [.agg (cl C b c A E F G),aP 5 H,ae a] [ak r],.n r true]):
 aV (ap Tryz.f17 0) (uW C b c A E F G a) .ret (G8 false):=
 h.aQ [2] []
theorem anx(h:ad [.i A a (aX aj e6 K L M N Q R),.r 46 [.agg (cl C b c A E F G),aP 5 aj,ae a] [ak q],.n q false,.x A a (aX S bc H V X Y Z dz),.r 46 [.agg (cl C b c A E F G),aP 5 H,ae a] [ak r],.n r false,.u a]):
 aV (ap Tryz.f17 0) (uW C b c A E F G a) .normal (uW C b c A E F G (a+1)):=
 h.aQ [3,1] [1]
def O1(A:af)(a b:Int)(C E F G:af):aD:=a' 61 [(1,aS 1)] [(1,[.J .free 4 A,av a,av b,.J .free 8 C,.J .free 6 E,.J .free 5 F,.J .free 3 G])]
theorem anz(h:ad [.f A c false]):
 aV (ap Tryz.f17 0) (uW C a b A E F G c) (.exit 0) (O1 C a b A E F G):=
 h.aQ [1] [1]
theorem anA(h:ad [.l [] [3,1] [1] (ap Tryz.f17 0) (uW A a b C E F G 0) .ret (G8 q)]):
 ar 17 [.agg (cl A a b C E F G)] [ak q]:=
 h.of
def wL(A:af)(a b:Int)(C E F G:af)(c:Int):aD:=a' 61 [(1,aS 1),(4,aT c)] [(1,[.J .free 4 A,av a,av b,.J .free 8 C,.J .free 6 E,.J .free 5 F,.J .free 3 G])]
def G9(q:Bool):aD:=a' 61 [(2,.aF (.one (.bg q)))] []
theorem anB(h:ad [.f A b true,.b (decide (a<1)) true]):
 aV (ap Tryz.f17 1) (wL C a c E A F G b) .ret (G9 false):=
 h.aQ [2] []
theorem anC(h:ad [.f A b true,.b (decide (a<1)) false,.x A b (bU i H d e f g),.p (a≠0),.r 46 [.agg (cl C a c E A F G),aP 5 H,ae (b.tmod a)] [ak q],.n q true]):
 aV (ap Tryz.f17 1) (wL C a c E A F G b) .ret (G9 false):=
 h.aQ [2] []
theorem anD(h:ad [.f A b true,.b (decide (a<1)) false,.x A b (bU i H d e f g),.p (a≠0),.r 46 [.agg (cl C a c E A F G),aP 5 H,ae (b.tmod a)] [ak q],.n q false,.u b]):
 aV (ap Tryz.f17 1) (wL C a c E A F G b) .normal (wL C a c E A F G (b+1)):=
 h.aQ [4,1] [1]
def XG:aD:=a' 61 [] []
theorem anE(h:ad [.f A a false]):
 aV (ap Tryz.f17 1) (wL C b c E A F G a) (.exit 2) XG:=
 h.aQ [] []
theorem anF(h:ad [.l [] [3,1] [1] (ap Tryz.f17 0) (uW A a b C E F G 0) (.exit 0) (O1 A a b C E F G),.l [] [4,1] [1] (ap Tryz.f17 1) (wL A a b C E F G 0) .ret (G9 q)]):
 ar 17 [.agg (cl A a b C E F G)] [ak q]:=
 h.of
theorem anG(h:ad [.l [] [3,1] [1] (ap Tryz.f17 0) (uW A a b C E F G 0) (.exit 0) (O1 A a b C E F G),.l [] [4,1] [1] (ap Tryz.f17 1) (wL A a b C E F G 0) (.exit 2) XG]):
 ar 17 [.agg (cl A a b C E F G)] [ak true]:=
 h.of
def I3(A:af)(l:List O):List O:=.b (decide ((A.length:Int)>0)) true::l
theorem anH(h:ad (I3 A [.b (decide (a<1)) true])):
 ar 16 [.agg (cl C a b E A F G)] [ak false]:=
 h.of
def r4(a:Int)(A:af)(b:Int)(C:af)(c d:Int)(E F G H:af):aD:=a' 59 [(1,aS 1),(3,aT a),(20,dW 8 A),(21,aT (A.length:Int)),(22,aT b)] [(1,[.J .free 4 C,av c,av d,.J .free 8 E,.J .free 6 F,.J .free 5 G,.J .free 3 H])]
def CD(q:Bool):aD:=a' 59 [(2,.aF (.one (.bg q)))] []
theorem anI(h:ad [.i C a (aX A aj K L M N Q R),.r 45 [aP 5 A,ae a,ae b] [ak q],.n q true]):
 aV (ap Tryz.f16 0) (r4 b C a S d c E F G H) .ret (CD false):=
 h.aQ [2] []
theorem anJ(h:ad [.i E a (aX A K C L M N Q R),.r 45 [aP 5 A,ae a,ae b] [ak q],.n q false,.r 45 [aP 5 C,ae a,ae b] [ak r],.n r true]):
 aV (ap Tryz.f16 0) (r4 b E a S d c F G H aj) .ret (CD false):=
 h.aQ [2] []
theorem anK(h:ad [.i A a (aX H L aj M N Q R S),.r 45 [aP 5 H,ae a,ae b] [ak q],.n q false,.r 45 [aP 5 aj,ae a,ae b] [ak r],.n r false,.u a]):
 aV (ap Tryz.f16 0) (r4 b A a K d c C E F G) .normal (r4 b A (a+1) K d c C E F G):=
 h.aQ [22,21,20,3,1] [1]
def G'(a:Int)(A:af)(b c:Int)(C E F G:af):aD:=a' 59 [(1,aS 1),(3,aT a)] [(1,[.J .free 4 A,av b,av c,.J .free 8 C,.J .free 6 E,.J .free 5 F,.J .free 3 G])]
theorem anL(h:ad [.f G c false]):
 aV (ap Tryz.f16 0) (r4 a G c H d b A C E F) (.exit 0) (G' a H d b A C E F):=
 h.aQ [1,3] [1]
theorem anM(h:ad (I3 C [.b (decide (a<1)) false,.l [] [22,21,20,3,1] [1] (ap Tryz.f16 0) (r4 a A 0 E a b A C F G) .ret (CD q)])):
 ar 16 [.agg (cl E a b A C F G)] [ak q]:=
 h.of
def uX(a:Int)(A:af)(b:Int):aD:=a' 59 [(3,aT a),(43,dW 6 A),(44,aT (A.length:Int)),(45,aT b)] []
def O2(q:Bool):aD:=a' 59 [(2,.aF (.one (.bg q)))] []
theorem anN(h:ad [.i A b (bU c C d e f g),.p (a≠0),.r 45 [aP 5 C,ae (b.tmod a),ae a] [ak q],.n q true]):
 aV (ap Tryz.f16 1) (uX a A b) .ret (O2 false):=
 h.aQ [2] []
theorem anO(h:ad [.i A b (bU c C d e f g),.p (a≠0),.r 45 [aP 5 C,ae (b.tmod a),ae a] [ak q],.n q false,.u b]):
 aV (ap Tryz.f16 1) (uX a A b) .normal (uX a A (b+1)):=
 h.aQ [45,44,43,3] []
def Ha:aD:=a' 59 [] []
theorem XH(h:ad [.f A a false]):
 aV (ap Tryz.f16 1) (uX b A a) (.exit 2) Ha:=
 h.aQ [] []
theorem anP(h:ad (I3 C [.b (decide (a<1)) false,.l [] [22,21,20,3,1] [1] (ap Tryz.f16 0) (r4 a A 0 E a b A C G H) (.exit 0) (G' a M c d aj F K L),.l [] [45,44,43,3] [] (ap Tryz.f16 1) (uX a F 0) .ret (O2 q)])):
 ar 16 [.agg (cl E a b A C G H)] [ak q]:=
 h.of
theorem amX(h:ad (I3 C [.b (decide (a<1)) false,.l [] [22,21,20,3,1] [1] (ap Tryz.f16 0) (r4 a A 0 E a b A C G H) (.exit 0) (G' a M c d aj F K L),.l [] [45,44,43,3] [] (ap Tryz.f16 1) (uX a F 0) (.exit 2) Ha])):
 ar 16 [.agg (cl E a b A C G H)] [ak true]:=
 h.of
theorem amY(h:ad [.b (decide ((C.length:Int)>0)) false,.l [] [22,21,20,3,1] [1] (ap Tryz.f16 0) (r4 a A 0 E a b A C F G) .ret (CD q)]):
 ar 16 [.agg (cl E a b A C F G)] [ak q]:=
 h.of
theorem amZ(h:ad [.b (decide ((C.length:Int)>0)) false,.l [] [22,21,20,3,1] [1] (ap Tryz.f16 0) (r4 a A 0 E a b A C G H) (.exit 0) (G' a M c d aj F K L),.l [] [45,44,43,3] [] (ap Tryz.f16 1) (uX a F 0) (.exit 2) Ha]):
 ar 16 [.agg (cl E a b A C G H)] [ak true]:=
 h.of
def wM(A:af)(a:Int):aD:=a' 21 [(0,dW 4 A),(3,aT a)] []
def O3(q:Bool):aD:=a' 21 [(2,.aF (.one (.bg q)))] []
def I2(A:af)(a b c d e f g i j:Int)(l:List O):List O:=.f A a true::.v (a-1)::.p (0<=a-1)::.p (a-1<(A.length:Int))::.e A ((a-1).toNat) [I b,I c,I d,I e]::.x A a [I f,I g,I i,I j]::l
theorem am0(h:ad (I2 A a c d e f g i j k [.r 166 [.agg [I c,I d,I e,I f],.agg [I g,I i,I j,I k]] [ae b],.b (decide (b>=0)) true])):
 aV (ap Tryz.f118 0) (wM A a) .ret (O3 false):=
 h.aQ [2] []
theorem am1(h:ad (I2 A a c d e f g i j k [.r 166 [.agg [I c,I d,I e,I f],.agg [I g,I i,I j,I k]] [ae b],.b (decide (b>=0)) false,.u a])):
 aV (ap Tryz.f118 0) (wM A a) .normal (wM A (a+1)):=
 h.aQ [3,0] []
def XI:aD:=a' 21 [] []
theorem am2(h:ad [.f A a false]):
 aV (ap Tryz.f118 0) (wM A a) (.exit 0) XI:=
 h.aQ [] []
theorem am3(h:ad [.l [] [3,0] [] (ap Tryz.f118 0) (wM A 1) .ret (O3 q)]):
 ar 118 [aP 4 A] [ak q]:=
 h.of
theorem am4(h:ad [.l [] [3,0] [] (ap Tryz.f118 0) (wM A 1) (.exit 0) XI]):
 ar 118 [aP 4 A] [ak true]:=
 h.of
def wN(A:af)(a:Int):aD:=a' 21 [(0,dW 4 A),(3,aT a)] []
def O4(q:Bool):aD:=a' 21 [(2,.aF (.one (.bg q)))] []
theorem am5(h:ad (I2 A a c d e f g i j k [.r 163 [.agg [I c,I d,I e,I f],.agg [I g,I i,I j,I k]] [ae b],.b (decide (b>=0)) true])):
 aV (ap Tryz.f114 0) (wN A a) .ret (O4 false):=
 h.aQ [2] []
theorem am6(h:ad (I2 A a c d e f g i j k [.r 163 [.agg [I c,I d,I e,I f],.agg [I g,I i,I j,I k]] [ae b],.b (decide (b>=0)) false,.u a])):
 aV (ap Tryz.f114 0) (wN A a) .normal (wN A (a+1)):=
 h.aQ [3,0] []
def XJ:aD:=a' 21 [] []
theorem am7(h:ad [.f A a false]):
 aV (ap Tryz.f114 0) (wN A a) (.exit 0) XJ:=
 h.aQ [] []
theorem am8(h:ad [.l [] [3,0] [] (ap Tryz.f114 0) (wN A 1) .ret (O4 q)]):
 ar 114 [aP 4 A] [ak q]:=
 h.of
theorem am9(h:ad [.l [] [3,0] [] (ap Tryz.f114 0) (wN A 1) (.exit 0) XJ]):
 ar 114 [aP 4 A] [ak true]:=
 h.of
def wO(A:af)(a b:Int)(C:af)(c:Int):aD:=a' 29 [(1,dW 5 C),(2,aS 2),(5,aT c)] [(2,[.J .free 4 A,av a,av b])]
def Hb(q:Bool):aD:=a' 29 [(4,.aF (.one (.bg q)))] []
def Ey(A:af)(a b c d e f:Int)(q:Bool)(l:List O):List O:=.i A a (bi b c d e f)::.r 56 [.agg (bi b c d e f)] [ak q]::l
theorem ana(h:ad (Ey A a b c d e f q [.n q true])):
 aV (ap Tryz.f75 0) (wO C g i A a) .ret (Hb false):=
 h.aQ [4] []
theorem anb(h:ad (Ey A a c d e f g q [.n q false,.x A a (bi b j k l m),.b (decide (b>=(C.length:Int))) true])):
 aV (ap Tryz.f75 0) (wO C i n A a) .ret (Hb false):=
 h.aQ [4] []
theorem anc(h:ad (Ey A a e f g i j q [.n q false,.x A a (bi c k l m n),.b (decide (c>=(C.length:Int))) false,.u a])):
 aV (ap Tryz.f75 0) (wO C b d A a) .normal (wO C b d A (a+1)):=
 h.aQ [5,1,2] [2]
def XK:aD:=a' 29 [] []
theorem ane(h:ad [.f A a false]):
 aV (ap Tryz.f75 0) (wO C b c A a) (.exit 0) XK:=
 h.aQ [] []
theorem anf(h:ad [.l [] [5,1,2] [2] (ap Tryz.f75 0) (wO A a b C 0) .ret (Hb q)]):
 ar 75 [.agg (bz A a b),aP 5 C] [ak q]:=
 h.of
theorem ang(h:ad [.l [] [5,1,2] [2] (ap Tryz.f75 0) (wO A a b C 0) (.exit 0) XK]):
 ar 75 [.agg (bz A a b),aP 5 C] [ak true]:=
 h.of
def vP(A:af)(a:Int)(C:af)(b c:Int):aD:=a' 24 [(2,aS 2),(7,dW 5 A),(8,aT (A.length:Int)),(9,aT a)] [(2,[.J .free 4 C,av b,av c])]
def Hc(q:Bool):aD:=a' 24 [(4,.aF (.one (.bg q)))] []
def Ez(A:af)(a b c d e f:Int)(q:Bool)(l:List O):List O:=.i A a (bi b c d e f)::.r 116 [.agg (bi b c d e f)] [ak q]::l
theorem anh(h:ad (Ez A d e f a b c q [.n q true])):
 aV (ap Tryz.f72 0) (vP A d C g i) .ret (Hc false):=
 h.aQ [4] []
theorem ani(h:ad (Ez A e a i b c d q [.n q false,.r 117 [.agg (bz C f g),ae a] [ak r],.n r true])):
 aV (ap Tryz.f72 0) (vP A e C f g) .ret (Hc false):=
 h.aQ [4] []
theorem anj(h:ad (Ez A a d i e f g q [.n q false,.r 117 [.agg (bz C b c),ae d] [ak r],.n r false,.u a])):
 aV (ap Tryz.f72 0) (vP A a C b c) .normal (vP A (a+1) C b c):=
 h.aQ [9,8,7,2] [2]
def XL:aD:=a' 24 [] []
theorem ank(h:ad [.f A a false]):
 aV (ap Tryz.f72 0) (vP A a C b c) (.exit 0) XL:=
 h.aQ [] []
theorem anl(h:ad [.l [] [9,8,7,2] [2] (ap Tryz.f72 0) (vP C 0 A a b) .ret (Hc q)]):
 ar 72 [.agg (bz A a b),aP 5 C] [ak q]:=
 h.of
theorem anm(h:ad [.l [] [9,8,7,2] [2] (ap Tryz.f72 0) (vP C 0 A a b) (.exit 0) XL]):
 ar 72 [.agg (bz A a b),aP 5 C] [ak true]:=
 h.of
def abE(A:af)(a b:Int)(C:af)(q:Bool)(l:List O):List O:=.r 75 [.agg (bz A a b),aP 5 C] [ak q]::l
theorem ann(h:ad (abE A a b C q [.n q true])):
 ar 73 [.agg (bz A a b),.agg (aX C F G H aj K L E)] [ak false]:=
 h.of
def abF(A:af)(a b:Int)(C:af)(q:Bool)(E:af)(r:Bool)(l:List O):List O:=abE A a b C q (.n q false::.r 75 [.agg (bz A a b),aP 5 E] [ak r]::l)
theorem amN(h:ad (abF A a b C q E r [.n r true])):
 ar 73 [.agg (bz A a b),.agg (aX C E G H aj K L F)] [ak false]:=
 h.of
def abG(A:af)(a b:Int)(C:af)(q:Bool)(E:af)(r:Bool)(F:af)(s:Bool)(l:List O):List O:=abF A a b C q E r (.n r false::.r 75 [.agg (bz A a b),aP 5 F] [ak s]::l)
theorem amO(h:ad (abG A a b C q E r F s [.n s true])):
 ar 73 [.agg (bz A a b),.agg (aX C E F H aj K L G)] [ak false]:=
 h.of
def Q8(A:af)(a b:Int)(C:af)(q:Bool)(E:af)(r:Bool)(F:af)(s:Bool)(G:af)(t:Bool)(l:List O):List O:=abG A a b C q E r F s (.n s false::.r 118 [aP 4 G] [ak t]::l)
theorem amP(h:ad (Q8 A a b C q E r F s G t [.n t true])):
 ar 73 [.agg (bz A a b),.agg (aX C E F G aj K L H)] [ak false]:=
 h.of
theorem amQ(h:ad (Q8 A a b C q E r F s G t [.n t false,.b ((H.length:Int) != 4) true])):
 ar 73 [.agg (bz A a b),.agg (aX C E F G H K L aj)] [ak false]:=
 h.of
def abH(A:af)(a b:Int)(C:af)(q:Bool)(E:af)(r:Bool)(F:af)(s:Bool)(G:af)(t:Bool)(H:af)(l:List O):List O:=Q8 A a b C q E r F s G t (.n t false::.b ((H.length:Int) != 4) false::l)
theorem amR(h:ad (abH A a b C q E r F s G t H [.b ((aj.length:Int) != 4) true])):
 ar 73 [.agg (bz A a b),.agg (aX C E F G H aj L K)] [ak false]:=
 h.of
def Q9(A:af)(a b:Int)(C:af)(q:Bool)(E:af)(r:Bool)(F:af)(s:Bool)(G:af)(t:Bool)(H aj:af)(l:List O):List O:=abH A a b C q E r F s G t H (.b ((aj.length:Int) != 4) false::l)
theorem amS(h:ad (Q9 A a b C q E r F s G t H aj [.b ((K.length:Int) != 4) true])):
 ar 73 [.agg (bz A a b),.agg (aX C E F G H aj K L)] [ak false]:=
 h.of
def p1(A C E F G H aj K:af)(a:Int):aD:=a' 147 [(3,aS 3),(5,aT 4),(6,aT a)] [(3,[.J .free 5 A,.J .free 5 C,.J .free 5 E,.J .free 4 F,.J .free 1 G,.J .free 1 H,.J .free 1 aj,.J .free 2 K])]
def CE(q:Bool):aD:=a' 147 [(4,.aF (.one (.bg q)))] []
theorem amT(h:ad [.i A a (bi b c d e f),.b (b != 0) true]):
 aV (ap Tryz.f73 0) (p1 E F A G H aj K C a) .ret (CE false):=
 h.aQ [4] []
def wV(A:af)(a b c d e f:Int)(l:List O):List O:=.i A a (bi b c d e f)::.b (b != 0) false::l
theorem amU(h:ad (wV A a b d e f g [.x A a (bi i j c k l),.b (c != 0) true])):
 aV (ap Tryz.f73 0) (p1 E F A G H aj K C a) .ret (CE false):=
 h.aQ [4] []
theorem amV(h:ad (wV A a b f g i j [.x A a (bi k l c m n),.b (c != 0) false,.b (decide (a>0)) true,.v (a-1),.p (0<=a-1),.p (a-1<(A.length:Int)),.e A ((a-1).toNat) (bi o d p a0 b8),.x A a (bi c9 e d0 bE f0),.b (decide (d>e)) true])):
 aV (ap Tryz.f73 0) (p1 E F A G H aj K C a) .ret (CE false):=
 h.aQ [4] []
theorem amW(h:ad (wV A a b f g i j [.x A a (bi k l c m n),.b (c != 0) false,.b (decide (a>0)) true,.v (a-1),.p (0<=a-1),.p (a-1<(A.length:Int)),.e A ((a-1).toNat) (bi o d p a0 b8),.x A a (bi c9 e d0 bE f0),.b (decide (d>e)) false,.u a])):
 aV (ap Tryz.f73 0) (p1 E F A G H aj K C a) .normal (p1 E F A G H aj K C (a+1)):=
 h.aQ [6,3,5] [3]
theorem aoq(h:ad (wV A a b d e f g [.x A a (bi i j c k l),.b (c != 0) false,.b (decide (a>0)) false,.u a])):
 aV (ap Tryz.f73 0) (p1 E F A G H aj K C a) .normal (p1 E F A G H aj K C (a+1)):=
 h.aQ [6,3,5] [3]
def LX(A C E F G H aj K:af):aD:=a' 147 [(3,aS 3),(5,aT 4)] [(3,[.J .free 5 A,.J .free 5 C,.J .free 5 E,.J .free 4 F,.J .free 1 G,.J .free 1 H,.J .free 1 aj,.J .free 2 K])]
theorem aor(h:ad [.f A a false]):
 aV (ap Tryz.f73 0) (p1 E F A G H aj K C a) (.exit 0) (LX E F A G H aj K C):=
 h.aQ [5,3] [3]
theorem aos(h:ad (Q9 A a b C q E r F s G t H aj [.b ((K.length:Int) != 4) false,.l [] [6,3,5] [3] (ap Tryz.f73 0) (p1 C E F G H aj K L 0) .ret (CE u)])):
 ar 73 [.agg (bz A a b),.agg (aX C E F G H aj K L)] [ak u]:=
 h.of
def vQ(A C E F G H aj K:af)(a:Int):aD:=a' 147 [(3,aS 3),(5,aT 4),(7,aT a)] [(3,[.J .free 5 A,.J .free 5 C,.J .free 5 E,.J .free 4 F,.J .free 1 G,.J .free 1 H,.J .free 1 aj,.J .free 2 K])]
def O5(q:Bool):aD:=a' 147 [(4,.aF (.one (.bg q)))] []
theorem aot(h:ad [.b (decide (a<4)) true,.x A a [I b],.r 44 [ae b,ae (-1000000),ae 1000000] [ak q],.n q true]):
 aV (ap Tryz.f73 1) (vQ E F G H A aj K C a) .ret (O5 false):=
 h.aQ [4] []
theorem aou(h:ad [.b (decide (a<4)) true,.x A a [I b],.r 44 [ae b,ae (-1000000),ae 1000000] [ak q],.n q false,.u a]):
 aV (ap Tryz.f73 1) (vQ E F G H A aj K C a) .normal (vQ E F G H A aj K C (a+1)):=
 h.aQ [7,5,3] [3]
def O6(A C E F G H aj K:af):aD:=a' 147 [(3,aS 3)] [(3,[.J .free 5 A,.J .free 5 C,.J .free 5 E,.J .free 4 F,.J .free 1 G,.J .free 1 H,.J .free 1 aj,.J .free 2 K])]
theorem aov(h:ad [.b (decide (a<4)) false]):
 aV (ap Tryz.f73 1) (vQ C E F G H aj K A a) (.exit 2) (O6 C E F G H aj K A):=
 h.aQ [3] [3]
def Q'(A:af)(a b:Int)(C:af)(q:Bool)(E:af)(r:Bool)(F:af)(s:Bool)(G:af)(t:Bool)(H aj K:af)(W:Code)(L:af)(l:List O):List O:=Q9 A a b C q E r F s G t H aj (.b ((K.length:Int) != 4) false::.l [] [6,3,5] [3] W (p1 C E F G H aj K L 0) (.exit 0) (LX C E F G H aj K L)::l)
theorem aow(h:ad (Q' K a b A q C r E s F t G H aj (ap Tryz.f73 0) L [.l [] [7,5,3] [3] (ap Tryz.f73 1) (vQ A C E F G H aj L 0) .ret (O5 u)])):
 ar 73 [.agg (bz K a b),.agg (aX A C E F G H aj L)] [ak u]:=
 h.of
def s0(A C E F G H aj K:af)(a:Int):aD:=a' 147 [(3,aS 3),(8,aT a)] [(3,[.J .free 5 A,.J .free 5 C,.J .free 5 E,.J .free 4 F,.J .free 1 G,.J .free 1 H,.J .free 1 aj,.J .free 2 K])]
def Gx(q:Bool):aD:=a' 147 [(4,.aF (.one (.bg q)))] []
theorem aox(h:ad [.i A a [I b,B r],.r 44 [ae b,ae 0,ae 3] [ak q],.n q true]):
 aV (ap Tryz.f73 2) (s0 C E F G H aj K A a) .ret (Gx false):=
 h.aQ [4] []
def uB(A C E F G H aj K:af)(a b:Int):aD:=a' 147 [(3,aS 3),(8,aT a),(9,aT b)] [(3,[.J .free 5 A,.J .free 5 C,.J .free 5 E,.J .free 4 F,.J .free 1 G,.J .free 1 H,.J .free 1 aj,.J .free 2 K])]
def Gy(q:Bool):aD:=a' 147 [(4,.aF (.one (.bg q)))] []
theorem aoy(h:ad [.b (decide (b<a)) true,.x A b [I c,B q],.x A a [I d,B r],.b (c==d) true]):
 aV (ap Tryz.f73 3) (uB C E F G H aj K A a b) .ret (Gy false):=
 h.aQ [4] []
theorem aoz(h:ad [.b (decide (a<b)) true,.x A a [I c,B q],.x A b [I d,B r],.b (c==d) false,.u a]):
 aV (ap Tryz.f73 3) (uB C E F G H aj K A b a) .normal (uB C E F G H aj K A b (a+1)):=
 h.aQ [9,8,3] [3]
def O7(A C E F G H aj K:af)(a:Int):aD:=a' 147 [(3,aS 3),(8,aT a)] [(3,[.J .free 5 A,.J .free 5 C,.J .free 5 E,.J .free 4 F,.J .free 1 G,.J .free 1 H,.J .free 1 aj,.J .free 2 K])]
theorem aoA(h:ad [.b (decide (b<a)) false]):
 aV (ap Tryz.f73 3) (uB C E F G H aj K A a b) (.exit 6) (O7 C E F G H aj K A a):=
 h.aQ [8,3] [3]
theorem aoB(h:ad [.i A a [I b,B s],.r 44 [ae b,ae 0,ae 3] [ak q],.n q false,.l [] [9,8,3] [3] (ap Tryz.f73 3) (uB C E F G H aj K A a 0) .ret (Gy r)]):
 aV (ap Tryz.f73 2) (s0 C E F G H aj K A a) .ret (Gx r):=
 h.aQ [4] []
theorem aoC(h:ad [.i A a [I b,B r],.r 44 [ae b,ae 0,ae 3] [ak q],.n q false,.l [] [9,8,3] [3] (ap Tryz.f73 3) (uB C E F G H aj K A a 0) (.exit 6) (O7 C E F G H aj K A a),.u a]):
 aV (ap Tryz.f73 2) (s0 C E F G H aj K A a) .normal (s0 C E F G H aj K A (a+1)):=
 h.aQ [8,3] [3]
def O8:aD:=a' 147 [] []
theorem aoD(h:ad [.f A a false]):
 aV (ap Tryz.f73 2) (s0 C E F G H aj K A a) (.exit 4) O8:=
 h.aQ [] []
theorem aoE(h:ad (Q' L a b A q C r E s F t G H aj (ap Tryz.f73 0) K [.l [] [7,5,3] [3] (ap Tryz.f73 1) (vQ A C E F G H aj K 0) (.exit 2) (O6 A C E F G H aj K),.l [] [8,3] [3] (ap Tryz.f73 2) (s0 A C E F G H aj K 0) .ret (Gx u)])):
 ar 73 [.agg (bz L a b),.agg (aX A C E F G H aj K)] [ak u]:=
 h.of
theorem aoF(h:ad (Q' L a b A q C r E s F t G H aj (ap Tryz.f73 0) K [.l [] [7,5,3] [3] (ap Tryz.f73 1) (vQ A C E F G H aj K 0) (.exit 2) (O6 A C E F G H aj K),.l [] [8,3] [3] (ap Tryz.f73 2) (s0 A C E F G H aj K 0) (.exit 4) O8])):
 ar 73 [.agg (bz L a b),.agg (aX A C E F G H aj K)] [ak true]:=
 h.of
def abW(A:af)(a b:Int)(C:af)(q:Bool)(l:List O):List O:=.r 72 [.agg (bz A a b),aP 5 C] [ak q]::l
theorem aoG(h:ad (abW A a b C q [.n q true])):
 ar 70 [.agg (bz A a b),.agg (aX C F G H aj K L E)] [ak false]:=
 h.of
def abX(A:af)(a b:Int)(C:af)(q:Bool)(E:af)(r:Bool)(l:List O):List O:=abW A a b C q (.n q false::.r 72 [.agg (bz A a b),aP 5 E] [ak r]::l)
theorem aoH(h:ad (abX A a b C q E r [.n r true])):
 ar 70 [.agg (bz A a b),.agg (aX C E G H aj K L F)] [ak false]:=
 h.of
def abY(A:af)(a b:Int)(C:af)(q:Bool)(E:af)(r:Bool)(F:af)(s:Bool)(l:List O):List O:=abX A a b C q E r (.n r false::.r 72 [.agg (bz A a b),aP 5 F] [ak s]::l)
theorem aoI(h:ad (abY A a b C q E r F s [.n s true])):
 ar 70 [.agg (bz A a b),.agg (aX C E F H aj K L G)] [ak false]:=
 h.of
def Rh(A:af)(a b:Int)(C:af)(q:Bool)(E:af)(r:Bool)(F:af)(s:Bool)(G:af)(t:Bool)(l:List O):List O:=abY A a b C q E r F s (.n s false::.r 114 [aP 4 G] [ak t]::l)
theorem aoJ(h:ad (Rh A a b C q E r F s G t [.n t true])):
 ar 70 [.agg (bz A a b),.agg (aX C E F G aj K L H)] [ak false]:=
 h.of
def pN(A:af)(a:Int)(C E F G H aj K L:af):aD:=a' 121 [(3,aS 3),(37,dW 5 A),(38,aT (A.length:Int)),(39,aT a)] [(3,[.J .free 5 C,.J .free 5 E,.J .free 5 F,.J .free 4 G,.J .free 1 H,.J .free 1 aj,.J .free 1 K,.J .free 2 L])]
def CF(q:Bool):aD:=a' 121 [(4,.aF (.one (.bg q)))] []
theorem aoK(h:ad [.i A a (bi b c d e f),.b (b != 0) true]):
 aV (ap Tryz.f70 0) (pN A a C E F G H aj K L) .ret (CF false):=
 h.aQ [4] []
theorem aoL(h:ad (wV A a b d c e f [.b (c != 0) true])):
 aV (ap Tryz.f70 0) (pN A a C E F G H aj K L) .ret (CF false):=
 h.aQ [4] []
theorem aoM(h:ad (wV C a b c d f g [.b (d != 0) false,.b (decide (a>0)) true,.v (a-1),.p (0<=a-1),.p (a-1<(A.length:Int)),.e A ((a-1).toNat) (bi i e j k l),.b (decide (e>c)) true])):
 aV (ap Tryz.f70 0) (pN C a E F A G H aj K L) .ret (CF false):=
 h.aQ [4] []
theorem aoN(h:ad (wV C a b c d f g [.b (d != 0) false,.b (decide (a>0)) true,.v (a-1),.p (0<=a-1),.p (a-1<(A.length:Int)),.e A ((a-1).toNat) (bi i e j k l),.b (decide (e>c)) false,.u a])):
 aV (ap Tryz.f70 0) (pN C a E F A G H aj K L) .normal (pN C (a+1) E F A G H aj K L):=
 h.aQ [39,38,37,3] [3]
theorem aoO(h:ad (wV A a b d c e f [.b (c != 0) false,.b (decide (a>0)) false,.u a])):
 aV (ap Tryz.f70 0) (pN A a C E F G H aj K L) .normal (pN A (a+1) C E F G H aj K L):=
 h.aQ [39,38,37,3] [3]
def LU(A C E F G H aj K:af):aD:=a' 121 [(3,aS 3)] [(3,[.J .free 5 A,.J .free 5 C,.J .free 5 E,.J .free 4 F,.J .free 1 G,.J .free 1 H,.J .free 1 aj,.J .free 2 K])]
theorem aoP(h:ad [.f L a false]):
 aV (ap Tryz.f70 0) (pN L a A C E F G H aj K) (.exit 0) (LU A C E F G H aj K):=
 h.aQ [3] [3]
theorem an0(h:ad (Rh A a b E q F r C s G t [.n t false,.l [] [39,38,37,3] [3] (ap Tryz.f70 0) (pN C 0 E F C G aj K L H) .ret (CF u)])):
 ar 70 [.agg (bz A a b),.agg (aX E F C G aj K L H)] [ak u]:=
 h.of
def Ri(A:af)(a b:Int)(C:af)(q:Bool)(E:af)(r:Bool)(F:af)(s:Bool)(G:af)(t:Bool)(W:Code)(H aj K L M N P Q R S bc V:af)(l:List O):List O:=Rh A a b C q E r F s G t (.n t false::.l [] [39,38,37,3] [3] W (pN F 0 C E F G H aj K L) (.exit 0) (LU M N P Q R S bc V)::l)
theorem an1(h:ad (Ri A a b E q F r C s G t (ap Tryz.f70 0) K L M H N Q R S aj bc V X [.b ((aj.length:Int) != 4) true])):
 ar 70 [.agg (bz A a b),.agg (aX E F C G K L M H)] [ak false]:=
 h.of
theorem an2(h:ad (Ri A a b E q F r C s G t (ap Tryz.f70 0) L M N H Q R S bc aj K V X [.b ((aj.length:Int) != 4) false,.b ((K.length:Int) != 4) true])):
 ar 70 [.agg (bz A a b),.agg (aX E F C G L M N H)] [ak false]:=
 h.of
def Ja(A:af)(a b:Int)(C:af)(q:Bool)(E:af)(r:Bool)(F:af)(s:Bool)(G:af)(t:Bool)(W:Code)(H aj K L M N P Q R S bc V:af)(l:List O):List O:=Ri A a b C q E r F s G t W H aj K L M N P Q R S bc V (.b ((R.length:Int) != 4) false::.b ((S.length:Int) != 4) false::l)
theorem an3(h:ad (Ja A a b E q F r C s G t (ap Tryz.f70 0) M N Q H R S bc V aj K L X [.b ((L.length:Int) != 4) true])):
 ar 70 [.agg (bz A a b),.agg (aX E F C G M N Q H)] [ak false]:=
 h.of
def vR(C E F G A H aj K:af)(a:Int):aD:=a' 121 [(3,aS 3),(89,dW 1 A),(90,aT (A.length:Int)),(91,aT a)] [(3,[.J .free 5 C,.J .free 5 E,.J .free 5 F,.J .free 4 G,.J .free 1 A,.J .free 1 H,.J .free 1 aj,.J .free 2 K])]
def O9(q:Bool):aD:=a' 121 [(4,.aF (.one (.bg q)))] []
theorem an4(h:ad [.i A a [I b],.r 43 [ae b,ae (-1000000),ae 1000000] [ak q],.n q true]):
 aV (ap Tryz.f70 1) (vR C E F G A H aj K a) .ret (O9 false):=
 h.aQ [4] []
theorem an5(h:ad [.i A a [I b],.r 43 [ae b,ae (-1000000),ae 1000000] [ak q],.n q false,.u a]):
 aV (ap Tryz.f70 1) (vR C E F G A H aj K a) .normal (vR C E F G A H aj K (a+1)):=
 h.aQ [91,90,89,3] [3]
def O'(A C E F G H aj K:af):aD:=a' 121 [(3,aS 3)] [(3,[.J .free 5 A,.J .free 5 C,.J .free 5 E,.J .free 4 F,.J .free 1 G,.J .free 1 H,.J .free 1 aj,.J .free 2 K])]
theorem an6(h:ad [.f A a false]):
 aV (ap Tryz.f70 1) (vR C E F G A H aj K a) (.exit 2) (O' C E F G A H aj K):=
 h.aQ [3] [3]
theorem an7(h:ad (Ja A a b H q aj r C s K t (ap Tryz.f70 0) bc V X L M N Q R E F G S [.b ((G.length:Int) != 4) false,.l [] [91,90,89,3] [3] (ap Tryz.f70 1) (vR M N Q R E F G S 0) .ret (O9 u)])):
 ar 70 [.agg (bz A a b),.agg (aX H aj C K bc V X L)] [ak u]:=
 h.of
def s3(A:af)(a:Int)(C E F G H aj K L:af):aD:=a' 121 [(3,aS 3),(100,dW 2 A),(101,aT (A.length:Int)),(102,aT a)] [(3,[.J .free 5 C,.J .free 5 E,.J .free 5 F,.J .free 4 G,.J .free 1 H,.J .free 1 aj,.J .free 1 K,.J .free 2 L])]
def Gz(q:Bool):aD:=a' 121 [(4,.aF (.one (.bg q)))] []
theorem an8(h:ad [.i A a [I b,B r],.r 43 [ae b,ae 0,ae 3] [ak q],.n q true]):
 aV (ap Tryz.f70 2) (s3 A a C E F G H aj K L) .ret (Gz false):=
 h.aQ [4] []
def I'(A:af)(a b:Int)(q r:Bool)(C:af)(s:Bool)(l:List O):List O:=.i A a [I b,B q]::.r 43 [ae b,ae 0,ae 3] [ak r]::.n r false::.p ((0:Int)<=none.getD 0)::.p (none.getD 0<=(some a).getD (C.length:Int))::.p ((some a).getD (C.length:Int)<=(C.length:Int))::.r 77 [.one (.J 2 (List.take (((some a).getD (C.length:Int)).toNat-0) (List.drop 0 C))),ae b] [ak s]::l
theorem an9(h:ad (I' C a b s q A r [.b r true])):
 aV (ap Tryz.f70 2) (s3 C a E F G H aj K L A) .ret (Gz false):=
 h.aQ [4] []
theorem aoa(h:ad (I' C a b s q A r [.b r false,.u a])):
 aV (ap Tryz.f70 2) (s3 C a E F G H aj K L A) .normal (s3 C (a+1) E F G H aj K L A):=
 h.aQ [102,101,100,3] [3]
def Pb:aD:=a' 121 [] []
theorem aob(h:ad [.f A a false]):
 aV (ap Tryz.f70 2) (s3 A a C E F G H aj K L) (.exit 4) Pb:=
 h.aQ [] []
theorem aoc(h:ad (Ja G a b N q Q r M s R t (ap Tryz.f70 0) bc V X S H aj K L A C E F [.b ((E.length:Int) != 4) false,.l [] [91,90,89,3] [3] (ap Tryz.f70 1) (vR H aj K L A C E F 0) (.exit 2) (O' H aj K L A C E F),.l [] [102,101,100,3] [3] (ap Tryz.f70 2) (s3 F 0 H aj K L A C E F) .ret (Gz u)])):
 ar 70 [.agg (bz G a b),.agg (aX N Q M R bc V X S)] [ak u]:=
 h.of
theorem aod(h:ad (Ja G a b N q Q r M s R t (ap Tryz.f70 0) bc V X S H aj K L A C E F [.b ((E.length:Int) != 4) false,.l [] [91,90,89,3] [3] (ap Tryz.f70 1) (vR H aj K L A C E F 0) (.exit 2) (O' H aj K L A C E F),.l [] [102,101,100,3] [3] (ap Tryz.f70 2) (s3 F 0 H aj K L A C E F) (.exit 4) Pb])):
 ar 70 [.agg (bz G a b),.agg (aX N Q M R bc V X S)] [ak true]:=
 h.of
def xz(a:Int)(A:af)(b c d e f:Int):aD:=a' 70 [(1,aS 1),(3,aT f)] [(1,[av a,.J .free 5 A,av b,av c,av d,av e])]
def Pc(q:Bool):aD:=a' 70 [(2,.aF (.one (.bg q)))] []
theorem aoe(h:ad (Ey A c d e f a b q [.n q true])):
 aV (ap Tryz.f74 0) (xz g A i j k l c) .ret (Pc false):=
 h.aQ [2] []
theorem aof(h:ad (Ey A a j k l c d q [.n q false,.u a])):
 aV (ap Tryz.f74 0) (xz b A e f g i a) .normal (xz b A e f g i (a+1)):=
 h.aQ [3,1] [1]
def TB(a:Int)(A:af)(b c d e:Int):aD:=a' 70 [(1,aS 1)] [(1,[av a,.J .free 5 A,av b,av c,av d,av e])]
theorem aog(h:ad [.f A f false]):
 aV (ap Tryz.f74 0) (xz a A b c d e f) (.exit 0) (TB a A b c d e):=
 h.aQ [1] [1]
theorem aoh(h:ad [.l [] [3,1] [1] (ap Tryz.f74 0) (xz a A b c d e 0) .ret (Pc q)]):
 ar 74 [.agg (bU a A b c d e)] [ak q]:=
 h.of
def abZ(W:Code)(a:Int)(A:af)(b c d e:Int)(q:Bool)(l:List O):List O:=.l [] [3,1] [1] W (xz a A b c d e 0) (.exit 0) (TB a A b c d e)::.r 44 [ae a,ae 1,ae 4] [ak q]::l
def ab0(W:Code)(a:Int)(A:af)(b c d e:Int)(q r:Bool)(l:List O):List O:=abZ W a A b c d e q (.b q true::.r 44 [ae b,ae 0,ae a] [ak r]::l)
def ab1(W:Code)(a:Int)(A:af)(b c d e:Int)(q r s:Bool)(l:List O):List O:=ab0 W a A b c d e q r (.b r true::.r 44 [ae c,ae 0,ae a] [ak s]::l)
def acg(W:Code)(a:Int)(A:af)(b c d e:Int)(q r s:Bool)(l:List O):List O:=ab1 W a A b c d e q r s (.b s true::.v (b+c)::.v (b+c+(A.length:Int))::l)
def Ro(W:Code)(a:Int)(A:af)(b c d e:Int)(q r s t:Bool)(l:List O):List O:=acg W a A b c d e q r s (.b (b+c+(A.length:Int)==a) true::.r 44 [ae d,ae 0,ae 1000000000] [ak t]::l)
theorem aoi(h:ad (Ro (ap Tryz.f74 0) a A b c d e q r s t [.b t true,.v (d-(A.length:Int)),.b (e==d-(A.length:Int)) true])):
 ar 74 [.agg (bU a A b c d e)] [ak (decide (e>=0))]:=
 h.of
theorem aoj(h:ad (Ro (ap Tryz.f74 0) a A b c d e q r s t [.b t true,.v (d-(A.length:Int)),.b (e==d-(A.length:Int)) false])):
 ar 74 [.agg (bU a A b c d e)] [ak false]:=
 h.of
theorem aok(h:ad (Ro (ap Tryz.f74 0) a A b c d e q r s t [.b t false])):
 ar 74 [.agg (bU a A b c d e)] [ak false]:=
 h.of
theorem aol(h:ad (acg (ap Tryz.f74 0) a A b c d e q r s [.b (b+c+(A.length:Int)==a) false])):
 ar 74 [.agg (bU a A b c d e)] [ak false]:=
 h.of
theorem aom(h:ad (ab1 (ap Tryz.f74 0) a A b c d e q r s [.b s false])):
 ar 74 [.agg (bU a A b c d e)] [ak false]:=
 h.of
theorem aon(h:ad (ab0 (ap Tryz.f74 0) a A b c d e q r [.b r false])):
 ar 74 [.agg (bU a A b c d e)] [ak false]:=
 h.of
theorem aoo(h:ad (abZ (ap Tryz.f74 0) a A b c d e q [.b q false])):
 ar 74 [.agg (bU a A b c d e)] [ak false]:=
 h.of
def ach(a:Int)(q:Bool)(l:List O):List O:=.r 43 [ae a,ae 1,ae 4] [ak q]::l
theorem aop(h:ad (ach a q [.n q true])):
 ar 71 [.agg (bU a A b c d e)] [ak false]:=
 h.of
def aci(a:Int)(q:Bool)(b:Int)(r:Bool)(l:List O):List O:=ach a q (.n q false::.r 43 [ae b,ae 0,ae a] [ak r]::l)
theorem anQ(h:ad (aci a q b r [.n r true])):
 ar 71 [.agg (bU a A b c d e)] [ak false]:=
 h.of
def acj(a:Int)(q:Bool)(b:Int)(r:Bool)(c:Int)(s:Bool)(l:List O):List O:=aci a q b r (.n r false::.r 43 [ae c,ae 0,ae a] [ak s]::l)
theorem anR(h:ad (acj a q b r c s [.n s true])):
 ar 71 [.agg (bU a A b c d e)] [ak false]:=
 h.of
def ack(a:Int)(q:Bool)(b:Int)(r:Bool)(c:Int)(s:Bool)(A:af)(l:List O):List O:=acj a q b r c s (.n s false::.v (b+c)::.v (b+c+(A.length:Int))::l)
theorem anS(h:ad (ack a q b r c s A [.b (b+c+(A.length:Int) != a) true])):
 ar 71 [.agg (bU a A b c d e)] [ak false]:=
 h.of
def Jd(a:Int)(q:Bool)(b:Int)(r:Bool)(c:Int)(s:Bool)(A:af)(d:Int)(t:Bool)(l:List O):List O:=ack a q b r c s A (.b (b+c+(A.length:Int) != a) false::.r 43 [ae d,ae 0,ae 1000000000] [ak t]::l)
theorem anT(h:ad (Jd a q b r c s A d t [.n t true])):
 ar 71 [.agg (bU a A b c d e)] [ak false]:=
 h.of
theorem anU(h:ad (Jd a q b r c s A d t [.n t false,.b (decide (e<0)) true])):
 ar 71 [.agg (bU a A b c d e)] [ak false]:=
 h.of
theorem anV(h:ad (Jd a q b r c s A d t [.n t false,.b (decide (e<0)) false,.v (d-e),.b (d-e != (A.length:Int)) true])):
 ar 71 [.agg (bU a A b c d e)] [ak false]:=
 h.of
theorem anW(h:ad (Jd a r b s c t A d u [.n u false,.b (decide (e<0)) false,.v (d-e),.b (d-e != (A.length:Int)) false,.r 115 [aP 5 A] [ak q]])):
 ar 71 [.agg (bU a A b c d e)] [ak q]:=
 h.of
def xU(A:af)(a:Int):aD:=a' 15 [(5,dW 5 A),(6,aT (A.length:Int)),(7,aT a)] []
def Pd(q:Bool):aD:=a' 15 [(2,.aF (.one (.bg q)))] []
theorem anX(h:ad (Ez A a b c d e f q [.n q true])):
 aV (ap Tryz.f115 0) (xU A a) .ret (Pd false):=
 h.aQ [2] []
theorem anY(h:ad (Ez A a b c d e f q [.n q false,.u a])):
 aV (ap Tryz.f115 0) (xU A a) .normal (xU A (a+1)):=
 h.aQ [7,6,5] []
def XM:aD:=a' 15 [] []
theorem anZ(h:ad [.f A a false]):
 aV (ap Tryz.f115 0) (xU A a) (.exit 0) XM:=
 h.aQ [] []
theorem apr(h:ad [.l [] [7,6,5] [] (ap Tryz.f115 0) (xU A 0) .ret (Pd q)]):
 ar 115 [aP 5 A] [ak q]:=
 h.of
theorem aps(h:ad [.l [] [7,6,5] [] (ap Tryz.f115 0) (xU A 0) (.exit 0) XM]):
 ar 115 [aP 5 A] [ak true]:=
 h.of
def Rp(A:af)(a b:Int)(q:Bool)(l:List O):List O:=.r 55 [.agg (bz A a b)] [ak q]::l
theorem apt(h:ad (Rp A a b q [.n q true])):
 ar 28 [.agg (cl A a b C E F G)] [ak false]:=
 h.of
theorem apu(h:ad (Rp A a b q [.n q false,.b ((C.length:Int) != a) true])):
 ar 28 [.agg (cl A a b C E F G)] [ak false]:=
 h.of
def acm(A:af)(a b:Int)(q:Bool)(C:af)(l:List O):List O:=Rp A a b q (.n q false::.b ((C.length:Int) != a) false::.v (a*a)::l)
theorem apv(h:ad (acm A a b q C [.b ((E.length:Int) != a*a) true])):
 ar 28 [.agg (cl A a b C E F G)] [ak false]:=
 h.of
def acn(A:af)(a b:Int)(q:Bool)(C E:af)(l:List O):List O:=acm A a b q C (.b ((E.length:Int) != a*a) false::l)
theorem apw(h:ad (acn A a b q C E [.b ((F.length:Int) != 4) true])):
 ar 28 [.agg (cl A a b C E F G)] [ak false]:=
 h.of
def uA(A:af)(a b:Int)(C E F G:af)(c:Int):aD:=a' 170 [(1,aS 1),(3,aT a),(4,aT c)] [(1,[.J .free 4 A,av a,av b,.J .free 8 C,.J .free 6 E,.J .free 5 F,.J .free 3 G])]
def GC(q:Bool):aD:=a' 170 [(2,.aF (.one (.bg q)))] []
theorem apx(h:ad [.b (decide (b<a)) true,.x L b (aX M C E F G H aj K),.r 73 [.agg (bz A a c),.agg (aX M C E F G H aj K)] [ak q],.n q true]):
 aV (ap Tryz.f28 0) (uA A a c L N Q R b) .ret (GC false):=
 h.aQ [2] []
theorem apy(h:ad [.b (decide (a<b)) true,.x C a (aX R E F G H aj K L),.r 73 [.agg (bz A b c),.agg (aX R E F G H aj K L)] [ak q],.n q false,.u a]):
 aV (ap Tryz.f28 0) (uA A b c C M N Q a) .normal (uA A b c C M N Q (a+1)):=
 h.aQ [4,3,1] [1]
def LV(A:af)(a b:Int)(C E F G:af):aD:=a' 170 [(1,aS 1),(3,aT a)] [(1,[.J .free 4 A,av a,av b,.J .free 8 C,.J .free 6 E,.J .free 5 F,.J .free 3 G])]
theorem apz(h:ad [.b (decide (c<a)) false]):
 aV (ap Tryz.f28 0) (uA A a b C E F G c) (.exit 0) (LV A a b C E F G):=
 h.aQ [1,3] [1]
def aco(A:af)(a b:Int)(q:Bool)(C E F:af)(l:List O):List O:=acn A a b q C E (.b ((F.length:Int) != 4) false::l)
theorem apA(h:ad (aco A a b q C E F [.l [] [4,3,1] [1] (ap Tryz.f28 0) (uA A a b C E F G 0) .ret (GC r)])):
 ar 28 [.agg (cl A a b C E F G)] [ak r]:=
 h.of
def np(a b:Int)(A:af)(c d:Int)(C E F G:af):aD:=a' 170 [(1,aS 1),(3,aT a),(5,aT b)] [(1,[.J .free 4 A,av c,av d,.J .free 8 C,.J .free 6 E,.J .free 5 F,.J .free 3 G])]
def Af(q:Bool):aD:=a' 170 [(2,.aF (.one (.bg q)))] []
def Q6(A:af)(a b:Int)(C:af)(c d e f:Int)(q:Bool)(l:List O):List O:=.i A a (bU b C c d e f)::.r 74 [.agg (bU b C c d e f)] [ak q]::l
theorem apB(h:ad (Q6 A f a C b c d e q [.n q true])):
 aV (ap Tryz.f28 1) (np g f H i j E A F G) .ret (Af false):=
 h.aQ [2] []
theorem apC(h:ad (Q6 A g a C c d e f q [.n q false,.b (a != b) true])):
 aV (ap Tryz.f28 1) (np i g H j b E A F G) .ret (Af false):=
 h.aQ [2] []
def IZ(A:af)(a b:Int)(C:af)(c d e f:Int)(q:Bool)(g:Int)(E:af)(i:Int)(r:Bool)(l:List O):List O:=Q6 A a b C c d e f q (.n q false::.b (b != g) false::.r 75 [.agg (bz E i g),aP 5 C] [ak r]::l)
theorem apD(h:ad (IZ C i b A d e f g q a E c r [.n r true])):
 aV (ap Tryz.f28 1) (np j i E c a F C G H) .ret (Af false):=
 h.aQ [2] []
theorem apE(h:ad (IZ C b d A f g i j q c E e r [.n r false,.p (a≠0),.v (b.tdiv a),.p (a≠0),.b (b.tdiv a==b.tmod a) true,.b (decide ((A.length:Int)>0)) true])):
 aV (ap Tryz.f28 1) (np a b E e c F C G H) .ret (Af false):=
 h.aQ [2] []
theorem apF(h:ad (IZ C b e A f g i j q c E d r [.n r false,.p (a≠0),.v (b.tdiv a),.p (a≠0),.b (b.tdiv a==b.tmod a) true,.b (decide ((A.length:Int)>0)) false,.u b])):
 aV (ap Tryz.f28 1) (np a b E d c F C G H) .normal (np a (b+1) E d c F C G H):=
 h.aQ [5,1,3] [1]
theorem apG(h:ad (IZ A b e C f g i j q c E d r [.n r false,.p (a≠0),.v (b.tdiv a),.p (a≠0),.b (b.tdiv a==b.tmod a) false,.u b])):
 aV (ap Tryz.f28 1) (np a b E d c F A G H) .normal (np a (b+1) E d c F A G H):=
 h.aQ [5,1,3] [1]
def CG(a:Int)(A:af)(b c:Int)(C E F G:af):aD:=a' 170 [(1,aS 1),(3,aT a)] [(1,[.J .free 4 A,av b,av c,.J .free 8 C,.J .free 6 E,.J .free 5 F,.J .free 3 G])]
theorem apH(h:ad [.f A d false]):
 aV (ap Tryz.f28 1) (np a d G b c C A E F) (.exit 2) (CG a G b c C A E F):=
 h.aQ [1,3] [1]
def Je(A:af)(a b:Int)(q:Bool)(C E F:af)(W:Code)(G:af)(l:List O):List O:=aco A a b q C E F (.l [] [4,3,1] [1] W (uA A a b C E F G 0) (.exit 0) (LV A a b C E F G)::l)
theorem apI(h:ad (Je A a b q C E F (ap Tryz.f28 0) G [.l [] [5,1,3] [1] (ap Tryz.f28 1) (np a 0 A a b C E F G) .ret (Af r)])):
 ar 28 [.agg (cl A a b C E F G)] [ak r]:=
 h.of
def n1(a:Int)(A:af)(b c:Int)(C E F G:af)(d:Int):aD:=a' 170 [(1,aS 1),(3,aT a),(7,aT d)] [(1,[.J .free 4 A,av b,av c,.J .free 8 C,.J .free 6 E,.J .free 5 F,.J .free 3 G])]
def xV(q:Bool):aD:=a' 170 [(2,.aF (.one (.bg q)))] []
def acp(A:af)(a:Int)(q:Bool)(b c:Int)(r s:Bool)(d:Int)(l:List O):List O:=.i A a [B q,I b,I c,B r,B s]::.v (d-1)::l
def acq(A:af)(a:Int)(q:Bool)(b c:Int)(r s:Bool)(d:Int)(t:Bool)(l:List O):List O:=acp A a q b c r s d (.r 44 [ae b,ae 0,ae (d-1)] [ak t]::l)
theorem apJ(h:ad (acq A b r c e s t a q [.n q true])):
 aV (ap Tryz.f28 2) (n1 a G f d C E A F b) .ret (xV false):=
 h.aQ [2] []
def EG(A:af)(a:Int)(q:Bool)(b c:Int)(r s:Bool)(d:Int)(t u:Bool)(e f:Int)(v w:Bool)(l:List O):List O:=acq A a q b c r s d t (.n t false::.x A a [B u,I e,I f,B v,B w]::l)
theorem apK(h:ad (EG A a s c f t u b q r g i v w [.n r true,.x A a [B x,I d,I j,B y,B z],.b (d != 0) true])):
 aV (ap Tryz.f28 2) (n1 b G k e C E A F a) .ret (xV false):=
 h.aQ [2] []
theorem apL(h:ad (EG A a t c g u v b q r i j w x [.n r true,.x A a [B y,I d,I k,B z,B gr],.b (d != 0) false,.x A a [B gw,I l,I e,B gL,B t0],.r 44 [ae e,ae (-1000000),ae 1000000] [ak s],.n s true])):
 aV (ap Tryz.f28 2) (n1 b G m f C E A F a) .ret (xV false):=
 h.aQ [2] []
theorem apM(h:ad (EG A a t d i u v b q r j k w x [.n r true,.x A a [B y,I e,I l,B z,B gr],.b (e != 0) false,.x A a [B gw,I m,I f,B gL,B t0],.r 44 [ae f,ae (-1000000),ae 1000000] [ak s],.n s false,.u a])):
 aV (ap Tryz.f28 2) (n1 b G g c C E A F a) .normal (n1 b G g c C E A F (a+1)):=
 h.aQ [7,1,3] [1]
theorem apN(h:ad (EG A a t c f u v b q r g i w x [.n r false,.x A a [B y,I j,I d,B z,B gr],.r 44 [ae d,ae (-1000000),ae 1000000] [ak s],.n s true])):
 aV (ap Tryz.f28 2) (n1 b G k e C E A F a) .ret (xV false):=
 h.aQ [2] []
theorem apO(h:ad (EG A a t d g u v b q r i j w x [.n r false,.x A a [B y,I k,I e,B z,B gr],.r 44 [ae e,ae (-1000000),ae 1000000] [ak s],.n s false,.u a])):
 aV (ap Tryz.f28 2) (n1 b G f c C E A F a) .normal (n1 b G f c C E A F (a+1)):=
 h.aQ [7,1,3] [1]
def GD(a:Int)(A:af)(b c:Int)(C E F G:af):aD:=a' 170 [(1,aS 1),(3,aT a)] [(1,[.J .free 4 A,av b,av c,.J .free 8 C,.J .free 6 E,.J .free 5 F,.J .free 3 G])]
theorem apP(h:ad [.f A c false]):
 aV (ap Tryz.f28 2) (n1 a G d b C E A F c) (.exit 4) (GD a G d b C E A F):=
 h.aQ [1,3] [1]
theorem apQ(h:ad (Je A a b r C E F (ap Tryz.f28 0) G [.l [] [5,1,3] [1] (ap Tryz.f28 1) (np a 0 A a b C E F G) (.exit 2) (CG a M d c H aj K L),.l [] [7,1,3] [1] (ap Tryz.f28 2) (n1 a M d c H aj K L 0) .ret (xV q)])):
 ar 28 [.agg (cl A a b C E F G)] [ak q]:=
 h.of
def s4(a:Int)(A:af)(b c:Int)(C E F G:af)(d:Int):aD:=a' 170 [(1,aS 1),(3,aT a),(8,aT d)] [(1,[.J .free 4 A,av b,av c,.J .free 8 C,.J .free 6 E,.J .free 5 F,.J .free 3 G])]
def CH(q:Bool):aD:=a' 170 [(2,.aF (.one (.bg q)))] []
theorem ao0(h:ad [.i A b [I c,I e,B r],.v (a-1),.r 44 [ae c,ae 0,ae (a-1)] [ak q],.n q true]):
 aV (ap Tryz.f28 3) (s4 a G f d C E F A b) .ret (CH false):=
 h.aQ [2] []
theorem ao1(h:ad [.i A b [I c,I f,B s],.v (a-1),.r 44 [ae c,ae 0,ae (a-1)] [ak q],.n q false,.x A b [I g,I d,B t],.r 44 [ae d,ae 0,ae 3] [ak r],.n r true]):
 aV (ap Tryz.f28 3) (s4 a G i e C E F A b) .ret (CH false):=
 h.aQ [2] []
theorem ao2(h:ad [.i A a [I d,I g,B s],.v (b-1),.r 44 [ae d,ae 0,ae (b-1)] [ak q],.n q false,.x A a [I i,I e,B t],.r 44 [ae e,ae 0,ae 3] [ak r],.n r false,.u a]):
 aV (ap Tryz.f28 3) (s4 b G f c C E F A a) .normal (s4 b G f c C E F A (a+1)):=
 h.aQ [8,1,3] [1]
def Pe:aD:=a' 170 [] []
theorem ao3(h:ad [.f A a false]):
 aV (ap Tryz.f28 3) (s4 b G d c C E F A a) (.exit 6) Pe:=
 h.aQ [] []
theorem ao4(h:ad (Je A a b r C E F (ap Tryz.f28 0) L [.l [] [5,1,3] [1] (ap Tryz.f28 1) (np a 0 A a b C E F L) (.exit 2) (CG a M d c G H aj K),.l [] [7,1,3] [1] (ap Tryz.f28 2) (n1 a M d c G H aj K 0) (.exit 4) (GD a M d c G H aj K),.l [] [8,1,3] [1] (ap Tryz.f28 3) (s4 a M d c G H aj K 0) .ret (CH q)])):
 ar 28 [.agg (cl A a b C E F L)] [ak q]:=
 h.of
theorem ao5(h:ad (Je A a b q C E F (ap Tryz.f28 0) L [.l [] [5,1,3] [1] (ap Tryz.f28 1) (np a 0 A a b C E F L) (.exit 2) (CG a M d c G H aj K),.l [] [7,1,3] [1] (ap Tryz.f28 2) (n1 a M d c G H aj K 0) (.exit 4) (GD a M d c G H aj K),.l [] [8,1,3] [1] (ap Tryz.f28 3) (s4 a M d c G H aj K 0) (.exit 6) Pe])):
 ar 28 [.agg (cl A a b C E F L)] [ak true]:=
 h.of
def Rq(A:af)(a b:Int)(q:Bool)(l:List O):List O:=.r 69 [.agg (bz A a b)] [ak q]::l
theorem ao6(h:ad (Rq A a b q [.n q true])):
 ar 27 [.agg (cl A a b C E F G)] [ak false]:=
 h.of
theorem ao7(h:ad (Rq A a b q [.n q false,.b ((C.length:Int) != a) true])):
 ar 27 [.agg (cl A a b C E F G)] [ak false]:=
 h.of
def acr(A:af)(a b:Int)(q:Bool)(C:af)(l:List O):List O:=Rq A a b q (.n q false::.b ((C.length:Int) != a) false::.v (a*a)::l)
theorem ao8(h:ad (acr A a b q C [.b ((E.length:Int) != a*a) true])):
 ar 27 [.agg (cl A a b C E F G)] [ak false]:=
 h.of
def acs(A:af)(a b:Int)(q:Bool)(C E:af)(l:List O):List O:=acr A a b q C (.b ((E.length:Int) != a*a) false::l)
theorem ao9(h:ad (acs A a b q C E [.b ((F.length:Int) != 4) true])):
 ar 27 [.agg (cl A a b C E F G)] [ak false]:=
 h.of
def uz(a:Int)(A:af)(b:Int)(C:af)(c d:Int)(E F G H:af):aD:=a' 147 [(1,aS 1),(3,aT a),(42,dW 8 A),(43,aT (A.length:Int)),(44,aT b)] [(1,[.J .free 4 C,av c,av d,.J .free 8 E,.J .free 6 F,.J .free 5 G,.J .free 3 H])]
def GF(q:Bool):aD:=a' 147 [(2,.aF (.one (.bg q)))] []
theorem apa(h:ad [.i L c (aX A C E F G H aj K),.r 70 [.agg (bz M a b),.agg (aX A C E F G H aj K)] [ak q],.n q true]):
 aV (ap Tryz.f27 0) (uz d L c M a b N Q R S) .ret (GF false):=
 h.aQ [2] []
theorem apb(h:ad [.i A a (aX aj K L M N Q R S),.r 70 [.agg (bz C b c),.agg (aX aj K L M N Q R S)] [ak q],.n q false,.u a]):
 aV (ap Tryz.f27 0) (uz d A a C b c E F G H) .normal (uz d A (a+1) C b c E F G H):=
 h.aQ [44,43,42,1,3] [1]
def LW(a:Int)(A:af)(b c:Int)(C E F G:af):aD:=a' 147 [(1,aS 1),(3,aT a)] [(1,[.J .free 4 A,av b,av c,.J .free 8 C,.J .free 6 E,.J .free 5 F,.J .free 3 G])]
theorem apc(h:ad [.f G d false]):
 aV (ap Tryz.f27 0) (uz a G d H b c A C E F) (.exit 0) (LW a H b c A C E F):=
 h.aQ [1,3] [1]
def acu(A:af)(a b:Int)(q:Bool)(C E F:af)(l:List O):List O:=acs A a b q C E (.b ((F.length:Int) != 4) false::l)
theorem apd(h:ad (acu C a b q A E F [.l [] [44,43,42,1,3] [1] (ap Tryz.f27 0) (uz a A 0 C a b A E F G) .ret (GF r)])):
 ar 27 [.agg (cl C a b A E F G)] [ak r]:=
 h.of
def nq(a:Int)(A:af)(b:Int)(C:af)(c d:Int)(E F G H:af):aD:=a' 147 [(1,aS 1),(3,aT a),(55,dW 6 A),(56,aT (A.length:Int)),(57,aT b)] [(1,[.J .free 4 C,av c,av d,.J .free 8 E,.J .free 6 F,.J .free 5 G,.J .free 3 H])]
def Ag(q:Bool):aD:=a' 147 [(2,.aF (.one (.bg q)))] []
def Q7(A:af)(a b:Int)(C:af)(c d e f:Int)(q:Bool)(l:List O):List O:=.i A a (bU b C c d e f)::.r 71 [.agg (bU b C c d e f)] [ak q]::l
theorem ape(h:ad (Q7 A a b C c d e f q [.n q true])):
 aV (ap Tryz.f27 1) (nq g A a E i j F G H aj) .ret (Ag false):=
 h.aQ [2] []
theorem apf(h:ad (Q7 A b a C d e f g q [.n q false,.b (a != c) true])):
 aV (ap Tryz.f27 1) (nq i A b E j c F G H aj) .ret (Ag false):=
 h.aQ [2] []
def I0(A:af)(a b:Int)(C:af)(c d e f:Int)(q:Bool)(g:Int)(E:af)(i:Int)(r:Bool)(l:List O):List O:=Q7 A a b C c d e f q (.n q false::.b (b != g) false::.r 72 [.agg (bz E i g),aP 5 C] [ak r]::l)
theorem apg(h:ad (I0 C c b A e f g i q a E d r [.n r true])):
 aV (ap Tryz.f27 1) (nq j C c E d a F G H aj) .ret (Ag false):=
 h.aQ [2] []
theorem aph(h:ad (I0 C b d A f g i j q c E e r [.n r false,.p (a≠0),.v (b.tdiv a),.p (a≠0),.b (b.tdiv a==b.tmod a) true,.b (decide ((A.length:Int)>0)) true])):
 aV (ap Tryz.f27 1) (nq a C b E e c F G H aj) .ret (Ag false):=
 h.aQ [2] []
theorem api(h:ad (I0 C b e A f g i j q c E d r [.n r false,.p (a≠0),.v (b.tdiv a),.p (a≠0),.b (b.tdiv a==b.tmod a) true,.b (decide ((A.length:Int)>0)) false,.u b])):
 aV (ap Tryz.f27 1) (nq a C b E d c F G H aj) .normal (nq a C (b+1) E d c F G H aj):=
 h.aQ [57,56,55,1,3] [1]
theorem apj(h:ad (I0 A b e E f g i j q c C d r [.n r false,.p (a≠0),.v (b.tdiv a),.p (a≠0),.b (b.tdiv a==b.tmod a) false,.u b])):
 aV (ap Tryz.f27 1) (nq a A b C d c F G H aj) .normal (nq a A (b+1) C d c F G H aj):=
 h.aQ [57,56,55,1,3] [1]
def CI(a:Int)(A:af)(b c:Int)(C E F G:af):aD:=a' 147 [(1,aS 1),(3,aT a)] [(1,[.J .free 4 A,av b,av c,.J .free 8 C,.J .free 6 E,.J .free 5 F,.J .free 3 G])]
theorem apk(h:ad [.f A b false]):
 aV (ap Tryz.f27 1) (nq a A b C c d E F G H) (.exit 2) (CI a C c d E F G H):=
 h.aQ [1,3] [1]
def Jf(A:af)(a b:Int)(q:Bool)(C E F:af)(W:Code)(G H:af)(c d:Int)(aj K L M:af)(l:List O):List O:=acu A a b q C E F (.l [] [44,43,42,1,3] [1] W (uz a C 0 A a b C E F G) (.exit 0) (LW a H c d aj K L M)::l)
theorem apl(h:ad (Jf C a b r A F G (ap Tryz.f27 0) L M d c H E aj K [.l [] [57,56,55,1,3] [1] (ap Tryz.f27 1) (nq a E 0 M d c H E aj K) .ret (Ag q)])):
 ar 27 [.agg (cl C a b A F G L)] [ak q]:=
 h.of
def n2(a:Int)(A:af)(b:Int)(C:af)(c d:Int)(E F G H:af):aD:=a' 147 [(1,aS 1),(3,aT a),(98,dW 5 A),(99,aT (A.length:Int)),(100,aT b)] [(1,[.J .free 4 C,av c,av d,.J .free 8 E,.J .free 6 F,.J .free 5 G,.J .free 3 H])]
def xW(q:Bool):aD:=a' 147 [(2,.aF (.one (.bg q)))] []
def A8(A:af)(a:Int)(q:Bool)(b c:Int)(r s:Bool)(d:Int)(t:Bool)(l:List O):List O:=acp A a q b c r s d (.r 43 [ae b,ae 0,ae (d-1)] [ak t]::l)
theorem apm(h:ad (A8 A b r c f s t a q [.n q true])):
 aV (ap Tryz.f27 2) (n2 a A b C d e E F G H) .ret (xW false):=
 h.aQ [2] []
theorem apn(h:ad (A8 A c q b f s t a r [.n r false,.n q true,.b (b != 0) true])):
 aV (ap Tryz.f27 2) (n2 a A c C d e E F G H) .ret (xW false):=
 h.aQ [2] []
theorem apo(h:ad (A8 A c q b d t u a r [.n r false,.n q true,.b (b != 0) false,.r 43 [ae d,ae (-1000000),ae 1000000] [ak s],.n s true])):
 aV (ap Tryz.f27 2) (n2 a A c C e f E F G H) .ret (xW false):=
 h.aQ [2] []
theorem apq(h:ad (A8 A b q c f t u a r [.n r false,.n q true,.b (c != 0) false,.r 43 [ae f,ae (-1000000),ae 1000000] [ak s],.n s false,.u b])):
 aV (ap Tryz.f27 2) (n2 a A b C d e E F G H) .normal (n2 a A (b+1) C d e E F G H):=
 h.aQ [100,99,98,3,1] [1]
theorem aoQ(h:ad (A8 A b q c d t u a r [.n r false,.n q false,.r 43 [ae d,ae (-1000000),ae 1000000] [ak s],.n s true])):
 aV (ap Tryz.f27 2) (n2 a A b C e f E F G H) .ret (xW false):=
 h.aQ [2] []
theorem aoR(h:ad (A8 A b q e f t u a r [.n r false,.n q false,.r 43 [ae f,ae (-1000000),ae 1000000] [ak s],.n s false,.u b])):
 aV (ap Tryz.f27 2) (n2 a A b C c d E F G H) .normal (n2 a A (b+1) C c d E F G H):=
 h.aQ [100,99,98,3,1] [1]
def GG(a:Int)(A:af)(b c:Int)(C E F G:af):aD:=a' 147 [(1,aS 1),(3,aT a)] [(1,[.J .free 4 A,av b,av c,.J .free 8 C,.J .free 6 E,.J .free 5 F,.J .free 3 G])]
theorem aoS(h:ad [.f A b false]):
 aV (ap Tryz.f27 2) (n2 a A b C c d E F G H) (.exit 4) (GG a C c d E F G H):=
 h.aQ [1,3] [1]
theorem aoT(h:ad (Jf C a b r A G H (ap Tryz.f27 0) S bc f c aj E K L [.l [] [57,56,55,1,3] [1] (ap Tryz.f27 1) (nq a E 0 bc f c aj E K L) (.exit 2) (CI a M d e N Q F R),.l [] [100,99,98,3,1] [1] (ap Tryz.f27 2) (n2 a F 0 M d e N Q F R) .ret (xW q)])):
 ar 27 [.agg (cl C a b A G H S)] [ak q]:=
 h.of
def s5(a:Int)(A:af)(b:Int):aD:=a' 147 [(3,aT a),(128,dW 3 A),(129,aT (A.length:Int)),(130,aT b)] []
def DF(q:Bool):aD:=a' 147 [(2,.aF (.one (.bg q)))] []
theorem aoU(h:ad [.i A b [I c,I d,B r],.v (a-1),.r 43 [ae c,ae 0,ae (a-1)] [ak q],.n q true]):
 aV (ap Tryz.f27 3) (s5 a A b) .ret (DF false):=
 h.aQ [2] []
theorem aoV(h:ad [.i A b [I c,I d,B s],.v (a-1),.r 43 [ae c,ae 0,ae (a-1)] [ak q],.n q false,.r 43 [ae d,ae 0,ae 3] [ak r],.n r true]):
 aV (ap Tryz.f27 3) (s5 a A b) .ret (DF false):=
 h.aQ [2] []
theorem aoW(h:ad [.i A b [I c,I d,B s],.v (a-1),.r 43 [ae c,ae 0,ae (a-1)] [ak q],.n q false,.r 43 [ae d,ae 0,ae 3] [ak r],.n r false,.u b]):
 aV (ap Tryz.f27 3) (s5 a A b) .normal (s5 a A (b+1)):=
 h.aQ [130,129,128,3] []
def Pf:aD:=a' 147 [] []
theorem aoX(h:ad [.f A a false]):
 aV (ap Tryz.f27 3) (s5 b A a) (.exit 6) Pf:=
 h.aQ [] []
theorem aoY(h:ad (Jf C a b r A G H (ap Tryz.f27 0) bc V f c aj E K L [.l [] [57,56,55,1,3] [1] (ap Tryz.f27 1) (nq a E 0 V f c aj E K L) (.exit 2) (CI a M d e N Q F R),.l [] [100,99,98,3,1] [1] (ap Tryz.f27 2) (n2 a F 0 M d e N Q F R) (.exit 4) (GG a X g i Y Z dz S),.l [] [130,129,128,3] [] (ap Tryz.f27 3) (s5 a S 0) .ret (DF q)])):
 ar 27 [.agg (cl C a b A G H bc)] [ak q]:=
 h.of
theorem aoZ(h:ad (Jf C a b q A G H (ap Tryz.f27 0) bc V f c aj E K L [.l [] [57,56,55,1,3] [1] (ap Tryz.f27 1) (nq a E 0 V f c aj E K L) (.exit 2) (CI a M d e N Q F R),.l [] [100,99,98,3,1] [1] (ap Tryz.f27 2) (n2 a F 0 M d e N Q F R) (.exit 4) (GG a X g i Y Z dz S),.l [] [130,129,128,3] [] (ap Tryz.f27 3) (s5 a S 0) (.exit 6) Pf])):
 ar 27 [.agg (cl C a b A G H bc)] [ak true]:=
 h.of
theorem aqr(h:ad [.r 28 [.agg (cl A a b C E F G)] [ak q],.n q true]):
 ar 9 [.agg (cl A a b C E F G)] [ak false]:=
 h.of
def Jg(A:af)(a b:Int)(C E F G:af)(q r:Bool)(l:List O):List O:=.r 28 [.agg (cl A a b C E F G)] [ak q]::.n q false::.r 15 [.agg (cl A a b C E F G)] [ak r]::l
theorem aqs(h:ad (Jg A a b C E F G q r [.n r true])):
 ar 9 [.agg (cl A a b C E F G)] [ak false]:=
 h.of
theorem aqt(h:ad (Jg A a b C E F G q r [.n r false,.r 17 [.agg (cl A a b C E F G)] [ak s],.n s true])):
 ar 9 [.agg (cl A a b C E F G)] [ak false]:=
 h.of
def vS(A:af)(a b:Int)(C E F G:af)(c:Int):aD:=a' 31 [(1,aS 1),(3,aT c)] [(1,[.J .free 4 A,av a,av b,.J .free 8 C,.J .free 6 E,.J .free 5 F,.J .free 3 G])]
def GH(q:Bool):aD:=a' 31 [(2,.aF (.one (.bg q)))] []
def A9(a:Int)(l:List O):List O:=.b (decide (a<=3)) true::l
theorem aqu(h:ad (A9 a [.r 11 [.agg (cl A b c C E F G),ae a] [ak q],.n q true])):
 aV (ap Tryz.f9 0) (vS A b c C E F G a) .ret (GH false):=
 h.aQ [2] []
theorem aqv(h:ad (A9 a [.r 11 [.agg (cl A b c C E F G),ae a] [ak q],.n q false,.r 13 [.agg (cl A b c C E F G),ae a] [ak r],.n r true])):
 aV (ap Tryz.f9 0) (vS A b c C E F G a) .ret (GH false):=
 h.aQ [2] []
theorem aqw(h:ad (A9 a [.r 11 [.agg (cl A b c C E F G),ae a] [ak q],.n q false,.r 13 [.agg (cl A b c C E F G),ae a] [ak r],.n r false,.u a])):
 aV (ap Tryz.f9 0) (vS A b c C E F G a) .normal (vS A b c C E F G (a+1)):=
 h.aQ [3,1] [1]
def XN:aD:=a' 31 [] []
theorem aqx(h:ad [.b (decide (a<=3)) false]):
 aV (ap Tryz.f9 0) (vS A b c C E F G a) (.exit 0) XN:=
 h.aQ [] []
theorem aqy(h:ad (Jg A a b C E F G r s [.n s false,.r 17 [.agg (cl A a b C E F G)] [ak t],.n t false,.l [] [3,1] [1] (ap Tryz.f9 0) (vS A a b C E F G 0) .ret (GH q)])):
 ar 9 [.agg (cl A a b C E F G)] [ak q]:=
 h.of
theorem aqz(h:ad (Jg A a b C E F G q r [.n r false,.r 17 [.agg (cl A a b C E F G)] [ak s],.n s false,.l [] [3,1] [1] (ap Tryz.f9 0) (vS A a b C E F G 0) (.exit 0) XN])):
 ar 9 [.agg (cl A a b C E F G)] [ak true]:=
 h.of
theorem aqA(h:ad [.r 27 [.agg (cl A a b C E F G)] [ak q],.n q true]):
 ar 8 [.agg (cl A a b C E F G)] [ak false]:=
 h.of
def Jh(A:af)(a b:Int)(C E F G:af)(q r:Bool)(l:List O):List O:=.r 27 [.agg (cl A a b C E F G)] [ak q]::.n q false::.r 14 [.agg (cl A a b C E F G)] [ak r]::l
theorem aqB(h:ad (Jh A a b C E F G q r [.n r true])):
 ar 8 [.agg (cl A a b C E F G)] [ak false]:=
 h.of
theorem aqC(h:ad (Jh A a b C E F G q r [.n r false,.r 16 [.agg (cl A a b C E F G)] [ak s],.n s true])):
 ar 8 [.agg (cl A a b C E F G)] [ak false]:=
 h.of
def vT(A:af)(a b:Int)(C E F G:af)(c:Int):aD:=a' 31 [(1,aS 1),(3,aT c)] [(1,[.J .free 4 A,av a,av b,.J .free 8 C,.J .free 6 E,.J .free 5 F,.J .free 3 G])]
def GI(q:Bool):aD:=a' 31 [(2,.aF (.one (.bg q)))] []
theorem aqD(h:ad (A9 a [.r 10 [.agg (cl A b c C E F G),ae a] [ak q],.n q true])):
 aV (ap Tryz.f8 0) (vT A b c C E F G a) .ret (GI false):=
 h.aQ [2] []
theorem aqE(h:ad (A9 a [.r 10 [.agg (cl A b c C E F G),ae a] [ak q],.n q false,.r 12 [.agg (cl A b c C E F G),ae a] [ak r],.n r true])):
 aV (ap Tryz.f8 0) (vT A b c C E F G a) .ret (GI false):=
 h.aQ [2] []
theorem aqF(h:ad (A9 a [.r 10 [.agg (cl A b c C E F G),ae a] [ak q],.n q false,.r 12 [.agg (cl A b c C E F G),ae a] [ak r],.n r false,.u a])):
 aV (ap Tryz.f8 0) (vT A b c C E F G a) .normal (vT A b c C E F G (a+1)):=
 h.aQ [3,1] [1]
def WZ:aD:=a' 31 [] []
theorem aqG(h:ad [.b (decide (a<=3)) false]):
 aV (ap Tryz.f8 0) (vT A b c C E F G a) (.exit 0) WZ:=
 h.aQ [] []
theorem aqH(h:ad (Jh A a b C E F G r s [.n s false,.r 16 [.agg (cl A a b C E F G)] [ak t],.n t false,.l [] [3,1] [1] (ap Tryz.f8 0) (vT A a b C E F G 0) .ret (GI q)])):
 ar 8 [.agg (cl A a b C E F G)] [ak q]:=
 h.of
theorem aqI(h:ad (Jh A a b C E F G q r [.n r false,.r 16 [.agg (cl A a b C E F G)] [ak s],.n s false,.l [] [3,1] [1] (ap Tryz.f8 0) (vT A a b C E F G 0) (.exit 0) WZ])):
 ar 8 [.agg (cl A a b C E F G)] [ak true]:=
 h.of
