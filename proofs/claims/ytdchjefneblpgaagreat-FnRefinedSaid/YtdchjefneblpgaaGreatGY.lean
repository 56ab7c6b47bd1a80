import Derived.Test.YtdchjefneblpgaaGreatGE
set_option linter.unusedVariables false
set_option linter.unusedSimpArgs false
namespace Go.Proofs.YtdchjefneblpgaaGreat
open Go.Sx Go.RowKit
variable {a b c d e f g i j k l m n o p a0 bX cO d0 bu f0 : Int} {A C E F G H af K L M N Q R S bb V X Y Z c7 : ae} {q r : Bool}
theorem aqV(h:ad [.r 121 [.agg (bA A a b)] [ai q],.n q true]):
 al 14 [.agg (bA A a b),aC 5 C] [.agg (cl [] 0 0 [] [] [] []),ai false]:=
 h.of
theorem aqW(h:ad [.r 121 [.agg (bA A a b)] [ai q],.n q false,.b (decide ((C.length:Int)>20)) true]):
 al 14 [.agg (bA A a b),aC 5 C] [.agg (cl [] 0 0 [] [] [] []),ai false]:=
 h.of
def rC(A:ae)(a b c:Int)(C:ae)(d e:Int):aJ:=bj 84 [(1,dO 5 A),(2,aR 2),(4,aR 4),(6,a6 a)] [(4,[.v (aQ),au b,au c,.v (aQ),.v (aQ),.v (aQ),.v (aQ)]),(2,[.J .free 4 C,au d,au e])]
def zQ(q:Bool)(a b:Int):aJ:=bj 84 [(4,aR 4),(5,.aI (.one (.bg q)))] [(4,[.v (aQ),au a,au b,.v (aQ),.v (aQ),.v (aQ),.v (aQ)])]
def HP(A:ae)(a b c d e f:Int)(q:Bool)(l:List O):List O:=.i A a (aS b c d e f)::.r 122 [.agg (aS b c d e f)] [ai q]::l
theorem aqX(h:ad (HP A f a b c d e q [.n q true])):
 a7 (ar Tryz.f14 0) (rC A f i j C k g) .ret (zQ false 0 0):=
 h.aY [4,5] [4]
theorem aqY(h:ad (HP A a b c d e f q [.n q false,.x A a (aS g j k l m),.b (g != 0) true])):
 a7 (ar Tryz.f14 0) (rC A a n o C p i) .ret (zQ false 0 0):=
 h.aY [4,5] [4]
theorem aqZ(h:ad (HP A a b c d e f q [.n q false,.x A a (aS g k l m n),.b (g != 0) false,.x A a (aS o p i a0 bX),.b (i != 0) true])):
 a7 (ar Tryz.f14 0) (rC A a cO d0 C bu j) .ret (zQ false 0 0):=
 h.aY [4,5] [4]
theorem aq0(h:ad (HP A a c d e f g q [.n q false,.x A a (aS i n o p a0),.b (i != 0) false,.x A a (aS bX cO j d0 bu),.b (j != 0) false,.u a])):
 a7 (ar Tryz.f14 0) (rC A a k l C m b) .normal (rC A (a+1) k l C m b):=
 h.aY [6,1,4,2] [4,2]
def NE(A:ae)(a b:Int)(C:ae)(c d:Int):aJ:=bj 84 [(1,dO 5 A),(2,aR 2),(4,aR 4)] [(4,[.v (aQ),au a,au b,.v (aQ),.v (aQ),.v (aQ),.v (aQ)]),(2,[.J .free 4 C,au c,au d])]
theorem aq1(h:ad [.f A b false]):
 a7 (ar Tryz.f14 0) (rC A b c d C e a) (.exit 0) (NE A c d C e a):=
 h.aY [2,1,4] [4,2]
theorem aq2(h:ad [.r 121 [.agg (bA A a b)] [ai q],.n q false,.b (decide ((C.length:Int)>20)) false,.l [] [6,1,4,2] [4,2] (ar Tryz.f14 0) (rC C 0 0 0 A a b) .ret (zQ r c d)]):
 al 14 [.agg (bA A a b),aC 5 C] [.agg (cl [] c d [] [] [] []),ai r]:=
 h.of
def zR(A:ae)(a:Int)(E:ae)(d e:Int)(F G H:ae)(f g:Int)(C:ae)(b c:Int):aJ:=bj 84 [(1,dO 5 A),(2,aR 2),(4,aR 4),(7,aR 7),(8,a6 a)] [(7,[aB 510000 4 E,au d,au e,aB 67 8 F,aB 81 6 G,aB 51 5 H,.v (aQ)]),(4,[.v (aQ),au f,au g,.v (aQ),.v (aQ),.v (aQ),.v (aQ)]),(2,[.J .free 4 C,au b,au c])]
def Cm(A:ae)(a e:Int)(E:ae)(f g:Int)(F G H:ae)(i b:Int)(C:ae)(c d:Int):aJ:=bj 84 [(1,dO 5 A),(2,aR 2),(4,aR 4),(7,aR 7),(8,a6 a),(9,a6 e)] [(7,[aB 510000 4 E,au f,au g,aB 67 8 F,aB 81 6 G,aB 51 5 H,.v (aQ)]),(4,[.v (aQ),au i,au b,.v (aQ),.v (aQ),.v (aQ),.v (aQ)]),(2,[.J .free 4 C,au c,au d])]
theorem aq3(h:ad [.b (decide (a<b)) true,.r 126 [ag c] [.agg (bZ d C e f g i)],.a .wr,.g A [(bZ d C e f g i)] 64,.u a]):
 a7 (ar Tryz.f14 2) (Cm E j a F k l G A H m n af b c) .normal (Cm E j (a+1) F k l G (A++[(bZ d C e f g i)]) H m n af b c):=
 h.aY [9,2,7,8,1,4] [7,4,2]
def W8(A:ae)(a:Int)(E:ae)(d e:Int)(F G H:ae)(f g:Int)(C:ae)(b c:Int):aJ:=bj 84 [(1,dO 5 A),(2,aR 2),(4,aR 4),(7,aR 7),(8,a6 a)] [(7,[aB 510000 4 E,au d,au e,aB 67 8 F,aB 81 6 G,aB 51 5 H,.v (aQ)]),(4,[.v (aQ),au f,au g,.v (aQ),.v (aQ),.v (aQ),.v (aQ)]),(2,[.J .free 4 C,au b,au c])]
theorem aqe(h:ad [.b (decide (c<a)) false]):
 a7 (ar Tryz.f14 2) (Cm A b c C d e E F G f g H a i) (.exit 4) (W8 A b C d e E F G f g H a i):=
 h.aY [8,2,7,1,4] [7,4,2]
theorem aqf(h:ad [.b (decide (a<b)) true,.r 125 [.agg (bA E b c),aC 5 A,ag a] [aC 5 bb],.r 124 [aC 5 bb] [.agg (aW F G H af K L M N)],.a .wr,.g C [(aW F G H af K L M N)] 192,.l [] [9,2,7,8,1,4] [7,4,2] (ar Tryz.f14 2) (Cm A a 0 Q d e (C++[(aW F G H af K L M N)]) R S f g E b c) (.exit 4) (W8 A a V i j X Y Z k l c7 m n),.u a]):
 a7 (ar Tryz.f14 1) (zR A a Q d e C R S f g E b c) .normal (zR A (a+1) V i j X Y Z k l c7 m n):=
 h.aY [8,2,7,1,4] [7,4,2]
def NF(A:ae)(a b:Int)(C E F:ae)(c d:Int):aJ:=bj 84 [(4,aR 4),(7,aR 7)] [(7,[aB 510000 4 A,au a,au b,aB 67 8 C,aB 81 6 E,aB 51 5 F,.v (aQ)]),(4,[.v (aQ),au c,au d,.v (aQ),.v (aQ),.v (aQ),.v (aQ)])]
theorem aqg(h:ad [.b (decide (a<f)) false]):
 a7 (ar Tryz.f14 1) (zR H a A b c C E F d e G f g) (.exit 2) (NF A b c C E F d e):=
 h.aY [7,4] [7,4]
theorem aqh(h:ad [.r 121 [.agg (bA C a b)] [ai q],.n q false,.b (decide ((A.length:Int)>20)) false,.l [] [6,1,4,2] [4,2] (ar Tryz.f14 0) (rC A 0 0 0 C a b) (.exit 0) (NE A j k E c d),.r 123 [.agg (bA E c d)] [.agg (bA F e f)],.p ((0:Int)<=4),.p ((4:Int)<=4),.p (((↑32:Int)*4:Int)<=281474976710656),.p ((4:Int)<=9223372036854775807),.l [(8000003,67,8),(8000004,81,6)] [8,2,7,1,4] [7,4,2] (ar Tryz.f14 1) (zR A 0 F e f [] [] (List.replicate 4 [B false,I 0,I 0,B false,B false]) j k E c d) (.exit 2) (NF G g i H af K l m)]):
 al 14 [.agg (bA C a b),aC 5 A] [.agg (cl G g i H af K []),ai true]:=
 h.of
def Cn(A:ae)(a b:Int)(C:ae)(c d:Int)(E:ae):aJ:=bj 49 [(1,dO 5 C),(2,a6 c),(3,aR 3),(7,aL.aI (bn.one (aB 10 5 E))),(8,a6 d)] [(3,[.J .free 4 A,au a,au b])]
def tY(A:ae)(a b:Int)(C:ae)(c d e:Int)(E:ae):aJ:=bj 49 [(1,dO 5 C),(2,a6 c),(3,aR 3),(7,aL.aI (bn.one (aB 10 5 E))),(8,a6 d),(9,a6 e)] [(3,[.J .free 4 A,au a,au b])]
theorem aqi(h:ad [.i A a (aS f0 k o p a0),.b (k==j) true,.x A a (aS bX cO d0 l bu),.r 245 [ag l,ag g] [ag m],.b (m==i) true,.x A a (aS b c d e f),.g C [(aS b c d e f)] 40,.h [(aS b c d e f)],.u a]):
 a7 (ar Tryz.f125 1) (tY E g n A i j a C) .normal (tY E g n A i j (a+1) (C++[(aS b c d e f)])):=
 h.aY [9,1,8,3,2,7] [3]
theorem aqj(h:ad [.i A a (aS a0 e j k l),.b (e==d) true,.x A a (aS m n o f p),.r 245 [ag f,ag b] [ag g],.b (g==c) false,.u a]):
 a7 (ar Tryz.f125 1) (tY C b i A c d a E) .normal (tY C b i A c d (a+1) E):=
 h.aY [9,1,8,3,2,7] [3]
theorem aqk(h:ad [.i A a (aS k d g i j),.b (d==b) false,.u a]):
 a7 (ar Tryz.f125 1) (tY C c e A f b a E) .normal (tY C c e A f b (a+1) E):=
 h.aY [9,1,8,3,2,7] [3]
def W9(A:ae)(a b:Int)(C:ae)(c d:Int)(E:ae):aJ:=bj 49 [(1,dO 5 C),(2,a6 c),(3,aR 3),(7,aL.aI (bn.one (aB 10 5 E))),(8,a6 d)] [(3,[.J .free 4 A,au a,au b])]
theorem aql(h:ad [.f A e false]):
 a7 (ar Tryz.f125 1) (tY C a b A c d e E) (.exit 2) (W9 C a b A c d E):=
 h.aY [8,1,3,2,7] [3]
theorem aqm(h:ad [.b (decide (a<=3)) true,.l [] [9,1,8,3,2,7] [3] (ar Tryz.f125 1) (tY A b c C d a 0 E) (.exit 2) (W9 A b c C d a F),.u a]):
 a7 (ar Tryz.f125 0) (Cn A b c C d a E) .normal (Cn A b c C d (a+1) F):=
 h.aY [8,1,3,2,7] [3]
def W'(A:ae):aJ:=bj 49 [(7,aL.aI (bn.one (aB 10 5 A)))] []
theorem aqn(h:ad [.b (decide (a<=3)) false]):
 a7 (ar Tryz.f125 0) (Cn C b c E d a A) (.exit 0) (W' A):=
 h.aY [7] []
theorem aqo(h:ad [.l [] [8,1,3,2,7] [3] (ar Tryz.f125 0) (Cn A a b C c 0 []) (.exit 0) (W' E)]):
 al 125 [.agg (bA A a b),aC 5 C,ag c] [aC 5 E]:=
 h.of
theorem aqp(h:ad [.r 130 [ag b,ag 1,ag 4] [ag a]]):
 al 126 [ag b] [.agg (bZ a [] a 0 0 0)]:=
 h.of
theorem aqq(h:ad [.g ([]:ae) A 40,.h A,.p ((0:Int)<=4),.p ((4:Int)<=4),.p (((↑8:Int)*4:Int)<=281474976710656),.p ((4:Int)<=9223372036854775807),.p ((0:Int)<=4),.p ((4:Int)<=4),.p (((↑1:Int)*4:Int)<=281474976710656),.p ((4:Int)<=9223372036854775807),.p ((0:Int)<=4),.p ((4:Int)<=4),.p (((↑1:Int)*4:Int)<=281474976710656),.p ((4:Int)<=9223372036854775807)]):
 al 124 [aC 5 A] [.agg (aW [] [] ([]++A) [] (List.replicate 4 [I 0]) (List.replicate 4 [B false]) (List.replicate 4 [B false]) [])]:=
 h.of
