import Derived.Test.YthfnndblgbjniaaGreatGE
namespace Go.Proofs.YthfnndblgbjniaaGreat
open Go.Sx Go.RowKit
variable {a b c d e f g i j k l m n o p a0 b8 c9 d0 bE f0 : Int} {A C E F G H aj K L M N Q R S bc V X Y Z dz : af} {q r : Bool}
theorem ato(h:ad [.r 55 [.agg (bz A a b)] [ak q],.n q true]):
 ar 22 [.agg (bz A a b),aP 5 C] [.agg (cl [] 0 0 [] [] [] []),ak false]:=
 h.of
theorem atp(h:ad [.r 55 [.agg (bz A a b)] [ak q],.n q false,.b (decide ((C.length:Int)>20)) true]):
 ar 22 [.agg (bz A a b),aP 5 C] [.agg (cl [] 0 0 [] [] [] []),ak false]:=
 h.of
def r9(A:af)(a b c:Int)(C:af)(d e:Int):aD:=a' 84 [(1,dW 5 A),(2,aS 2),(4,aS 4),(6,aT a)] [(4,[.v (aR),av b,av c,.v (aR),.v (aR),.v (aR),.v (aR)]),(2,[.J .free 4 C,av d,av e])]
def Au(q:Bool)(a b:Int):aD:=a' 84 [(4,aS 4),(5,.aF (.one (.bg q)))] [(4,[.v (aR),av a,av b,.v (aR),.v (aR),.v (aR),.v (aR)])]
def Jj(A:af)(a b c d e f:Int)(q:Bool)(l:List O):List O:=.i A a (bi b c d e f)::.r 56 [.agg (bi b c d e f)] [ak q]::l
theorem atq(h:ad (Jj A f a b c d e q [.n q true])):
 aV (ap Tryz.f22 0) (r9 A f i j C k g) .ret (Au false 0 0):=
 h.aQ [4,5] [4]
theorem atr(h:ad (Jj A a b c d e f q [.n q false,.x A a (bi g j k l m),.b (g != 0) true])):
 aV (ap Tryz.f22 0) (r9 A a n o C p i) .ret (Au false 0 0):=
 h.aQ [4,5] [4]
theorem ats(h:ad (Jj A a b c d e f q [.n q false,.x A a (bi g k l m n),.b (g != 0) false,.x A a (bi o p i a0 b8),.b (i != 0) true])):
 aV (ap Tryz.f22 0) (r9 A a c9 d0 C bE j) .ret (Au false 0 0):=
 h.aQ [4,5] [4]
theorem att(h:ad (Jj A a c d e f g q [.n q false,.x A a (bi i n o p a0),.b (i != 0) false,.x A a (bi b8 c9 j d0 bE),.b (j != 0) false,.u a])):
 aV (ap Tryz.f22 0) (r9 A a k l C m b) .normal (r9 A (a+1) k l C m b):=
 h.aQ [6,1,4,2] [4,2]
def OO(A:af)(a b:Int)(C:af)(c d:Int):aD:=a' 84 [(1,dW 5 A),(2,aS 2),(4,aS 4)] [(4,[.v (aR),av a,av b,.v (aR),.v (aR),.v (aR),.v (aR)]),(2,[.J .free 4 C,av c,av d])]
theorem atu(h:ad [.f A b false]):
 aV (ap Tryz.f22 0) (r9 A b c d C e a) (.exit 0) (OO A c d C e a):=
 h.aQ [2,1,4] [4,2]
theorem asV(h:ad [.r 55 [.agg (bz A a b)] [ak q],.n q false,.b (decide ((C.length:Int)>20)) false,.l [] [6,1,4,2] [4,2] (ap Tryz.f22 0) (r9 C 0 0 0 A a b) .ret (Au r c d)]):
 ar 22 [.agg (bz A a b),aP 5 C] [.agg (cl [] c d [] [] [] []),ak r]:=
 h.of
def zR(A:af)(a:Int)(E:af)(d e:Int)(F G H:af)(f g:Int)(C:af)(b c:Int):aD:=a' 84 [(1,dW 5 A),(2,aS 2),(4,aS 4),(7,aS 7),(8,aT a)] [(7,[aB 510000 4 E,av d,av e,aB 67 8 F,aB 81 6 G,aB 51 5 H,.v (aR)]),(4,[.v (aR),av f,av g,.v (aR),.v (aR),.v (aR),.v (aR)]),(2,[.J .free 4 C,av b,av c])]
def DZ(A:af)(a e:Int)(E:af)(f g:Int)(F G H:af)(i b:Int)(C:af)(c d:Int):aD:=a' 84 [(1,dW 5 A),(2,aS 2),(4,aS 4),(7,aS 7),(8,aT a),(9,aT e)] [(7,[aB 510000 4 E,av f,av g,aB 67 8 F,aB 81 6 G,aB 51 5 H,.v (aR)]),(4,[.v (aR),av i,av b,.v (aR),.v (aR),.v (aR),.v (aR)]),(2,[.J .free 4 C,av c,av d])]
theorem asW(h:ad [.b (decide (a<b)) true,.r 60 [ae c] [.agg (bU d C e f g i)],.a .wr,.g A [(bU d C e f g i)] 64,.u a]):
 aV (ap Tryz.f22 2) (DZ E j a F k l G A H m n aj b c) .normal (DZ E j (a+1) F k l G (A++[(bU d C e f g i)]) H m n aj b c):=
 h.aQ [9,2,7,8,1,4] [7,4,2]
def Yk(A:af)(a:Int)(E:af)(d e:Int)(F G H:af)(f g:Int)(C:af)(b c:Int):aD:=a' 84 [(1,dW 5 A),(2,aS 2),(4,aS 4),(7,aS 7),(8,aT a)] [(7,[aB 510000 4 E,av d,av e,aB 67 8 F,aB 81 6 G,aB 51 5 H,.v (aR)]),(4,[.v (aR),av f,av g,.v (aR),.v (aR),.v (aR),.v (aR)]),(2,[.J .free 4 C,av b,av c])]
theorem asX(h:ad [.b (decide (c<a)) false]):
 aV (ap Tryz.f22 2) (DZ A b c C d e E F G f g H a i) (.exit 4) (Yk A b C d e E F G f g H a i):=
 h.aQ [8,2,7,1,4] [7,4,2]
theorem asY(h:ad [.b (decide (a<b)) true,.r 59 [.agg (bz E b c),aP 5 A,ae a] [aP 5 bc],.r 58 [aP 5 bc] [.agg (aX F G H aj K L M N)],.a .wr,.g C [(aX F G H aj K L M N)] 192,.l [] [9,2,7,8,1,4] [7,4,2] (ap Tryz.f22 2) (DZ A a 0 Q d e (C++[(aX F G H aj K L M N)]) R S f g E b c) (.exit 4) (Yk A a V i j X Y Z k l dz m n),.u a]):
 aV (ap Tryz.f22 1) (zR A a Q d e C R S f g E b c) .normal (zR A (a+1) V i j X Y Z k l dz m n):=
 h.aQ [8,2,7,1,4] [7,4,2]
def OP(A:af)(a b:Int)(C E F:af)(c d:Int):aD:=a' 84 [(4,aS 4),(7,aS 7)] [(7,[aB 510000 4 A,av a,av b,aB 67 8 C,aB 81 6 E,aB 51 5 F,.v (aR)]),(4,[.v (aR),av c,av d,.v (aR),.v (aR),.v (aR),.v (aR)])]
theorem asZ(h:ad [.b (decide (a<f)) false]):
 aV (ap Tryz.f22 1) (zR H a A b c C E F d e G f g) (.exit 2) (OP A b c C E F d e):=
 h.aQ [7,4] [7,4]
theorem as0(h:ad [.r 55 [.agg (bz C a b)] [ak q],.n q false,.b (decide ((A.length:Int)>20)) false,.l [] [6,1,4,2] [4,2] (ap Tryz.f22 0) (r9 A 0 0 0 C a b) (.exit 0) (OO A j k E c d),.r 57 [.agg (bz E c d)] [.agg (bz F e f)],.p ((0:Int)<=4),.p ((4:Int)<=4),.p (((↑32:Int)*4:Int)<=281474976710656),.p ((4:Int)<=9223372036854775807),.l [(8000003,67,8),(8000004,81,6)] [8,2,7,1,4] [7,4,2] (ap Tryz.f22 1) (zR A 0 F e f [] [] (List.replicate 4 [B false,I 0,I 0,B false,B false]) j k E c d) (.exit 2) (OP G g i H aj K l m)]):
 ar 22 [.agg (bz C a b),aP 5 A] [.agg (cl G g i H aj K []),ak true]:=
 h.of
def D0(A:af)(a b:Int)(C:af)(c d:Int)(E:af):aD:=a' 49 [(1,dW 5 C),(2,aT c),(3,aS 3),(7,aI.aF (bp.one (aB 10 5 E))),(8,aT d)] [(3,[.J .free 4 A,av a,av b])]
def uG(A:af)(a b:Int)(C:af)(c d e:Int)(E:af):aD:=a' 49 [(1,dW 5 C),(2,aT c),(3,aS 3),(7,aI.aF (bp.one (aB 10 5 E))),(8,aT d),(9,aT e)] [(3,[.J .free 4 A,av a,av b])]
theorem as1(h:ad [.i A a (bi f0 k o p a0),.b (k==j) true,.x A a (bi b8 c9 d0 l bE),.r 85 [ae l,ae g] [ae m],.b (m==i) true,.x A a (bi b c d e f),.g C [(bi b c d e f)] 40,.h [(bi b c d e f)],.u a]):
 aV (ap Tryz.f59 1) (uG E g n A i j a C) .normal (uG E g n A i j (a+1) (C++[(bi b c d e f)])):=
 h.aQ [9,1,8,3,2,7] [3]
theorem as2(h:ad [.i A a (bi a0 e j k l),.b (e==d) true,.x A a (bi m n o f p),.r 85 [ae f,ae b] [ae g],.b (g==c) false,.u a]):
 aV (ap Tryz.f59 1) (uG C b i A c d a E) .normal (uG C b i A c d (a+1) E):=
 h.aQ [9,1,8,3,2,7] [3]
theorem as3(h:ad [.i A a (bi k d g i j),.b (d==b) false,.u a]):
 aV (ap Tryz.f59 1) (uG C c e A f b a E) .normal (uG C c e A f b (a+1) E):=
 h.aQ [9,1,8,3,2,7] [3]
def Yl(A:af)(a b:Int)(C:af)(c d:Int)(E:af):aD:=a' 49 [(1,dW 5 C),(2,aT c),(3,aS 3),(7,aI.aF (bp.one (aB 10 5 E))),(8,aT d)] [(3,[.J .free 4 A,av a,av b])]
theorem as4(h:ad [.f A e false]):
 aV (ap Tryz.f59 1) (uG C a b A c d e E) (.exit 2) (Yl C a b A c d E):=
 h.aQ [8,1,3,2,7] [3]
theorem auw(h:ad [.b (decide (a<=3)) true,.l [] [9,1,8,3,2,7] [3] (ap Tryz.f59 1) (uG A b c C d a 0 E) (.exit 2) (Yl A b c C d a F),.u a]):
 aV (ap Tryz.f59 0) (D0 A b c C d a E) .normal (D0 A b c C d (a+1) F):=
 h.aQ [8,1,3,2,7] [3]
def Ym(A:af):aD:=a' 49 [(7,aI.aF (bp.one (aB 10 5 A)))] []
theorem auy(h:ad [.b (decide (a<=3)) false]):
 aV (ap Tryz.f59 0) (D0 C b c E d a A) (.exit 0) (Ym A):=
 h.aQ [7] []
theorem auz(h:ad [.l [] [8,1,3,2,7] [3] (ap Tryz.f59 0) (D0 A a b C c 0 []) (.exit 0) (Ym E)]):
 ar 59 [.agg (bz A a b),aP 5 C,ae c] [aP 5 E]:=
 h.of
theorem auA(h:ad [.r 96 [ae b,ae 1,ae 4] [ae a]]):
 ar 60 [ae b] [.agg (bU a [] a 0 0 0)]:=
 h.of
theorem auB(h:ad [.g ([]:af) A 40,.h A,.p ((0:Int)<=4),.p ((4:Int)<=4),.p (((↑8:Int)*4:Int)<=281474976710656),.p ((4:Int)<=9223372036854775807),.p ((0:Int)<=4),.p ((4:Int)<=4),.p (((↑1:Int)*4:Int)<=281474976710656),.p ((4:Int)<=9223372036854775807),.p ((0:Int)<=4),.p ((4:Int)<=4),.p (((↑1:Int)*4:Int)<=281474976710656),.p ((4:Int)<=9223372036854775807)]):
 ar 58 [aP 5 A] [.agg (aX [] [] ([]++A) [] (List.replicate 4 [I 0]) (List.replicate 4 [B false]) (List.replicate 4 [B false]) [])]:=
 h.of
