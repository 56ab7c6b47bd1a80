import Derived.Test.YtdchjefneblpgaaGreatGE
set_option linter.unusedVariables false
set_option linter.unusedSimpArgs false
namespace Go.Proofs.YtdchjefneblpgaaGreat
open Go.Sx Go.RowKit
variable {a b c d e f g i j k l m n o p a0 b6 c5 d0 bE f0 : Int} {A C E F G H ah K L M N Q R S ba V X Y Z dC : ag} {q r : Bool}
theorem arh(h:ad [.r 121 [.agg (br A a b)] [aj q],.n q true]):
 aq 14 [.agg (br A a b),aO 5 C] [.agg (cl [] 0 0 [] [] [] []),aj false]:=
 h.of
theorem ari(h:ad [.r 121 [.agg (br A a b)] [aj q],.n q false,.b (decide ((C.length:Int)>20)) true]):
 aq 14 [.agg (br A a b),aO 5 C] [.agg (cl [] 0 0 [] [] [] []),aj false]:=
 h.of
def rP(A:ag)(a b c:Int)(C:ag)(d e:Int):aC:=bb 84 [(1,dB 5 A),(2,aR 2),(4,aR 4),(6,aU a)] [(4,[.v (aN),au b,au c,.v (aN),.v (aN),.v (aN),.v (aN)]),(2,[.J .free 4 C,au d,au e])]
def zU(q:Bool)(a b:Int):aC:=bb 84 [(4,aR 4),(5,.aG (.one (.bg q)))] [(4,[.v (aN),au a,au b,.v (aN),.v (aN),.v (aN),.v (aN)])]
def IJ(A:ag)(a b c d e f:Int)(q:Bool)(l:List O):List O:=.i A a (bh b c d e f)::.r 122 [.agg (bh b c d e f)] [aj q]::l
theorem arj(h:ad (IJ A f a b c d e q [.n q true])):
 aV (ap Tryz.f14 0) (rP A f i j C k g) .ret (zU false 0 0):=
 h.aS [4,5] [4]
theorem ark(h:ad (IJ A a b c d e f q [.n q false,.x A a (bh g j k l m),.b (g != 0) true])):
 aV (ap Tryz.f14 0) (rP A a n o C p i) .ret (zU false 0 0):=
 h.aS [4,5] [4]
theorem arl(h:ad (IJ A a b c d e f q [.n q false,.x A a (bh g k l m n),.b (g != 0) false,.x A a (bh o p i a0 b6),.b (i != 0) true])):
 aV (ap Tryz.f14 0) (rP A a c5 d0 C bE j) .ret (zU false 0 0):=
 h.aS [4,5] [4]
theorem arm(h:ad (IJ A a c d e f g q [.n q false,.x A a (bh i n o p a0),.b (i != 0) false,.x A a (bh b6 c5 j d0 bE),.b (j != 0) false,.u a])):
 aV (ap Tryz.f14 0) (rP A a k l C m b) .normal (rP A (a+1) k l C m b):=
 h.aS [6,1,4,2] [4,2]
def OL(A:ag)(a b:Int)(C:ag)(c d:Int):aC:=bb 84 [(1,dB 5 A),(2,aR 2),(4,aR 4)] [(4,[.v (aN),au a,au b,.v (aN),.v (aN),.v (aN),.v (aN)]),(2,[.J .free 4 C,au c,au d])]
theorem arn(h:ad [.f A b false]):
 aV (ap Tryz.f14 0) (rP A b c d C e a) (.exit 0) (OL A c d C e a):=
 h.aS [2,1,4] [4,2]
theorem aro(h:ad [.r 121 [.agg (br A a b)] [aj q],.n q false,.b (decide ((C.length:Int)>20)) false,.l [] [6,1,4,2] [4,2] (ap Tryz.f14 0) (rP C 0 0 0 A a b) .ret (zU r c d)]):
 aq 14 [.agg (br A a b),aO 5 C] [.agg (cl [] c d [] [] [] []),aj r]:=
 h.of
def zV(A:ag)(a:Int)(E:ag)(d e:Int)(F G H:ag)(f g:Int)(C:ag)(b c:Int):aC:=bb 84 [(1,dB 5 A),(2,aR 2),(4,aR 4),(7,aR 7),(8,aU a)] [(7,[aB 510000 4 E,au d,au e,aB 67 8 F,aB 81 6 G,aB 51 5 H,.v (aN)]),(4,[.v (aN),au f,au g,.v (aN),.v (aN),.v (aN),.v (aN)]),(2,[.J .free 4 C,au b,au c])]
def CC(A:ag)(a e:Int)(E:ag)(f g:Int)(F G H:ag)(i b:Int)(C:ag)(c d:Int):aC:=bb 84 [(1,dB 5 A),(2,aR 2),(4,aR 4),(7,aR 7),(8,aU a),(9,aU e)] [(7,[aB 510000 4 E,au f,au g,aB 67 8 F,aB 81 6 G,aB 51 5 H,.v (aN)]),(4,[.v (aN),au i,au b,.v (aN),.v (aN),.v (aN),.v (aN)]),(2,[.J .free 4 C,au c,au d])]
theorem arp(h:ad [.b (decide (a<b)) true,.r 126 [ae c] [.agg (bY d C e f g i)],.a .wr,.g A [(bY d C e f g i)] 64,.u a]):
 aV (ap Tryz.f14 2) (CC E j a F k l G A H m n ah b c) .normal (CC E j (a+1) F k l G (A++[(bY d C e f g i)]) H m n ah b c):=
 h.aS [9,2,7,8,1,4] [7,4,2]
def XP(A:ag)(a:Int)(E:ag)(d e:Int)(F G H:ag)(f g:Int)(C:ag)(b c:Int):aC:=bb 84 [(1,dB 5 A),(2,aR 2),(4,aR 4),(7,aR 7),(8,aU a)] [(7,[aB 510000 4 E,au d,au e,aB 67 8 F,aB 81 6 G,aB 51 5 H,.v (aN)]),(4,[.v (aN),au f,au g,.v (aN),.v (aN),.v (aN),.v (aN)]),(2,[.J .free 4 C,au b,au c])]
theorem arq(h:ad [.b (decide (c<a)) false]):
 aV (ap Tryz.f14 2) (CC A b c C d e E F G f g H a i) (.exit 4) (XP A b C d e E F G f g H a i):=
 h.aS [8,2,7,1,4] [7,4,2]
theorem ars(h:ad [.b (decide (a<b)) true,.r 125 [.agg (br E b c),aO 5 A,ae a] [aO 5 ba],.r 124 [aO 5 ba] [.agg (aW F G H ah K L M N)],.a .wr,.g C [(aW F G H ah K L M N)] 192,.l [] [9,2,7,8,1,4] [7,4,2] (ap Tryz.f14 2) (CC A a 0 Q d e (C++[(aW F G H ah K L M N)]) R S f g E b c) (.exit 4) (XP A a V i j X Y Z k l dC m n),.u a]):
 aV (ap Tryz.f14 1) (zV A a Q d e C R S f g E b c) .normal (zV A (a+1) V i j X Y Z k l dC m n):=
 h.aS [8,2,7,1,4] [7,4,2]
def OM(A:ag)(a b:Int)(C E F:ag)(c d:Int):aC:=bb 84 [(4,aR 4),(7,aR 7)] [(7,[aB 510000 4 A,au a,au b,aB 67 8 C,aB 81 6 E,aB 51 5 F,.v (aN)]),(4,[.v (aN),au c,au d,.v (aN),.v (aN),.v (aN),.v (aN)])]
theorem art(h:ad [.b (decide (a<f)) false]):
 aV (ap Tryz.f14 1) (zV H a A b c C E F d e G f g) (.exit 2) (OM A b c C E F d e):=
 h.aS [7,4] [7,4]
theorem aqB(h:ad [.r 121 [.agg (br C a b)] [aj q],.n q false,.b (decide ((A.length:Int)>20)) false,.l [] [6,1,4,2] [4,2] (ap Tryz.f14 0) (rP A 0 0 0 C a b) (.exit 0) (OL A j k E c d),.r 123 [.agg (br E c d)] [.agg (br F e f)],.p ((0:Int)<=4),.p ((4:Int)<=4),.p (((↑32:Int)*4:Int)<=281474976710656),.p ((4:Int)<=9223372036854775807),.l [(8000003,67,8),(8000004,81,6)] [8,2,7,1,4] [7,4,2] (ap Tryz.f14 1) (zV A 0 F e f [] [] (List.replicate 4 [B false,I 0,I 0,B false,B false]) j k E c d) (.exit 2) (OM G g i H ah K l m)]):
 aq 14 [.agg (br C a b),aO 5 A] [.agg (cl G g i H ah K []),aj true]:=
 h.of
def CD(A:ag)(a b:Int)(C:ag)(c d:Int)(E:ag):aC:=bb 49 [(1,dB 5 C),(2,aU c),(3,aR 3),(7,aI.aG (bl.one (aB 10 5 E))),(8,aU d)] [(3,[.J .free 4 A,au a,au b])]
def uq(A:ag)(a b:Int)(C:ag)(c d e:Int)(E:ag):aC:=bb 49 [(1,dB 5 C),(2,aU c),(3,aR 3),(7,aI.aG (bl.one (aB 10 5 E))),(8,aU d),(9,aU e)] [(3,[.J .free 4 A,au a,au b])]
theorem aqC(h:ad [.i A a (bh f0 k o p a0),.b (k==j) true,.x A a (bh b6 c5 d0 l bE),.r 245 [ae l,ae g] [ae m],.b (m==i) true,.x A a (bh b c d e f),.g C [(bh b c d e f)] 40,.h [(bh b c d e f)],.u a]):
 aV (ap Tryz.f125 1) (uq E g n A i j a C) .normal (uq E g n A i j (a+1) (C++[(bh b c d e f)])):=
 h.aS [9,1,8,3,2,7] [3]
theorem aqD(h:ad [.i A a (bh a0 e j k l),.b (e==d) true,.x A a (bh m n o f p),.r 245 [ae f,ae b] [ae g],.b (g==c) false,.u a]):
 aV (ap Tryz.f125 1) (uq C b i A c d a E) .normal (uq C b i A c d (a+1) E):=
 h.aS [9,1,8,3,2,7] [3]
theorem aqE(h:ad [.i A a (bh k d g i j),.b (d==b) false,.u a]):
 aV (ap Tryz.f125 1) (uq C c e A f b a E) .normal (uq C c e A f b (a+1) E):=
 h.aS [9,1,8,3,2,7] [3]
def XQ(A:ag)(a b:Int)(C:ag)(c d:Int)(E:ag):aC:=bb 49 [(1,dB 5 C),(2,aU c),(3,aR 3),(7,aI.aG (bl.one (aB 10 5 E))),(8,aU d)] [(3,[.J .free 4 A,au a,au b])]
theorem aqF(h:ad [.f A e false]):
 aV (ap Tryz.f125 1) (uq C a b A c d e E) (.exit 2) (XQ C a b A c d E):=
 h.aS [8,1,3,2,7] [3]
theorem aqG(h:ad [.b (decide (a<=3)) true,.l [] [9,1,8,3,2,7] [3] (ap Tryz.f125 1) (uq A b c C d a 0 E) (.exit 2) (XQ A b c C d a F),.u a]):
 aV (ap Tryz.f125 0) (CD A b c C d a E) .normal (CD A b c C d (a+1) F):=
 h.aS [8,1,3,2,7] [3]
def XR(A:ag):aC:=bb 49 [(7,aI.aG (bl.one (aB 10 5 A)))] []
theorem aqH(h:ad [.b (decide (a<=3)) false]):
 aV (ap Tryz.f125 0) (CD C b c E d a A) (.exit 0) (XR A):=
 h.aS [7] []
theorem aqI(h:ad [.l [] [8,1,3,2,7] [3] (ap Tryz.f125 0) (CD A a b C c 0 []) (.exit 0) (XR E)]):
 aq 125 [.agg (br A a b),aO 5 C,ae c] [aO 5 E]:=
 h.of
theorem aqJ(h:ad [.r 130 [ae b,ae 1,ae 4] [ae a]]):
 aq 126 [ae b] [.agg (bY a [] a 0 0 0)]:=
 h.of
theorem aqK(h:ad [.g ([]:ag) A 40,.h A,.p ((0:Int)<=4),.p ((4:Int)<=4),.p (((↑8:Int)*4:Int)<=281474976710656),.p ((4:Int)<=9223372036854775807),.p ((0:Int)<=4),.p ((4:Int)<=4),.p (((↑1:Int)*4:Int)<=281474976710656),.p ((4:Int)<=9223372036854775807),.p ((0:Int)<=4),.p ((4:Int)<=4),.p (((↑1:Int)*4:Int)<=281474976710656),.p ((4:Int)<=9223372036854775807)]):
 aq 124 [aO 5 A] [.agg (aW [] [] ([]++A) [] (List.replicate 4 [I 0]) (List.replicate 4 [B false]) (List.replicate 4 [B false]) [])]:=
 h.of
