import Derived.Test.YtdchjefneblpgaaGreatGE
set_option linter.unusedVariables false
set_option linter.unusedSimpArgs false
namespace Go.Proofs.YtdchjefneblpgaaGreat
open Go.Sx Go.RowKit
variable {a b c d e f g i j k l m n o p a0 b4 cW d0 bz f0 : Int} {A C E F G H al K L M N Q R S bl V X Y Z dL : af} {q r : Bool}
theorem ad8(h:ad [.r 121 [.agg (bD A a b)] [ao q],.n q true]):
 av 14 [.agg (bD A a b),a7 5 C] [.agg (cl [] 0 0 [] [] [] []),ao false]:=
 h.of
theorem ad9(h:ad [.r 121 [.agg (bD A a b)] [ao q],.n q false,.b (decide ((C.length:Int)>20)) true]):
 av 14 [.agg (bD A a b),a7 5 C] [.agg (cl [] 0 0 [] [] [] []),ao false]:=
 h.of
def p8(A:af)(a b c:Int)(C:af)(d e:Int):aH:=bj 84 [(1,dJ 5 A),(2,aR 2),(4,aR 4),(6,aZ a)] [(4,[.v (aO),aw b,aw c,.v (aO),.v (aO),.v (aO),.v (aO)]),(2,[.J .free 4 C,aw d,aw e])]
def xm(q:Bool)(a b:Int):aH:=bj 84 [(4,aR 4),(5,.aJ (.one (.bc q)))] [(4,[.v (aO),aw a,aw b,.v (aO),.v (aO),.v (aO),.v (aO)])]
def Fb(A:af)(a b c d e f:Int)(q:Bool)(l:List O):List O:=.i A a (bi b c d e f)::.r 122 [.agg (bi b c d e f)] [ao q]::l
theorem aea(h:ad (Fb A f a b c d e q [.n q true])):
 a1 (ar Tryz.f14 0) (p8 A f i j C k g) .ret (xm false 0 0):=
 h.aW [4,5] [4]
theorem aeb(h:ad (Fb A a b c d e f q [.n q false,.x A a (bi g j k l m),.b (g != 0) true])):
 a1 (ar Tryz.f14 0) (p8 A a n o C p i) .ret (xm false 0 0):=
 h.aW [4,5] [4]
theorem aec(h:ad (Fb A a b c d e f q [.n q false,.x A a (bi g k l m n),.b (g != 0) false,.x A a (bi o p i a0 b4),.b (i != 0) true])):
 a1 (ar Tryz.f14 0) (p8 A a cW d0 C bz j) .ret (xm false 0 0):=
 h.aW [4,5] [4]
theorem aed(h:ad (Fb A a c d e f g q [.n q false,.x A a (bi i n o p a0),.b (i != 0) false,.x A a (bi b4 cW j d0 bz),.b (j != 0) false,.u a])):
 a1 (ar Tryz.f14 0) (p8 A a k l C m b) .normal (p8 A (a+1) k l C m b):=
 h.aW [6,1,4,2] [4,2]
def KX(A:af)(a b:Int)(C:af)(c d:Int):aH:=bj 84 [(1,dJ 5 A),(2,aR 2),(4,aR 4)] [(4,[.v (aO),aw a,aw b,.v (aO),.v (aO),.v (aO),.v (aO)]),(2,[.J .free 4 C,aw c,aw d])]
theorem aee(h:ad [.f A b false]):
 a1 (ar Tryz.f14 0) (p8 A b c d C e a) (.exit 0) (KX A c d C e a):=
 h.aW [2,1,4] [4,2]
theorem aef(h:ad [.r 121 [.agg (bD A a b)] [ao q],.n q false,.b (decide ((C.length:Int)>20)) false,.l [] [6,1,4,2] [4,2] (ar Tryz.f14 0) (p8 C 0 0 0 A a b) .ret (xm r c d)]):
 av 14 [.agg (bD A a b),a7 5 C] [.agg (cl [] c d [] [] [] []),ao r]:=
 h.of
def xn(A:af)(a:Int)(E:af)(d e:Int)(F G H:af)(f g:Int)(C:af)(b c:Int):aH:=bj 84 [(1,dJ 5 A),(2,aR 2),(4,aR 4),(7,aR 7),(8,aZ a)] [(7,[aG 510000 4 E,aw d,aw e,aG 67 8 F,aG 81 6 G,aG 51 5 H,.v (aO)]),(4,[.v (aO),aw f,aw g,.v (aO),.v (aO),.v (aO),.v (aO)]),(2,[.J .free 4 C,aw b,aw c])]
def zZ(A:af)(a e:Int)(E:af)(f g:Int)(F G H:af)(i b:Int)(C:af)(c d:Int):aH:=bj 84 [(1,dJ 5 A),(2,aR 2),(4,aR 4),(7,aR 7),(8,aZ a),(9,aZ e)] [(7,[aG 510000 4 E,aw f,aw g,aG 67 8 F,aG 81 6 G,aG 51 5 H,.v (aO)]),(4,[.v (aO),aw i,aw b,.v (aO),.v (aO),.v (aO),.v (aO)]),(2,[.J .free 4 C,aw c,aw d])]
theorem aeg(h:ad [.b (decide (a<b)) true,.r 126 [ae c] [.agg (bO d C e f g i)],.a .wr,.g A [(bO d C e f g i)] 64,.u a]):
 a1 (ar Tryz.f14 2) (zZ E j a F k l G A H m n al b c) .normal (zZ E j (a+1) F k l G (A++[(bO d C e f g i)]) H m n al b c):=
 h.aW [9,2,7,8,1,4] [7,4,2]
def Td(A:af)(a:Int)(E:af)(d e:Int)(F G H:af)(f g:Int)(C:af)(b c:Int):aH:=bj 84 [(1,dJ 5 A),(2,aR 2),(4,aR 4),(7,aR 7),(8,aZ a)] [(7,[aG 510000 4 E,aw d,aw e,aG 67 8 F,aG 81 6 G,aG 51 5 H,.v (aO)]),(4,[.v (aO),aw f,aw g,.v (aO),.v (aO),.v (aO),.v (aO)]),(2,[.J .free 4 C,aw b,aw c])]
theorem aeh(h:ad [.b (decide (c<a)) false]):
 a1 (ar Tryz.f14 2) (zZ A b c C d e E F G f g H a i) (.exit 4) (Td A b C d e E F G f g H a i):=
 h.aW [8,2,7,1,4] [7,4,2]
theorem aei(h:ad [.b (decide (a<b)) true,.r 125 [.agg (bD E b c),a7 5 A,ae a] [a7 5 bl],.r 124 [a7 5 bl] [.agg (ba F G H al K L M N)],.a .wr,.g C [(ba F G H al K L M N)] 192,.l [] [9,2,7,8,1,4] [7,4,2] (ar Tryz.f14 2) (zZ A a 0 Q d e (C++[(ba F G H al K L M N)]) R S f g E b c) (.exit 4) (Td A a V i j X Y Z k l dL m n),.u a]):
 a1 (ar Tryz.f14 1) (xn A a Q d e C R S f g E b c) .normal (xn A (a+1) V i j X Y Z k l dL m n):=
 h.aW [8,2,7,1,4] [7,4,2]
def KY(A:af)(a b:Int)(C E F:af)(c d:Int):aH:=bj 84 [(4,aR 4),(7,aR 7)] [(7,[aG 510000 4 A,aw a,aw b,aG 67 8 C,aG 81 6 E,aG 51 5 F,.v (aO)]),(4,[.v (aO),aw c,aw d,.v (aO),.v (aO),.v (aO),.v (aO)])]
theorem aej(h:ad [.b (decide (a<f)) false]):
 a1 (ar Tryz.f14 1) (xn H a A b c C E F d e G f g) (.exit 2) (KY A b c C E F d e):=
 h.aW [7,4] [7,4]
theorem aek(h:ad [.r 121 [.agg (bD C a b)] [ao q],.n q false,.b (decide ((A.length:Int)>20)) false,.l [] [6,1,4,2] [4,2] (ar Tryz.f14 0) (p8 A 0 0 0 C a b) (.exit 0) (KX A j k E c d),.r 123 [.agg (bD E c d)] [.agg (bD F e f)],.p ((0:Int)<=4),.p ((4:Int)<=4),.p (((↑32:Int)*4:Int)<=281474976710656),.p ((4:Int)<=9223372036854775807),.l [(8000003,67,8),(8000004,81,6)] [8,2,7,1,4] [7,4,2] (ar Tryz.f14 1) (xn A 0 F e f [] [] (List.replicate 4 [B false,I 0,I 0,B false,B false]) j k E c d) (.exit 2) (KY G g i H al K l m)]):
 av 14 [.agg (bD C a b),a7 5 A] [.agg (cl G g i H al K []),ao true]:=
 h.of
def z1(A:af)(a b:Int)(C:af)(c d:Int)(E:af):aH:=bj 49 [(1,dJ 5 C),(2,aZ c),(3,aR 3),(7,aI.aJ (bq.one (aG 10 5 E))),(8,aZ d)] [(3,[.J .free 4 A,aw a,aw b])]
def so(A:af)(a b:Int)(C:af)(c d e:Int)(E:af):aH:=bj 49 [(1,dJ 5 C),(2,aZ c),(3,aR 3),(7,aI.aJ (bq.one (aG 10 5 E))),(8,aZ d),(9,aZ e)] [(3,[.J .free 4 A,aw a,aw b])]
theorem ael(h:ad [.i A a (bi f0 k o p a0),.b (k==j) true,.x A a (bi b4 cW d0 l bz),.r 245 [ae l,ae g] [ae m],.b (m==i) true,.x A a (bi b c d e f),.g C [(bi b c d e f)] 40,.h [(bi b c d e f)],.u a]):
 a1 (ar Tryz.f125 1) (so E g n A i j a C) .normal (so E g n A i j (a+1) (C++[(bi b c d e f)])):=
 h.aW [9,1,8,3,2,7] [3]
theorem aem(h:ad [.i A a (bi a0 e j k l),.b (e==d) true,.x A a (bi m n o f p),.r 245 [ae f,ae b] [ae g],.b (g==c) false,.u a]):
 a1 (ar Tryz.f125 1) (so C b i A c d a E) .normal (so C b i A c d (a+1) E):=
 h.aW [9,1,8,3,2,7] [3]
theorem aen(h:ad [.i A a (bi k d g i j),.b (d==b) false,.u a]):
 a1 (ar Tryz.f125 1) (so C c e A f b a E) .normal (so C c e A f b (a+1) E):=
 h.aW [9,1,8,3,2,7] [3]
def Te(A:af)(a b:Int)(C:af)(c d:Int)(E:af):aH:=bj 49 [(1,dJ 5 C),(2,aZ c),(3,aR 3),(7,aI.aJ (bq.one (aG 10 5 E))),(8,aZ d)] [(3,[.J .free 4 A,aw a,aw b])]
theorem aeo(h:ad [.f A e false]):
 a1 (ar Tryz.f125 1) (so C a b A c d e E) (.exit 2) (Te C a b A c d E):=
 h.aW [8,1,3,2,7] [3]
theorem aep(h:ad [.b (decide (a<=3)) true,.l [] [9,1,8,3,2,7] [3] (ar Tryz.f125 1) (so A b c C d a 0 E) (.exit 2) (Te A b c C d a F),.u a]):
 a1 (ar Tryz.f125 0) (z1 A b c C d a E) .normal (z1 A b c C d (a+1) F):=
 h.aW [8,1,3,2,7] [3]
def Tf(A:af):aH:=bj 49 [(7,aI.aJ (bq.one (aG 10 5 A)))] []
theorem adQ(h:ad [.b (decide (a<=3)) false]):
 a1 (ar Tryz.f125 0) (z1 C b c E d a A) (.exit 0) (Tf A):=
 h.aW [7] []
theorem adR(h:ad [.l [] [8,1,3,2,7] [3] (ar Tryz.f125 0) (z1 A a b C c 0 []) (.exit 0) (Tf E)]):
 av 125 [.agg (bD A a b),a7 5 C,ae c] [a7 5 E]:=
 h.of
theorem adS(h:ad [.r 130 [ae b,ae 1,ae 4] [ae a]]):
 av 126 [ae b] [.agg (bO a [] a 0 0 0)]:=
 h.of
theorem adT(h:ad [.g ([]:af) A 40,.h A,.p ((0:Int)<=4),.p ((4:Int)<=4),.p (((↑8:Int)*4:Int)<=281474976710656),.p ((4:Int)<=9223372036854775807),.p ((0:Int)<=4),.p ((4:Int)<=4),.p (((↑1:Int)*4:Int)<=281474976710656),.p ((4:Int)<=9223372036854775807),.p ((0:Int)<=4),.p ((4:Int)<=4),.p (((↑1:Int)*4:Int)<=281474976710656),.p ((4:Int)<=9223372036854775807)]):
 av 124 [a7 5 A] [.agg (ba [] [] ([]++A) [] (List.replicate 4 [I 0]) (List.replicate 4 [B false]) (List.replicate 4 [B false]) [])]:=
 h.of
