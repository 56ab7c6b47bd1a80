import Derived.Test.YtdchjefneblpgaaGreatGE
namespace Go.Proofs.YtdchjefneblpgaaGreat
open Go.Sx Go.RowKit
variable {a b c d e f g i j k l m n o p a0 cg dx d0 bE f0 : Int} {A C E F G H ao K L M N Q R S bm V X Y Z ew : ae} {q r : Bool}
theorem afE(h:ad [.r 121 [.agg (bq A a b)] [ak q],.n q true]):
av 14 [.agg (bq A a b),aP 5 C] [.agg (cl [] 0 0 [] [] [] []),ak false]:=
h.of
theorem afF(h:ad [.r 121 [.agg (bq A a b)] [ak q],.n q false,.b (decide ((C.length:Int)>20)) true]):
av 14 [.agg (bq A a b),aP 5 C] [.agg (cl [] 0 0 [] [] [] []),ak false]:=
h.of
def pY(A:ae)(a b c:Int)(C:ae)(d e:Int):aI:=bg 84 [(1,dw 5 A),(2,aQ 2),(4,aQ 4),(6,aY a)] [(4,[.v (aO),ax b,ax c,.v (aO),.v (aO),.v (aO),.v (aO)]),(2,[.J .free 4 C,ax d,ax e])]
def xe(q:Bool)(a b:Int):aI:=bg 84 [(4,aQ 4),(5,.aK (.one (.ba q)))] [(4,[.v (aO),ax a,ax b,.v (aO),.v (aO),.v (aO),.v (aO)])]
def E3(A:ae)(a b c d e f:Int)(q:Bool)(l:List O):List O:=.i A a (bn b c d e f)::.r 122 [.agg (bn b c d e f)] [ak q]::l
theorem afG(h:ad (E3 A f a b c d e q [.n q true])):
a7 (aq Tryz.f14 0) (pY A f i j C k g) .ret (xe false 0 0):=
h.aX [4,5] [4]
theorem afH(h:ad (E3 A a b c d e f q [.n q false,.x A a (bn g j k l m),.b (g != 0) true])):
a7 (aq Tryz.f14 0) (pY A a n o C p i) .ret (xe false 0 0):=
h.aX [4,5] [4]
theorem afI(h:ad (E3 A a b c d e f q [.n q false,.x A a (bn g k l m n),.b (g != 0) false,.x A a (bn o p i a0 cg),.b (i != 0) true])):
a7 (aq Tryz.f14 0) (pY A a dx d0 C bE j) .ret (xe false 0 0):=
h.aX [4,5] [4]
theorem afJ(h:ad (E3 A a c d e f g q [.n q false,.x A a (bn i n o p a0),.b (i != 0) false,.x A a (bn cg dx j d0 bE),.b (j != 0) false,.u a])):
a7 (aq Tryz.f14 0) (pY A a k l C m b) .normal (pY A (a+1) k l C m b):=
h.aX [6,1,4,2] [4,2]
def JK(A:ae)(a b:Int)(C:ae)(c d:Int):aI:=bg 84 [(1,dw 5 A),(2,aQ 2),(4,aQ 4)] [(4,[.v (aO),ax a,ax b,.v (aO),.v (aO),.v (aO),.v (aO)]),(2,[.J .free 4 C,ax c,ax d])]
theorem afK(h:ad [.f A b false]):
a7 (aq Tryz.f14 0) (pY A b c d C e a) (.exit 0) (JK A c d C e a):=
h.aX [2,1,4] [4,2]
theorem afL(h:ad [.r 121 [.agg (bq A a b)] [ak q],.n q false,.b (decide ((C.length:Int)>20)) false,.l [] [6,1,4,2] [4,2] (aq Tryz.f14 0) (pY C 0 0 0 A a b) .ret (xe r c d)]):
av 14 [.agg (bq A a b),aP 5 C] [.agg (cl [] c d [] [] [] []),ak r]:=
h.of
def xf(A:ae)(a:Int)(E:ae)(d e:Int)(F G H:ae)(f g:Int)(C:ae)(b c:Int):aI:=bg 84 [(1,dw 5 A),(2,aQ 2),(4,aQ 4),(7,aQ 7),(8,aY a)] [(7,[aC 510000 4 E,ax d,ax e,aC 67 8 F,aC 81 6 G,aC 51 5 H,.v (aO)]),(4,[.v (aO),ax f,ax g,.v (aO),.v (aO),.v (aO),.v (aO)]),(2,[.J .free 4 C,ax b,ax c])]
def zR(A:ae)(a e:Int)(E:ae)(f g:Int)(F G H:ae)(i b:Int)(C:ae)(c d:Int):aI:=bg 84 [(1,dw 5 A),(2,aQ 2),(4,aQ 4),(7,aQ 7),(8,aY a),(9,aY e)] [(7,[aC 510000 4 E,ax f,ax g,aC 67 8 F,aC 81 6 G,aC 51 5 H,.v (aO)]),(4,[.v (aO),ax i,ax b,.v (aO),.v (aO),.v (aO),.v (aO)]),(2,[.J .free 4 C,ax c,ax d])]
theorem afM(h:ad [.b (decide (a<b)) true,.r 126 [af c] [.agg (ch d C e f g i)],.a .wr,.g A [(ch d C e f g i)] 64,.u a]):
a7 (aq Tryz.f14 2) (zR E j a F k l G A H m n ao b c) .normal (zR E j (a+1) F k l G (A++[(ch d C e f g i)]) H m n ao b c):=
h.aX [9,2,7,8,1,4] [7,4,2]
def RR(A:ae)(a:Int)(E:ae)(d e:Int)(F G H:ae)(f g:Int)(C:ae)(b c:Int):aI:=bg 84 [(1,dw 5 A),(2,aQ 2),(4,aQ 4),(7,aQ 7),(8,aY a)] [(7,[aC 510000 4 E,ax d,ax e,aC 67 8 F,aC 81 6 G,aC 51 5 H,.v (aO)]),(4,[.v (aO),ax f,ax g,.v (aO),.v (aO),.v (aO),.v (aO)]),(2,[.J .free 4 C,ax b,ax c])]
theorem afN(h:ad [.b (decide (c<a)) false]):
a7 (aq Tryz.f14 2) (zR A b c C d e E F G f g H a i) (.exit 4) (RR A b C d e E F G f g H a i):=
h.aX [8,2,7,1,4] [7,4,2]
theorem afO(h:ad [.b (decide (a<b)) true,.r 125 [.agg (bq E b c),aP 5 A,af a] [aP 5 bm],.r 124 [aP 5 bm] [.agg (bb F G H ao K L M N)],.a .wr,.g C [(bb F G H ao K L M N)] 192,.l [] [9,2,7,8,1,4] [7,4,2] (aq Tryz.f14 2) (zR A a 0 Q d e (C++[(bb F G H ao K L M N)]) R S f g E b c) (.exit 4) (RR A a V i j X Y Z k l ew m n),.u a]):
a7 (aq Tryz.f14 1) (xf A a Q d e C R S f g E b c) .normal (xf A (a+1) V i j X Y Z k l ew m n):=
h.aX [8,2,7,1,4] [7,4,2]
def JL(A:ae)(a b:Int)(C E F:ae)(c d:Int):aI:=bg 84 [(4,aQ 4),(7,aQ 7)] [(7,[aC 510000 4 A,ax a,ax b,aC 67 8 C,aC 81 6 E,aC 51 5 F,.v (aO)]),(4,[.v (aO),ax c,ax d,.v (aO),.v (aO),.v (aO),.v (aO)])]
theorem afP(h:ad [.b (decide (a<f)) false]):
a7 (aq Tryz.f14 1) (xf H a A b c C E F d e G f g) (.exit 2) (JL A b c C E F d e):=
h.aX [7,4] [7,4]
theorem afQ(h:ad [.r 121 [.agg (bq C a b)] [ak q],.n q false,.b (decide ((A.length:Int)>20)) false,.l [] [6,1,4,2] [4,2] (aq Tryz.f14 0) (pY A 0 0 0 C a b) (.exit 0) (JK A j k E c d),.r 123 [.agg (bq E c d)] [.agg (bq F e f)],.p ((0:Int)<=4),.p ((4:Int)<=4),.p (((↑32:Int)*4:Int)<=281474976710656),.p ((4:Int)<=9223372036854775807),.l [(8000003,67,8),(8000004,81,6)] [8,2,7,1,4] [7,4,2] (aq Tryz.f14 1) (xf A 0 F e f [] [] (List.replicate 4 [B false,I 0,I 0,B false,B false]) j k E c d) (.exit 2) (JL G g i H ao K l m)]):
av 14 [.agg (bq C a b),aP 5 A] [.agg (cl G g i H ao K []),ak true]:=
h.of
def zS(A:ae)(a b:Int)(C:ae)(c d:Int)(E:ae):aI:=bg 49 [(1,dw 5 C),(2,aY c),(3,aQ 3),(7,aJ.aK (bu.one (aC 10 5 E))),(8,aY d)] [(3,[.J .free 4 A,ax a,ax b])]
def sf(A:ae)(a b:Int)(C:ae)(c d e:Int)(E:ae):aI:=bg 49 [(1,dw 5 C),(2,aY c),(3,aQ 3),(7,aJ.aK (bu.one (aC 10 5 E))),(8,aY d),(9,aY e)] [(3,[.J .free 4 A,ax a,ax b])]
theorem afR(h:ad [.i A a (bn f0 k o p a0),.b (k==j) true,.x A a (bn cg dx d0 l bE),.r 245 [af l,af g] [af m],.b (m==i) true,.x A a (bn b c d e f),.g C [(bn b c d e f)] 40,.h [(bn b c d e f)],.u a]):
a7 (aq Tryz.f125 1) (sf E g n A i j a C) .normal (sf E g n A i j (a+1) (C++[(bn b c d e f)])):=
h.aX [9,1,8,3,2,7] [3]
theorem afS(h:ad [.i A a (bn a0 e j k l),.b (e==d) true,.x A a (bn m n o f p),.r 245 [af f,af b] [af g],.b (g==c) false,.u a]):
a7 (aq Tryz.f125 1) (sf C b i A c d a E) .normal (sf C b i A c d (a+1) E):=
h.aX [9,1,8,3,2,7] [3]
theorem afT(h:ad [.i A a (bn k d g i j),.b (d==b) false,.u a]):
a7 (aq Tryz.f125 1) (sf C c e A f b a E) .normal (sf C c e A f b (a+1) E):=
h.aX [9,1,8,3,2,7] [3]
def Tk(A:ae)(a b:Int)(C:ae)(c d:Int)(E:ae):aI:=bg 49 [(1,dw 5 C),(2,aY c),(3,aQ 3),(7,aJ.aK (bu.one (aC 10 5 E))),(8,aY d)] [(3,[.J .free 4 A,ax a,ax b])]
theorem afU(h:ad [.f A e false]):
a7 (aq Tryz.f125 1) (sf C a b A c d e E) (.exit 2) (Tk C a b A c d E):=
h.aX [8,1,3,2,7] [3]
theorem afV(h:ad [.b (decide (a<=3)) true,.l [] [9,1,8,3,2,7] [3] (aq Tryz.f125 1) (sf A b c C d a 0 E) (.exit 2) (Tk A b c C d a F),.u a]):
a7 (aq Tryz.f125 0) (zS A b c C d a E) .normal (zS A b c C d (a+1) F):=
h.aX [8,1,3,2,7] [3]
def Tl(A:ae):aI:=bg 49 [(7,aJ.aK (bu.one (aC 10 5 A)))] []
theorem afW(h:ad [.b (decide (a<=3)) false]):
a7 (aq Tryz.f125 0) (zS C b c E d a A) (.exit 0) (Tl A):=
h.aX [7] []
theorem afX(h:ad [.l [] [8,1,3,2,7] [3] (aq Tryz.f125 0) (zS A a b C c 0 []) (.exit 0) (Tl E)]):
av 125 [.agg (bq A a b),aP 5 C,af c] [aP 5 E]:=
h.of
theorem afY(h:ad [.r 130 [af b,af 1,af 4] [af a]]):
av 126 [af b] [.agg (ch a [] a 0 0 0)]:=
h.of
theorem ae9(h:ad [.g ([]:ae) A 40,.h A,.p ((0:Int)<=4),.p ((4:Int)<=4),.p (((↑8:Int)*4:Int)<=281474976710656),.p ((4:Int)<=9223372036854775807),.p ((0:Int)<=4),.p ((4:Int)<=4),.p (((↑1:Int)*4:Int)<=281474976710656),.p ((4:Int)<=9223372036854775807),.p ((0:Int)<=4),.p ((4:Int)<=4),.p (((↑1:Int)*4:Int)<=281474976710656),.p ((4:Int)<=9223372036854775807)]):
av 124 [aP 5 A] [.agg (bb [] [] ([]++A) [] (List.replicate 4 [I 0]) (List.replicate 4 [B false]) (List.replicate 4 [B false]) [])]:=
h.of
