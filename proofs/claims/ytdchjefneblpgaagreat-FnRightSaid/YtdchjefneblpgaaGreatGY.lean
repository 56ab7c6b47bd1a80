import Derived.Test.YtdchjefneblpgaaGreatGE
set_option linter.unusedVariables false
set_option linter.unusedSimpArgs false
namespace Go.Proofs.YtdchjefneblpgaaGreat
open Go.Sx Go.RowKit
variable {a b c d e f g i j k l m n o p a0 ch de d0 cd f0 : Int} {A C E F G H au K L M N Q R S bn V X Y Z dK eH e9 fa fs ft : ah} {q r s : Bool}
theorem aqT(h:af [.r 121 [.agg (bg A a b)] [ak q],.n q true]):
 av 14 [.agg (bg A a b),aE 5 C] [.agg (cl [] 0 0 [] [] [] []),ak false]:=
 h.of
theorem aqU(h:af [.r 121 [.agg (bg A a b)] [ak q],.n q false,.b (decide ((C.length:Int)>20)) true]):
 av 14 [.agg (bg A a b),aE 5 C] [.agg (cl [] 0 0 [] [] [] []),ak false]:=
 h.of
def r6(A:ah)(a b c:Int)(C:ah)(d e:Int):aD:=ba 84 [(1,c6 5 A),(2,a1 2),(4,a1 4),(6,aY a)] [(4,[.v (aS),az b,az c,.v (aS),.v (aS),.v (aS),.v (aS)]),(2,[.J .free 4 C,az d,az e])]
def Aw(q:Bool)(a b:Int):aD:=ba 84 [(4,a1 4),(5,.aR (.one (.bR q)))] [(4,[.v (aS),az a,az b,.v (aS),.v (aS),.v (aS),.v (aS)])]
def Jo(A:ah)(a b c d e f:Int)(q:Bool)(l:List O):List O:=.i A a (bz b c d e f)::.r 122 [.agg (bz b c d e f)] [ak q]::l
theorem aqV(h:af (Jo A f a b c d e q [.n q true])):
 aT (ap Tryz.f14 0) (r6 A f i j C k g) .ret (Aw false 0 0):=
 h.aQ [4,5] [4]
theorem aqW(h:af (Jo A a b c d e f q [.n q false,.x A a (bz g j k l m),.b (g != 0) true])):
 aT (ap Tryz.f14 0) (r6 A a n o C p i) .ret (Aw false 0 0):=
 h.aQ [4,5] [4]
theorem aqX(h:af (Jo A a b c d e f q [.n q false,.x A a (bz g k l m n),.b (g != 0) false,.x A a (bz o p i a0 ch),.b (i != 0) true])):
 aT (ap Tryz.f14 0) (r6 A a de d0 C cd j) .ret (Aw false 0 0):=
 h.aQ [4,5] [4]
theorem aqY(h:af (Jo A a c d e f g q [.n q false,.x A a (bz i n o p a0),.b (i != 0) false,.x A a (bz ch de j d0 cd),.b (j != 0) false,.u a])):
 aT (ap Tryz.f14 0) (r6 A a k l C m b) .normal (r6 A (a+1) k l C m b):=
 h.aQ [6,1,4,2] [4,2]
def OK(A:ah)(a b:Int)(C:ah)(c d:Int):aD:=ba 84 [(1,c6 5 A),(2,a1 2),(4,a1 4)] [(4,[.v (aS),az a,az b,.v (aS),.v (aS),.v (aS),.v (aS)]),(2,[.J .free 4 C,az c,az d])]
theorem aqZ(h:af [.f A b false]):
 aT (ap Tryz.f14 0) (r6 A b c d C e a) (.exit 0) (OK A c d C e a):=
 h.aQ [2,1,4] [4,2]
theorem aq0(h:af [.r 121 [.agg (bg A a b)] [ak q],.n q false,.b (decide ((C.length:Int)>20)) false,.l [] [6,1,4,2] [4,2] (ap Tryz.f14 0) (r6 C 0 0 0 A a b) .ret (Aw r c d)]):
 av 14 [.agg (bg A a b),aE 5 C] [.agg (cl [] c d [] [] [] []),ak r]:=
 h.of
def Ax(A:ah)(a:Int)(E:ah)(d e:Int)(F G H:ah)(f g:Int)(C:ah)(b c:Int):aD:=ba 84 [(1,c6 5 A),(2,a1 2),(4,a1 4),(7,a1 7),(8,aY a)] [(7,[aK 510000 4 E,az d,az e,aK 67 8 F,aK 81 6 G,aK 51 5 H,.v (aS)]),(4,[.v (aS),az f,az g,.v (aS),.v (aS),.v (aS),.v (aS)]),(2,[.J .free 4 C,az b,az c])]
def D9(A:ah)(a e:Int)(E:ah)(f g:Int)(F G H:ah)(i b:Int)(C:ah)(c d:Int):aD:=ba 84 [(1,c6 5 A),(2,a1 2),(4,a1 4),(7,a1 7),(8,aY a),(9,aY e)] [(7,[aK 510000 4 E,az f,az g,aK 67 8 F,aK 81 6 G,aK 51 5 H,.v (aS)]),(4,[.v (aS),az i,az b,.v (aS),.v (aS),.v (aS),.v (aS)]),(2,[.J .free 4 C,az c,az d])]
theorem aq1(h:af [.b (decide (a<b)) true,.r 126 [ag c] [.agg (b' d C e f g i)],.a .wr,.g A [(b' d C e f g i)] 64,.u a]):
 aT (ap Tryz.f14 2) (D9 E j a F k l G A H m n au b c) .normal (D9 E j (a+1) F k l G (A++[(b' d C e f g i)]) H m n au b c):=
 h.aQ [9,2,7,8,1,4] [7,4,2]
def Yg(A:ah)(a:Int)(E:ah)(d e:Int)(F G H:ah)(f g:Int)(C:ah)(b c:Int):aD:=ba 84 [(1,c6 5 A),(2,a1 2),(4,a1 4),(7,a1 7),(8,aY a)] [(7,[aK 510000 4 E,az d,az e,aK 67 8 F,aK 81 6 G,aK 51 5 H,.v (aS)]),(4,[.v (aS),az f,az g,.v (aS),.v (aS),.v (aS),.v (aS)]),(2,[.J .free 4 C,az b,az c])]
theorem aq2(h:af [.b (decide (c<a)) false]):
 aT (ap Tryz.f14 2) (D9 A b c C d e E F G f g H a i) (.exit 4) (Yg A b C d e E F G f g H a i):=
 h.aQ [8,2,7,1,4] [7,4,2]
theorem aq3(h:af [.b (decide (a<b)) true,.r 125 [.agg (bg E b c),aE 5 A,ag a] [aE 5 bn],.r 124 [aE 5 bn] [.agg (bb F G H au K L M N)],.a .wr,.g C [(bb F G H au K L M N)] 192,.l [] [9,2,7,8,1,4] [7,4,2] (ap Tryz.f14 2) (D9 A a 0 Q d e (C++[(bb F G H au K L M N)]) R S f g E b c) (.exit 4) (Yg A a V i j X Y Z k l dK m n),.u a]):
 aT (ap Tryz.f14 1) (Ax A a Q d e C R S f g E b c) .normal (Ax A (a+1) V i j X Y Z k l dK m n):=
 h.aQ [8,2,7,1,4] [7,4,2]
def OL(A:ah)(a b:Int)(C E F:ah)(c d:Int):aD:=ba 84 [(4,a1 4),(7,a1 7)] [(7,[aK 510000 4 A,az a,az b,aK 67 8 C,aK 81 6 E,aK 51 5 F,.v (aS)]),(4,[.v (aS),az c,az d,.v (aS),.v (aS),.v (aS),.v (aS)])]
theorem aq4(h:af [.b (decide (a<f)) false]):
 aT (ap Tryz.f14 1) (Ax H a A b c C E F d e G f g) (.exit 2) (OL A b c C E F d e):=
 h.aQ [7,4] [7,4]
theorem aq5(h:af [.r 121 [.agg (bg C a b)] [ak q],.n q false,.b (decide ((A.length:Int)>20)) false,.l [] [6,1,4,2] [4,2] (ap Tryz.f14 0) (r6 A 0 0 0 C a b) (.exit 0) (OK A j k E c d),.r 123 [.agg (bg E c d)] [.agg (bg F e f)],.p ((0:Int)<=4),.p ((4:Int)<=4),.p (((↑32:Int)*4:Int)<=281474976710656),.p ((4:Int)<=9223372036854775807),.l [(8000003,67,8),(8000004,81,6)] [8,2,7,1,4] [7,4,2] (ap Tryz.f14 1) (Ax A 0 F e f [] [] (List.replicate 4 [B false,I 0,I 0,B false,B false]) j k E c d) (.exit 2) (OL G g i H au K l m)]):
 av 14 [.agg (bg C a b),aE 5 A] [.agg (cl G g i H au K []),ak true]:=
 h.of
theorem aq6(h:af [.r 179 [.agg (bg A a b)] [ak q],.n q true]):
 av 50 [.agg (bg A a b),aE 5 C] [.agg (cl [] 0 0 [] [] [] []),ak false]:=
 h.of
theorem aq7(h:af [.r 179 [.agg (bg A a b)] [ak q],.n q false,.b (decide ((C.length:Int)>20)) true]):
 av 50 [.agg (bg A a b),aE 5 C] [.agg (cl [] 0 0 [] [] [] []),ak false]:=
 h.of
def r7(A:ah)(a b c:Int)(C:ah)(d e:Int):aD:=ba 102 [(1,c6 5 A),(2,a1 2),(4,a1 4),(24,c6 5 A),(25,aY (A.length:Int)),(26,aY a)] [(4,[.v (aS),az b,az c,.v (aS),.v (aS),.v (aS),.v (aS)]),(2,[.J .free 4 C,az d,az e])]
def Ay(q:Bool)(a b:Int):aD:=ba 102 [(4,a1 4),(5,.aR (.one (.bR q)))] [(4,[.v (aS),az a,az b,.v (aS),.v (aS),.v (aS),.v (aS)])]
def Jp(A:ah)(a b c d e f:Int)(q:Bool)(l:List O):List O:=.i A a (bz b c d e f)::.r 180 [.agg (bz b c d e f)] [ak q]::l
theorem aq8(h:af (Jp A f a b c d e q [.n q true])):
 aT (ap Tryz.f50 0) (r7 A f i j C k g) .ret (Ay false 0 0):=
 h.aQ [4,5] [4]
theorem aq9(h:af (Jp A f a b c d e q [.n q false,.b (a != 0) true])):
 aT (ap Tryz.f50 0) (r7 A f i j C k g) .ret (Ay false 0 0):=
 h.aQ [4,5] [4]
theorem ara(h:af (Jp A f a c b d e q [.n q false,.b (a != 0) false,.b (b != 0) true])):
 aT (ap Tryz.f50 0) (r7 A f i j C k g) .ret (Ay false 0 0):=
 h.aQ [4,5] [4]
theorem arb(h:af (Jp A a b e c f g q [.n q false,.b (b != 0) false,.b (c != 0) false,.u a])):
 aT (ap Tryz.f50 0) (r7 A a i j C k d) .normal (r7 A (a+1) i j C k d):=
 h.aQ [26,25,24,4,2,1] [4,2]
def OM(A:ah)(a b:Int)(C:ah)(c d:Int):aD:=ba 102 [(1,c6 5 A),(2,a1 2),(4,a1 4)] [(4,[.v (aS),az a,az b,.v (aS),.v (aS),.v (aS),.v (aS)]),(2,[.J .free 4 C,az c,az d])]
theorem arc(h:af [.f A b false]):
 aT (ap Tryz.f50 0) (r7 A b c d C e a) (.exit 0) (OM A c d C e a):=
 h.aQ [2,1,4] [4,2]
theorem aqn(h:af [.r 179 [.agg (bg A a b)] [ak q],.n q false,.b (decide ((C.length:Int)>20)) false,.l [] [26,25,24,4,2,1] [4,2] (ap Tryz.f50 0) (r7 C 0 0 0 A a b) .ret (Ay r c d)]):
 av 50 [.agg (bg A a b),aE 5 C] [.agg (cl [] c d [] [] [] []),ak r]:=
 h.of
def zV(A:ah)(a:Int)(E:ah)(d e:Int)(F G H:ah)(f g:Int)(C:ah)(b c:Int):aD:=ba 102 [(1,c6 5 A),(2,a1 2),(4,a1 4),(8,a1 8),(9,aY a)] [(8,[aK 480000 4 E,az d,az e,aK 85 8 F,aK 99 6 G,aK 48 5 H,.v (aS)]),(4,[.v (aS),az f,az g,.v (aS),.v (aS),.v (aS),.v (aS)]),(2,[.J .free 4 C,az b,az c])]
def zW(A:ah)(a f:Int)(E F:ah)(g i:Int)(G H au:ah)(b c:Int)(C:ah)(d e:Int):aD:=ba 102 [(1,c6 5 A),(2,a1 2),(4,a1 4),(8,a1 8),(9,aY a),(10,aH.aR (bm.one (aK 78 5 E))),(11,aY f)] [(8,[aK 480000 4 F,az g,az i,aK 85 8 G,aK 99 6 H,aK 48 5 au,.v (aS)]),(4,[.v (aS),az b,az c,.v (aS),.v (aS),.v (aS),.v (aS)]),(2,[.J .free 4 C,az d,az e])]
def yi(C:ah)(a f:Int)(A:ah)(g:Int)(H au:ah)(i j:Int)(K E F:ah)(b c:Int)(G:ah)(d e:Int):aD:=ba 102 [(1,c6 5 C),(2,a1 2),(4,a1 4),(8,a1 8),(9,aY a),(10,aH.aR (bm.one (aK 78 5 H))),(11,aY f),(62,aH.aR (bm.one (aK 630000 5 A))),(63,aY (A.length:Int)),(64,aY g)] [(8,[aK 480000 4 au,az i,az j,aK 85 8 K,aK 99 6 E,aK 48 5 F,.v (aS)]),(4,[.v (aS),az b,az c,.v (aS),.v (aS),.v (aS),.v (aS)]),(2,[.J .free 4 G,az d,az e])]
theorem aqo(h:af [.i A b (bz c d e a f),.r 147 [ag a,ag i] [ag p],.b (p==g) true,.g C [(bz c d e a f)] 40,.h [(bz c d e a f)],.u b]):
 aT (ap Tryz.f50 3) (yi E g j A b C F k l G H au m n K i o) .normal (yi E g j A (b+1) (C++[(bz c d e a f)]) F k l G H au m n K i o):=
 h.aQ [64,63,62,2,9,10,11,1,8,4] [8,4,2]
theorem aqp(h:af [.i A a (bz m n o k p),.r 147 [ag k,ag c] [ag l],.b (l==b) false,.u a]):
 aT (ap Tryz.f50 3) (yi C b d A a E F e f G H au g i K c j) .normal (yi C b d A (a+1) E F e f G H au g i K c j):=
 h.aQ [64,63,62,2,9,10,11,1,8,4] [8,4,2]
def Yh(A:ah)(a f:Int)(E F:ah)(g i:Int)(G H au:ah)(b c:Int)(C:ah)(d e:Int):aD:=ba 102 [(1,c6 5 A),(2,a1 2),(4,a1 4),(8,a1 8),(9,aY a),(10,aH.aR (bm.one (aK 78 5 E))),(11,aY f)] [(8,[aK 480000 4 F,az g,az i,aK 85 8 G,aK 99 6 H,aK 48 5 au,.v (aS)]),(4,[.v (aS),az b,az c,.v (aS),.v (aS),.v (aS),.v (aS)]),(2,[.J .free 4 C,az d,az e])]
theorem aqq(h:af [.f C c false]):
 aT (ap Tryz.f50 3) (yi A a b C c E F d e G H au f g K i j) (.exit 6) (Yh A a b E F d e G H au f g K i j):=
 h.aQ [11,1,2,9,10,8,4] [8,4,2]
theorem aqr(h:af [.b (decide (a<=3)) true,.r 182 [aE 5 A,ag a] [aE 5 K],.l [] [64,63,62,2,9,10,11,1,8,4] [8,4,2] (ap Tryz.f50 3) (yi A b a K 0 C E c d F G H e f au g i) (.exit 6) (Yh A b a L M j k N Q R l m S n o),.u a]):
 aT (ap Tryz.f50 2) (zW A b a C E c d F G H e f au g i) .normal (zW A b (a+1) L M j k N Q R l m S n o):=
 h.aQ [11,1,2,9,10,8,4] [8,4,2]
def ON(A:ah)(a:Int)(E F:ah)(e f:Int)(G H au:ah)(g b:Int)(C:ah)(c d:Int):aD:=ba 102 [(1,c6 5 A),(2,a1 2),(4,a1 4),(8,a1 8),(9,aY a),(10,aH.aR (bm.one (aK 78 5 E)))] [(8,[aK 480000 4 F,az e,az f,aK 85 8 G,aK 99 6 H,aK 48 5 au,.v (aS)]),(4,[.v (aS),az g,az b,.v (aS),.v (aS),.v (aS),.v (aS)]),(2,[.J .free 4 C,az c,az d])]
theorem aqs(h:af [.b (decide (b<=3)) false]):
 aT (ap Tryz.f50 2) (zW E a b A C c d F G H e f au g i) (.exit 4) (ON E a A C c d F G H e f au g i):=
 h.aQ [8,10,2,9,1,4] [8,4,2]
def D'(A:ah)(a e:Int)(E:ah)(f g:Int)(F G H:ah)(i b:Int)(C:ah)(c d:Int):aD:=ba 102 [(1,c6 5 A),(2,a1 2),(4,a1 4),(8,a1 8),(9,aY a),(14,aY e)] [(8,[aK 480000 4 E,az f,az g,aK 85 8 F,aK 99 6 G,aK 48 5 H,.v (aS)]),(4,[.v (aS),az i,az b,.v (aS),.v (aS),.v (aS),.v (aS)]),(2,[.J .free 4 C,az c,az d])]
theorem aqt(h:af [.b (decide (a<b)) true,.r 184 [ag c] [.agg (b' d C e f g i)],.a .wr,.g A [(b' d C e f g i)] 64,.u a]):
 aT (ap Tryz.f50 4) (D' E j a F k l G A H m n au b c) .normal (D' E j (a+1) F k l G (A++[(b' d C e f g i)]) H m n au b c):=
 h.aQ [14,2,8,9,1,4] [8,4,2]
def Yi(A:ah)(a:Int)(E:ah)(d e:Int)(F G H:ah)(f g:Int)(C:ah)(b c:Int):aD:=ba 102 [(1,c6 5 A),(2,a1 2),(4,a1 4),(8,a1 8),(9,aY a)] [(8,[aK 480000 4 E,az d,az e,aK 85 8 F,aK 99 6 G,aK 48 5 H,.v (aS)]),(4,[.v (aS),az f,az g,.v (aS),.v (aS),.v (aS),.v (aS)]),(2,[.J .free 4 C,az b,az c])]
theorem aqu(h:af [.b (decide (c<a)) false]):
 aT (ap Tryz.f50 4) (D' A b c C d e E F G f g H a i) (.exit 8) (Yi A b C d e E F G f g H a i):=
 h.aQ [9,2,1,8,4] [8,4,2]
theorem aqv(h:af [.b (decide (a<b)) true,.l [(10,78,5)] [11,1,2,9,10,8,4] [8,4,2] (ap Tryz.f50 2) (zW A a 0 [] N c d Q R S e f bn b g) (.exit 4) (ON A a V X i j C Y Z k l dK m n),.r 183 [aE 5 V] [.agg (bb E F G H au K L M)],.a .wr,.g C [(bb E F G H au K L M)] 192,.l [] [14,2,8,9,1,4] [8,4,2] (ap Tryz.f50 4) (D' A a 0 X i j (C++[(bb E F G H au K L M)]) Y Z k l dK m n) (.exit 8) (Yi A a eH o p e9 fa fs a0 ch ft de d0),.u a]):
 aT (ap Tryz.f50 1) (zV A a N c d Q R S e f bn b g) .normal (zV A (a+1) eH o p e9 fa fs a0 ch ft de d0):=
 h.aQ [9,2,1,8,4] [8,4,2]
def OO(A:ah)(a b:Int)(C E F:ah)(c d:Int):aD:=ba 102 [(4,a1 4),(8,a1 8)] [(8,[aK 480000 4 A,az a,az b,aK 85 8 C,aK 99 6 E,aK 48 5 F,.v (aS)]),(4,[.v (aS),az c,az d,.v (aS),.v (aS),.v (aS),.v (aS)])]
theorem aqw(h:af [.b (decide (a<f)) false]):
 aT (ap Tryz.f50 1) (zV H a A b c C E F d e G f g) (.exit 2) (OO A b c C E F d e):=
 h.aQ [8,4] [8,4]
theorem aqx(h:af [.r 179 [.agg (bg C a b)] [ak q],.n q false,.b (decide ((A.length:Int)>20)) false,.l [] [26,25,24,4,2,1] [4,2] (ap Tryz.f50 0) (r7 A 0 0 0 C a b) (.exit 0) (OM A j k E c d),.r 181 [.agg (bg E c d)] [.agg (bg F e f)],.p ((0:Int)<=4),.p ((4:Int)<=4),.p (((↑32:Int)*4:Int)<=281474976710656),.p ((4:Int)<=9223372036854775807),.l [(9000003,85,8),(9000004,99,6)] [9,2,1,8,4] [8,4,2] (ap Tryz.f50 1) (zV A 0 F e f [] [] (List.replicate 4 [B false,I 0,I 0,B false,B false]) j k E c d) (.exit 2) (OO G g i H au K l m)]):
 av 50 [.agg (bg C a b),aE 5 A] [.agg (cl G g i H au K []),ak true]:=
 h.of
def Ea(A:ah)(a b:Int)(C:ah)(c d:Int)(E:ah):aD:=ba 49 [(1,c6 5 C),(2,aY c),(3,a1 3),(7,aH.aR (bm.one (aK 10 5 E))),(8,aY d)] [(3,[.J .free 4 A,az a,az b])]
def uS(A:ah)(a b:Int)(C:ah)(c d e:Int)(E:ah):aD:=ba 49 [(1,c6 5 C),(2,aY c),(3,a1 3),(7,aH.aR (bm.one (aK 10 5 E))),(8,aY d),(9,aY e)] [(3,[.J .free 4 A,az a,az b])]
theorem aqy(h:af [.i A a (bz f0 k o p a0),.b (k==j) true,.x A a (bz ch de d0 l cd),.r 245 [ag l,ag g] [ag m],.b (m==i) true,.x A a (bz b c d e f),.g C [(bz b c d e f)] 40,.h [(bz b c d e f)],.u a]):
 aT (ap Tryz.f125 1) (uS E g n A i j a C) .normal (uS E g n A i j (a+1) (C++[(bz b c d e f)])):=
 h.aQ [9,1,8,3,2,7] [3]
theorem aqz(h:af [.i A a (bz a0 e j k l),.b (e==d) true,.x A a (bz m n o f p),.r 245 [ag f,ag b] [ag g],.b (g==c) false,.u a]):
 aT (ap Tryz.f125 1) (uS C b i A c d a E) .normal (uS C b i A c d (a+1) E):=
 h.aQ [9,1,8,3,2,7] [3]
theorem aqA(h:af [.i A a (bz k d g i j),.b (d==b) false,.u a]):
 aT (ap Tryz.f125 1) (uS C c e A f b a E) .normal (uS C c e A f b (a+1) E):=
 h.aQ [9,1,8,3,2,7] [3]
def Yj(A:ah)(a b:Int)(C:ah)(c d:Int)(E:ah):aD:=ba 49 [(1,c6 5 C),(2,aY c),(3,a1 3),(7,aH.aR (bm.one (aK 10 5 E))),(8,aY d)] [(3,[.J .free 4 A,az a,az b])]
theorem aqB(h:af [.f A e false]):
 aT (ap Tryz.f125 1) (uS C a b A c d e E) (.exit 2) (Yj C a b A c d E):=
 h.aQ [8,1,3,2,7] [3]
theorem aqC(h:af [.b (decide (a<=3)) true,.l [] [9,1,8,3,2,7] [3] (ap Tryz.f125 1) (uS A b c C d a 0 E) (.exit 2) (Yj A b c C d a F),.u a]):
 aT (ap Tryz.f125 0) (Ea A b c C d a E) .normal (Ea A b c C d (a+1) F):=
 h.aQ [8,1,3,2,7] [3]
def Yk(A:ah):aD:=ba 49 [(7,aH.aR (bm.one (aK 10 5 A)))] []
theorem aqD(h:af [.b (decide (a<=3)) false]):
 aT (ap Tryz.f125 0) (Ea C b c E d a A) (.exit 0) (Yk A):=
 h.aQ [7] []
theorem aqE(h:af [.l [] [8,1,3,2,7] [3] (ap Tryz.f125 0) (Ea A a b C c 0 []) (.exit 0) (Yk E)]):
 av 125 [.agg (bg A a b),aE 5 C,ag c] [aE 5 E]:=
 h.of
theorem aqF(h:af [.r 130 [ag b,ag 1,ag 4] [ag a]]):
 av 126 [ag b] [.agg (b' a [] a 0 0 0)]:=
 h.of
theorem aqG(h:af [.r 167 [ag b,ag 1,ag 4] [ag a]]):
 av 184 [ag b] [.agg (b' a [] a 0 0 0)]:=
 h.of
theorem aqH(h:af [.g ([]:ah) A 40,.h A,.p ((0:Int)<=4),.p ((4:Int)<=4),.p (((↑8:Int)*4:Int)<=281474976710656),.p ((4:Int)<=9223372036854775807),.p ((0:Int)<=4),.p ((4:Int)<=4),.p (((↑1:Int)*4:Int)<=281474976710656),.p ((4:Int)<=9223372036854775807),.p ((0:Int)<=4),.p ((4:Int)<=4),.p (((↑1:Int)*4:Int)<=281474976710656),.p ((4:Int)<=9223372036854775807)]):
 av 124 [aE 5 A] [.agg (bb [] [] ([]++A) [] (List.replicate 4 [I 0]) (List.replicate 4 [B false]) (List.replicate 4 [B false]) [])]:=
 h.of
theorem aqI(h:af [.r 233 [aE 5 A] [aE 5 C],.p ((0:Int)<=4),.p ((4:Int)<=4),.p (((↑8:Int)*4:Int)<=281474976710656),.p ((4:Int)<=9223372036854775807),.p ((0:Int)<=4),.p ((4:Int)<=4),.p (((↑1:Int)*4:Int)<=281474976710656),.p ((4:Int)<=9223372036854775807),.p ((0:Int)<=4),.p ((4:Int)<=4),.p (((↑1:Int)*4:Int)<=281474976710656),.p ((4:Int)<=9223372036854775807)]):
 av 183 [aE 5 A] [.agg (bb [] [] C [] (List.replicate 4 [I 0]) (List.replicate 4 [B false]) (List.replicate 4 [B false]) [])]:=
 h.of
theorem aqJ(h:af [.r 14 [.agg (bg A a b),aE 5 C] [.agg (cl G d e H au E F),ak q],.n q true]):
 av 24 [.agg (bg A a b),aE 5 C,ag c] [aE 4 [],ak false]:=
 h.of
def Jq(A:ah)(a b:Int)(C E:ah)(c d:Int)(F G H au:ah)(q:Bool)(K:ah)(e f:Int)(L M N P:ah)(g:Int)(Q R S bn V X Y Z:ah)(i j:Int)(r s:Bool)(dH:ah)(l:List O):List O:=.r 14 [.agg (bg A a b),aE 5 C] [.agg (cl E c d F G H au),ak q]::.n q false::.r 16 [.agg (cl E c d F G H au),ag 3000] [.agg (cl K e f L M N P),ag g]::.p ((0:Int)<=0)::.p (0<(L.length:Int))::.e L 0 (bb Q R S bn V X Y Z)::.r 17 [.agg (bb Q R S bn V X Y Z),ag i] [.agg [I j,B r],ak s]::.r 20 [.agg (cl K e f L M N P),ag i] [aE 4 dH]::l
theorem aqK(h:af (Jq C b e X Z f g dK eH E F q G c d A H au K i L M N Q R S bn V a j r s Y [.b s true])):
 av 24 [.agg (bg C b e),aE 5 X,ag a] [aE 4 Y,.one (B !r)]:=
 h.of
theorem aqL(h:af (Jq C b e X Z f g dK eH E F q G c d A H au K i L M N Q R S bn V a j s r Y [.b r false])):
 av 24 [.agg (bg C b e),aE 5 X,ag a] [aE 4 Y,ak false]:=
 h.of
theorem aqM(h:af [.r 50 [.agg (bg A a b),aE 5 C] [.agg (cl G d e H au E F),ak q],.n q true]):
 av 23 [.agg (bg A a b),aE 5 C,ag c] [aE 4 [],ak false]:=
 h.of
def Jr(A:ah)(a b:Int)(C E:ah)(c d:Int)(F G H au:ah)(q:Bool)(K:ah)(e f:Int)(L M N P:ah)(g:Int)(Q R S bn V X Y Z:ah)(i j:Int)(r s:Bool)(dH:ah)(l:List O):List O:=.r 50 [.agg (bg A a b),aE 5 C] [.agg (cl E c d F G H au),ak q]::.n q false::.r 40 [.agg (cl E c d F G H au),ag 3000] [.agg (cl K e f L M N P),ag g]::.p ((0:Int)<=0)::.p (0<(L.length:Int))::.e L 0 (bb Q R S bn V X Y Z)::.r 139 [.agg (bb Q R S bn V X Y Z),ag i] [.agg [I j,B r],ak s]::.r 114 [.agg (cl K e f L M N P),ag i] [aE 4 dH]::l
theorem aqd(h:af (Jr C b e X Z f g dK eH E F q G c d A H au K i L M N Q R S bn V a j r s Y [.b s true])):
 av 23 [.agg (bg C b e),aE 5 X,ag a] [aE 4 Y,.one (B !r)]:=
 h.of
theorem aqe(h:af (Jr C b e X Z f g dK eH E F q G c d A H au K i L M N Q R S bn V a j s r Y [.b r false])):
 av 23 [.agg (bg C b e),aE 5 X,ag a] [aE 4 Y,ak false]:=
 h.of
