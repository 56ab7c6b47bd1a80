import Derived.Test.YtdchjefneblpgaaGreatGE
set_option linter.unusedVariables false
set_option linter.unusedSimpArgs false
namespace Go.Proofs.YtdchjefneblpgaaGreat
open Go.Sx Go.RowKit
variable {a b c d e f g i j k l m n o p a0 b9 de d0 bM f0 : Int} {A C E F G H au K L M N Q R S bz V X Y Z fw kY lP lR lS lT : ah} {q r : Bool}
theorem ajM(h:af [.r 121 [.agg (bt A a b)] [al q],.n q true]):
 aw 14 [.agg (bt A a b),aM 5 C] [.agg (cl [] 0 0 [] [] [] []),al false]:=
 h.of
theorem ajN(h:af [.r 121 [.agg (bt A a b)] [al q],.n q false,.b (decide ((C.length:Int)>20)) true]):
 aw 14 [.agg (bt A a b),aM 5 C] [.agg (cl [] 0 0 [] [] [] []),al false]:=
 h.of
def qD(A:ah)(a b c:Int)(C:ah)(d e:Int):aF:=bf 84 [(1,cX 5 A),(2,aT 2),(4,aT 4),(6,a1 a)] [(4,[.v (aO),ay b,ay c,.v (aO),.v (aO),.v (aO),.v (aO)]),(2,[.J .free 4 C,ay d,ay e])]
def zl(q:Bool)(a b:Int):aF:=bf 84 [(4,aT 4),(5,.aI (.one (.bc q)))] [(4,[.v (aO),ay a,ay b,.v (aO),.v (aO),.v (aO),.v (aO)])]
def G0(A:ah)(a b c d e f:Int)(q:Bool)(l:List O):List O:=.i A a (bx b c d e f)::.r 122 [.agg (bx b c d e f)] [al q]::l
theorem ajO(h:af (G0 A f a b c d e q [.n q true])):
 aY (aq Tryz.f14 0) (qD A f i j C k g) .ret (zl false 0 0):=
 h.aW [4,5] [4]
theorem ajP(h:af (G0 A a b c d e f q [.n q false,.x A a (bx g j k l m),.b (g != 0) true])):
 aY (aq Tryz.f14 0) (qD A a n o C p i) .ret (zl false 0 0):=
 h.aW [4,5] [4]
theorem ajQ(h:af (G0 A a b c d e f q [.n q false,.x A a (bx g k l m n),.b (g != 0) false,.x A a (bx o p i a0 b9),.b (i != 0) true])):
 aY (aq Tryz.f14 0) (qD A a de d0 C bM j) .ret (zl false 0 0):=
 h.aW [4,5] [4]
theorem ajR(h:af (G0 A a c d e f g q [.n q false,.x A a (bx i n o p a0),.b (i != 0) false,.x A a (bx b9 de j d0 bM),.b (j != 0) false,.u a])):
 aY (aq Tryz.f14 0) (qD A a k l C m b) .normal (qD A (a+1) k l C m b):=
 h.aW [6,1,4,2] [4,2]
def K'(A:ah)(a b:Int)(C:ah)(c d:Int):aF:=bf 84 [(1,cX 5 A),(2,aT 2),(4,aT 4)] [(4,[.v (aO),ay a,ay b,.v (aO),.v (aO),.v (aO),.v (aO)]),(2,[.J .free 4 C,ay c,ay d])]
theorem ai2(h:af [.f A b false]):
 aY (aq Tryz.f14 0) (qD A b c d C e a) (.exit 0) (K' A c d C e a):=
 h.aW [2,1,4] [4,2]
theorem ai3(h:af [.r 121 [.agg (bt A a b)] [al q],.n q false,.b (decide ((C.length:Int)>20)) false,.l [] [6,1,4,2] [4,2] (aq Tryz.f14 0) (qD C 0 0 0 A a b) .ret (zl r c d)]):
 aw 14 [.agg (bt A a b),aM 5 C] [.agg (cl [] c d [] [] [] []),al r]:=
 h.of
def zm(A:ah)(a:Int)(E:ah)(d e:Int)(F G H:ah)(f g:Int)(C:ah)(b c:Int):aF:=bf 84 [(1,cX 5 A),(2,aT 2),(4,aT 4),(7,aT 7),(8,a1 a)] [(7,[aD 510000 4 E,ay d,ay e,aD 67 8 F,aD 81 6 G,aD 51 5 H,.v (aO)]),(4,[.v (aO),ay f,ay g,.v (aO),.v (aO),.v (aO),.v (aO)]),(2,[.J .free 4 C,ay b,ay c])]
def Cf(A:ah)(a e:Int)(E:ah)(f g:Int)(F G H:ah)(i b:Int)(C:ah)(c d:Int):aF:=bf 84 [(1,cX 5 A),(2,aT 2),(4,aT 4),(7,aT 7),(8,a1 a),(9,a1 e)] [(7,[aD 510000 4 E,ay f,ay g,aD 67 8 F,aD 81 6 G,aD 51 5 H,.v (aO)]),(4,[.v (aO),ay i,ay b,.v (aO),.v (aO),.v (aO),.v (aO)]),(2,[.J .free 4 C,ay c,ay d])]
theorem ai4(h:af [.b (decide (a<b)) true,.r 126 [ao c] [.agg (b5 d C e f g i)],.a .wr,.g A [(b5 d C e f g i)] 64,.u a]):
 aY (aq Tryz.f14 2) (Cf E j a F k l G A H m n au b c) .normal (Cf E j (a+1) F k l G (A++[(b5 d C e f g i)]) H m n au b c):=
 h.aW [9,2,7,8,1,4] [7,4,2]
def Vq(A:ah)(a:Int)(E:ah)(d e:Int)(F G H:ah)(f g:Int)(C:ah)(b c:Int):aF:=bf 84 [(1,cX 5 A),(2,aT 2),(4,aT 4),(7,aT 7),(8,a1 a)] [(7,[aD 510000 4 E,ay d,ay e,aD 67 8 F,aD 81 6 G,aD 51 5 H,.v (aO)]),(4,[.v (aO),ay f,ay g,.v (aO),.v (aO),.v (aO),.v (aO)]),(2,[.J .free 4 C,ay b,ay c])]
theorem ai5(h:af [.b (decide (c<a)) false]):
 aY (aq Tryz.f14 2) (Cf A b c C d e E F G f g H a i) (.exit 4) (Vq A b C d e E F G f g H a i):=
 h.aW [8,2,7,1,4] [7,4,2]
theorem ai6(h:af [.b (decide (a<b)) true,.r 125 [.agg (bt E b c),aM 5 A,ao a] [aM 5 bz],.r 124 [aM 5 bz] [.agg (bj F G H au K L M N)],.a .wr,.g C [(bj F G H au K L M N)] 192,.l [] [9,2,7,8,1,4] [7,4,2] (aq Tryz.f14 2) (Cf A a 0 Q d e (C++[(bj F G H au K L M N)]) R S f g E b c) (.exit 4) (Vq A a V i j X Y Z k l fw m n),.u a]):
 aY (aq Tryz.f14 1) (zm A a Q d e C R S f g E b c) .normal (zm A (a+1) V i j X Y Z k l fw m n):=
 h.aW [8,2,7,1,4] [7,4,2]
def La(A:ah)(a b:Int)(C E F:ah)(c d:Int):aF:=bf 84 [(4,aT 4),(7,aT 7)] [(7,[aD 510000 4 A,ay a,ay b,aD 67 8 C,aD 81 6 E,aD 51 5 F,.v (aO)]),(4,[.v (aO),ay c,ay d,.v (aO),.v (aO),.v (aO),.v (aO)])]
theorem ai7(h:af [.b (decide (a<f)) false]):
 aY (aq Tryz.f14 1) (zm H a A b c C E F d e G f g) (.exit 2) (La A b c C E F d e):=
 h.aW [7,4] [7,4]
theorem ai8(h:af [.r 121 [.agg (bt C a b)] [al q],.n q false,.b (decide ((A.length:Int)>20)) false,.l [] [6,1,4,2] [4,2] (aq Tryz.f14 0) (qD A 0 0 0 C a b) (.exit 0) (K' A j k E c d),.r 123 [.agg (bt E c d)] [.agg (bt F e f)],.p ((0:Int)<=4),.p ((4:Int)<=4),.p (((↑32:Int)*4:Int)<=281474976710656),.p ((4:Int)<=9223372036854775807),.l [(8000003,67,8),(8000004,81,6)] [8,2,7,1,4] [7,4,2] (aq Tryz.f14 1) (zm A 0 F e f [] [] (List.replicate 4 [B false,I 0,I 0,B false,B false]) j k E c d) (.exit 2) (La G g i H au K l m)]):
 aw 14 [.agg (bt C a b),aM 5 A] [.agg (cl G g i H au K []),al true]:=
 h.of
theorem ai9(h:af [.r 179 [.agg (bt A a b)] [al q],.n q true]):
 aw 50 [.agg (bt A a b),aM 5 C] [.agg (cl [] 0 0 [] [] [] []),al false]:=
 h.of
theorem aja(h:af [.r 179 [.agg (bt A a b)] [al q],.n q false,.b (decide ((C.length:Int)>20)) true]):
 aw 50 [.agg (bt A a b),aM 5 C] [.agg (cl [] 0 0 [] [] [] []),al false]:=
 h.of
def qE(A:ah)(a b c:Int)(C:ah)(d e:Int):aF:=bf 102 [(1,cX 5 A),(2,aT 2),(4,aT 4),(24,cX 5 A),(25,a1 (A.length:Int)),(26,a1 a)] [(4,[.v (aO),ay b,ay c,.v (aO),.v (aO),.v (aO),.v (aO)]),(2,[.J .free 4 C,ay d,ay e])]
def zn(q:Bool)(a b:Int):aF:=bf 102 [(4,aT 4),(5,.aI (.one (.bc q)))] [(4,[.v (aO),ay a,ay b,.v (aO),.v (aO),.v (aO),.v (aO)])]
def zM(A:ah)(a b c d e f:Int)(q:Bool)(l:List O):List O:=.i A a (bx b c d e f)::.r 180 [.agg (bx b c d e f)] [al q]::l
theorem ajb(h:af (zM A f a b c d e q [.n q true])):
 aY (aq Tryz.f50 0) (qE A f i j C k g) .ret (zn false 0 0):=
 h.aW [4,5] [4]
theorem ajc(h:af (zM A f a b c d e q [.n q false,.b (a != 0) true])):
 aY (aq Tryz.f50 0) (qE A f i j C k g) .ret (zn false 0 0):=
 h.aW [4,5] [4]
theorem ajd(h:af (zM A f a c b d e q [.n q false,.b (a != 0) false,.b (b != 0) true])):
 aY (aq Tryz.f50 0) (qE A f i j C k g) .ret (zn false 0 0):=
 h.aW [4,5] [4]
theorem aje(h:af (zM A a b e c f g q [.n q false,.b (b != 0) false,.b (c != 0) false,.u a])):
 aY (aq Tryz.f50 0) (qE A a i j C k d) .normal (qE A (a+1) i j C k d):=
 h.aW [26,25,24,4,2,1] [4,2]
def ME(A:ah)(a b:Int)(C:ah)(c d:Int):aF:=bf 102 [(1,cX 5 A),(2,aT 2),(4,aT 4)] [(4,[.v (aO),ay a,ay b,.v (aO),.v (aO),.v (aO),.v (aO)]),(2,[.J .free 4 C,ay c,ay d])]
theorem ajf(h:af [.f A b false]):
 aY (aq Tryz.f50 0) (qE A b c d C e a) (.exit 0) (ME A c d C e a):=
 h.aW [2,1,4] [4,2]
theorem ajg(h:af [.r 179 [.agg (bt A a b)] [al q],.n q false,.b (decide ((C.length:Int)>20)) false,.l [] [26,25,24,4,2,1] [4,2] (aq Tryz.f50 0) (qE C 0 0 0 A a b) .ret (zn r c d)]):
 aw 50 [.agg (bt A a b),aM 5 C] [.agg (cl [] c d [] [] [] []),al r]:=
 h.of
def zo(A:ah)(a:Int)(E:ah)(d e:Int)(F G H:ah)(f g:Int)(C:ah)(b c:Int):aF:=bf 102 [(1,cX 5 A),(2,aT 2),(4,aT 4),(8,aT 8),(9,a1 a)] [(8,[aD 480000 4 E,ay d,ay e,aD 85 8 F,aD 99 6 G,aD 48 5 H,.v (aO)]),(4,[.v (aO),ay f,ay g,.v (aO),.v (aO),.v (aO),.v (aO)]),(2,[.J .free 4 C,ay b,ay c])]
def zp(A:ah)(a f:Int)(E F:ah)(g i:Int)(G H au:ah)(b c:Int)(C:ah)(d e:Int):aF:=bf 102 [(1,cX 5 A),(2,aT 2),(4,aT 4),(8,aT 8),(9,a1 a),(10,aJ.aI (bC.one (aD 78 5 E))),(11,a1 f)] [(8,[aD 480000 4 F,ay g,ay i,aD 85 8 G,aD 99 6 H,aD 48 5 au,.v (aO)]),(4,[.v (aO),ay b,ay c,.v (aO),.v (aO),.v (aO),.v (aO)]),(2,[.J .free 4 C,ay d,ay e])]
def xt(C:ah)(a f:Int)(A:ah)(g:Int)(H au:ah)(i j:Int)(K E F:ah)(b c:Int)(G:ah)(d e:Int):aF:=bf 102 [(1,cX 5 C),(2,aT 2),(4,aT 4),(8,aT 8),(9,a1 a),(10,aJ.aI (bC.one (aD 78 5 H))),(11,a1 f),(62,aJ.aI (bC.one (aD 630000 5 A))),(63,a1 (A.length:Int)),(64,a1 g)] [(8,[aD 480000 4 au,ay i,ay j,aD 85 8 K,aD 99 6 E,aD 48 5 F,.v (aO)]),(4,[.v (aO),ay b,ay c,.v (aO),.v (aO),.v (aO),.v (aO)]),(2,[.J .free 4 G,ay d,ay e])]
theorem ajh(h:af [.i A b (bx c d e a f),.r 147 [ao a,ao i] [ao p],.b (p==g) true,.g C [(bx c d e a f)] 40,.h [(bx c d e a f)],.u b]):
 aY (aq Tryz.f50 3) (xt E g j A b C F k l G H au m n K i o) .normal (xt E g j A (b+1) (C++[(bx c d e a f)]) F k l G H au m n K i o):=
 h.aW [64,63,62,2,9,10,11,1,8,4] [8,4,2]
theorem aji(h:af [.i A a (bx m n o k p),.r 147 [ao k,ao c] [ao l],.b (l==b) false,.u a]):
 aY (aq Tryz.f50 3) (xt C b d A a E F e f G H au g i K c j) .normal (xt C b d A (a+1) E F e f G H au g i K c j):=
 h.aW [64,63,62,2,9,10,11,1,8,4] [8,4,2]
def UB(A:ah)(a f:Int)(E F:ah)(g i:Int)(G H au:ah)(b c:Int)(C:ah)(d e:Int):aF:=bf 102 [(1,cX 5 A),(2,aT 2),(4,aT 4),(8,aT 8),(9,a1 a),(10,aJ.aI (bC.one (aD 78 5 E))),(11,a1 f)] [(8,[aD 480000 4 F,ay g,ay i,aD 85 8 G,aD 99 6 H,aD 48 5 au,.v (aO)]),(4,[.v (aO),ay b,ay c,.v (aO),.v (aO),.v (aO),.v (aO)]),(2,[.J .free 4 C,ay d,ay e])]
theorem ajj(h:af [.f C c false]):
 aY (aq Tryz.f50 3) (xt A a b C c E F d e G H au f g K i j) (.exit 6) (UB A a b E F d e G H au f g K i j):=
 h.aW [11,1,2,9,10,8,4] [8,4,2]
theorem ajk(h:af [.b (decide (a<=3)) true,.r 182 [aM 5 A,ao a] [aM 5 K],.l [] [64,63,62,2,9,10,11,1,8,4] [8,4,2] (aq Tryz.f50 3) (xt A b a K 0 C E c d F G H e f au g i) (.exit 6) (UB A b a L M j k N Q R l m S n o),.u a]):
 aY (aq Tryz.f50 2) (zp A b a C E c d F G H e f au g i) .normal (zp A b (a+1) L M j k N Q R l m S n o):=
 h.aW [11,1,2,9,10,8,4] [8,4,2]
def MF(A:ah)(a:Int)(E F:ah)(e f:Int)(G H au:ah)(g b:Int)(C:ah)(c d:Int):aF:=bf 102 [(1,cX 5 A),(2,aT 2),(4,aT 4),(8,aT 8),(9,a1 a),(10,aJ.aI (bC.one (aD 78 5 E)))] [(8,[aD 480000 4 F,ay e,ay f,aD 85 8 G,aD 99 6 H,aD 48 5 au,.v (aO)]),(4,[.v (aO),ay g,ay b,.v (aO),.v (aO),.v (aO),.v (aO)]),(2,[.J .free 4 C,ay c,ay d])]
theorem ajl(h:af [.b (decide (b<=3)) false]):
 aY (aq Tryz.f50 2) (zp E a b A C c d F G H e f au g i) (.exit 4) (MF E a A C c d F G H e f au g i):=
 h.aW [8,10,2,9,1,4] [8,4,2]
def Cg(A:ah)(a e:Int)(E:ah)(f g:Int)(F G H:ah)(i b:Int)(C:ah)(c d:Int):aF:=bf 102 [(1,cX 5 A),(2,aT 2),(4,aT 4),(8,aT 8),(9,a1 a),(14,a1 e)] [(8,[aD 480000 4 E,ay f,ay g,aD 85 8 F,aD 99 6 G,aD 48 5 H,.v (aO)]),(4,[.v (aO),ay i,ay b,.v (aO),.v (aO),.v (aO),.v (aO)]),(2,[.J .free 4 C,ay c,ay d])]
theorem ajm(h:af [.b (decide (a<b)) true,.r 184 [ao c] [.agg (b5 d C e f g i)],.a .wr,.g A [(b5 d C e f g i)] 64,.u a]):
 aY (aq Tryz.f50 4) (Cg E j a F k l G A H m n au b c) .normal (Cg E j (a+1) F k l G (A++[(b5 d C e f g i)]) H m n au b c):=
 h.aW [14,2,8,9,1,4] [8,4,2]
def UC(A:ah)(a:Int)(E:ah)(d e:Int)(F G H:ah)(f g:Int)(C:ah)(b c:Int):aF:=bf 102 [(1,cX 5 A),(2,aT 2),(4,aT 4),(8,aT 8),(9,a1 a)] [(8,[aD 480000 4 E,ay d,ay e,aD 85 8 F,aD 99 6 G,aD 48 5 H,.v (aO)]),(4,[.v (aO),ay f,ay g,.v (aO),.v (aO),.v (aO),.v (aO)]),(2,[.J .free 4 C,ay b,ay c])]
theorem ajn(h:af [.b (decide (c<a)) false]):
 aY (aq Tryz.f50 4) (Cg A b c C d e E F G f g H a i) (.exit 8) (UC A b C d e E F G f g H a i):=
 h.aW [9,2,1,8,4] [8,4,2]
theorem ajo(h:af [.b (decide (a<b)) true,.l [(10,78,5)] [11,1,2,9,10,8,4] [8,4,2] (aq Tryz.f50 2) (zp A a 0 [] N c d Q R S e f bz b g) (.exit 4) (MF A a V X i j C Y Z k l fw m n),.r 183 [aM 5 V] [.agg (bj E F G H au K L M)],.a .wr,.g C [(bj E F G H au K L M)] 192,.l [] [14,2,8,9,1,4] [8,4,2] (aq Tryz.f50 4) (Cg A a 0 X i j (C++[(bj E F G H au K L M)]) Y Z k l fw m n) (.exit 8) (UC A a kY o p lP lR lS a0 b9 lT de d0),.u a]):
 aY (aq Tryz.f50 1) (zo A a N c d Q R S e f bz b g) .normal (zo A (a+1) kY o p lP lR lS a0 b9 lT de d0):=
 h.aW [9,2,1,8,4] [8,4,2]
def MG(A:ah)(a b:Int)(C E F:ah)(c d:Int):aF:=bf 102 [(4,aT 4),(8,aT 8)] [(8,[aD 480000 4 A,ay a,ay b,aD 85 8 C,aD 99 6 E,aD 48 5 F,.v (aO)]),(4,[.v (aO),ay c,ay d,.v (aO),.v (aO),.v (aO),.v (aO)])]
theorem ajp(h:af [.b (decide (a<f)) false]):
 aY (aq Tryz.f50 1) (zo H a A b c C E F d e G f g) (.exit 2) (MG A b c C E F d e):=
 h.aW [8,4] [8,4]
theorem ajq(h:af [.r 179 [.agg (bt C a b)] [al q],.n q false,.b (decide ((A.length:Int)>20)) false,.l [] [26,25,24,4,2,1] [4,2] (aq Tryz.f50 0) (qE A 0 0 0 C a b) (.exit 0) (ME A j k E c d),.r 181 [.agg (bt E c d)] [.agg (bt F e f)],.p ((0:Int)<=4),.p ((4:Int)<=4),.p (((↑32:Int)*4:Int)<=281474976710656),.p ((4:Int)<=9223372036854775807),.l [(9000003,85,8),(9000004,99,6)] [9,2,1,8,4] [8,4,2] (aq Tryz.f50 1) (zo A 0 F e f [] [] (List.replicate 4 [B false,I 0,I 0,B false,B false]) j k E c d) (.exit 2) (MG G g i H au K l m)]):
 aw 50 [.agg (bt C a b),aM 5 A] [.agg (cl G g i H au K []),al true]:=
 h.of
def Ch(A:ah)(a b:Int)(C:ah)(c d:Int)(E:ah):aF:=bf 49 [(1,cX 5 C),(2,a1 c),(3,aT 3),(7,aJ.aI (bC.one (aD 10 5 E))),(8,a1 d)] [(3,[.J .free 4 A,ay a,ay b])]
def tg(A:ah)(a b:Int)(C:ah)(c d e:Int)(E:ah):aF:=bf 49 [(1,cX 5 C),(2,a1 c),(3,aT 3),(7,aJ.aI (bC.one (aD 10 5 E))),(8,a1 d),(9,a1 e)] [(3,[.J .free 4 A,ay a,ay b])]
theorem ajr(h:af [.i A a (bx f0 k o p a0),.b (k==j) true,.x A a (bx b9 de d0 l bM),.r 245 [ao l,ao g] [ao m],.b (m==i) true,.x A a (bx b c d e f),.g C [(bx b c d e f)] 40,.h [(bx b c d e f)],.u a]):
 aY (aq Tryz.f125 1) (tg E g n A i j a C) .normal (tg E g n A i j (a+1) (C++[(bx b c d e f)])):=
 h.aW [9,1,8,3,2,7] [3]
theorem aiS(h:af [.i A a (bx a0 e j k l),.b (e==d) true,.x A a (bx m n o f p),.r 245 [ao f,ao b] [ao g],.b (g==c) false,.u a]):
 aY (aq Tryz.f125 1) (tg C b i A c d a E) .normal (tg C b i A c d (a+1) E):=
 h.aW [9,1,8,3,2,7] [3]
theorem aiT(h:af [.i A a (bx k d g i j),.b (d==b) false,.u a]):
 aY (aq Tryz.f125 1) (tg C c e A f b a E) .normal (tg C c e A f b (a+1) E):=
 h.aW [9,1,8,3,2,7] [3]
def UD(A:ah)(a b:Int)(C:ah)(c d:Int)(E:ah):aF:=bf 49 [(1,cX 5 C),(2,a1 c),(3,aT 3),(7,aJ.aI (bC.one (aD 10 5 E))),(8,a1 d)] [(3,[.J .free 4 A,ay a,ay b])]
theorem aiU(h:af [.f A e false]):
 aY (aq Tryz.f125 1) (tg C a b A c d e E) (.exit 2) (UD C a b A c d E):=
 h.aW [8,1,3,2,7] [3]
theorem aiV(h:af [.b (decide (a<=3)) true,.l [] [9,1,8,3,2,7] [3] (aq Tryz.f125 1) (tg A b c C d a 0 E) (.exit 2) (UD A b c C d a F),.u a]):
 aY (aq Tryz.f125 0) (Ch A b c C d a E) .normal (Ch A b c C d (a+1) F):=
 h.aW [8,1,3,2,7] [3]
def UE(A:ah):aF:=bf 49 [(7,aJ.aI (bC.one (aD 10 5 A)))] []
theorem aiW(h:af [.b (decide (a<=3)) false]):
 aY (aq Tryz.f125 0) (Ch C b c E d a A) (.exit 0) (UE A):=
 h.aW [7] []
theorem aiX(h:af [.l [] [8,1,3,2,7] [3] (aq Tryz.f125 0) (Ch A a b C c 0 []) (.exit 0) (UE E)]):
 aw 125 [.agg (bt A a b),aM 5 C,ao c] [aM 5 E]:=
 h.of
theorem aiY(h:af [.r 130 [ao b,ao 1,ao 4] [ao a]]):
 aw 126 [ao b] [.agg (b5 a [] a 0 0 0)]:=
 h.of
theorem aiZ(h:af [.r 167 [ao b,ao 1,ao 4] [ao a]]):
 aw 184 [ao b] [.agg (b5 a [] a 0 0 0)]:=
 h.of
theorem ai0(h:af [.g ([]:ah) A 40,.h A,.p ((0:Int)<=4),.p ((4:Int)<=4),.p (((↑8:Int)*4:Int)<=281474976710656),.p ((4:Int)<=9223372036854775807),.p ((0:Int)<=4),.p ((4:Int)<=4),.p (((↑1:Int)*4:Int)<=281474976710656),.p ((4:Int)<=9223372036854775807),.p ((0:Int)<=4),.p ((4:Int)<=4),.p (((↑1:Int)*4:Int)<=281474976710656),.p ((4:Int)<=9223372036854775807)]):
 aw 124 [aM 5 A] [.agg (bj [] [] ([]++A) [] (List.replicate 4 [I 0]) (List.replicate 4 [B false]) (List.replicate 4 [B false]) [])]:=
 h.of
theorem ai1(h:af [.r 233 [aM 5 A] [aM 5 C],.p ((0:Int)<=4),.p ((4:Int)<=4),.p (((↑8:Int)*4:Int)<=281474976710656),.p ((4:Int)<=9223372036854775807),.p ((0:Int)<=4),.p ((4:Int)<=4),.p (((↑1:Int)*4:Int)<=281474976710656),.p ((4:Int)<=9223372036854775807),.p ((0:Int)<=4),.p ((4:Int)<=4),.p (((↑1:Int)*4:Int)<=281474976710656),.p ((4:Int)<=9223372036854775807)]):
 aw 183 [aM 5 A] [.agg (bj [] [] C [] (List.replicate 4 [I 0]) (List.replicate 4 [B false]) (List.replicate 4 [B false]) [])]:=
 h.of
