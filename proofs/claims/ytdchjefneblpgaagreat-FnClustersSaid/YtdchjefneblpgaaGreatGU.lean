import Derived.Test.YtdchjefneblpgaaGreatGE
set_option linter.unusedVariables false
set_option linter.unusedSimpArgs false
namespace Go.Proofs.YtdchjefneblpgaaGreat
open Go.Sx Go.RowKit
variable {a b c d e f g i j k l m n o p a0 b9 de d0 bM f0 : Int} {A C E F G H au K L M N Q R S bz V X Y Z fw : ah} {q r s t u v w x y z ic gL jR t0 : Bool}
theorem au9(h:af [.b (decide (a<1)) true]):
 aw 245 [ao b,ao a] [ao 0]:=
 h.of
def GN(a:Int)(l:List O):List O:=.b (decide (a<1)) false::.p (a≠0)::l
theorem ava(h:af (GN a [.b (decide (b.tmod a<0)) true,.v (b.tmod a+a)])):
 aw 245 [ao b,ao a] [ao (b.tmod a+a)]:=
 h.of
theorem avb(h:af (GN a [.b (decide (b.tmod a<0)) false])):
 aw 245 [ao b,ao a] [ao (b.tmod a)]:=
 h.of
theorem avc(h:af [.b (decide (a<1)) true]):
 aw 147 [ao b,ao a] [ao 0]:=
 h.of
theorem avd(h:af (GN a [.b (decide (b.tmod a<0)) true,.v (b.tmod a+a)])):
 aw 147 [ao b,ao a] [ao (b.tmod a+a)]:=
 h.of
theorem ave(h:af (GN a [.b (decide (b.tmod a<0)) false])):
 aw 147 [ao b,ao a] [ao (b.tmod a)]:=
 h.of
def uz(A:ah)(a:Int):aF:=bf 21 [(0,cX 4 A),(3,a1 a)] []
def LY(q:Bool):aF:=bf 21 [(2,.aI (.one (.bc q)))] []
def GO(A:ah)(a b c d e f g i j:Int)(l:List O):List O:=.f A a true::.v (a-1)::.p (0<=a-1)::.p (a-1<(A.length:Int))::.e A ((a-1).toNat) [I b,I c,I d,I e]::.x A a [I f,I g,I i,I j]::l
theorem avf(h:af (GO A a c d e f g i j k [.r 307 [.agg [I c,I d,I e,I f],.agg [I g,I i,I j,I k]] [ao b],.b (decide (b>=0)) true])):
 aY (aq Tryz.f266 0) (uz A a) .ret (LY false):=
 h.aW [2] []
theorem avg(h:af (GO A a c d e f g i j k [.r 307 [.agg [I c,I d,I e,I f],.agg [I g,I i,I j,I k]] [ao b],.b (decide (b>=0)) false,.u a])):
 aY (aq Tryz.f266 0) (uz A a) .normal (uz A (a+1)):=
 h.aW [3,0] []
def Sv:aF:=bf 21 [] []
theorem avh(h:af [.f A a false]):
 aY (aq Tryz.f266 0) (uz A a) (.exit 0) Sv:=
 h.aW [] []
theorem avi(h:af [.l [] [3,0] [] (aq Tryz.f266 0) (uz A 1) .ret (LY q)]):
 aw 266 [aM 4 A] [al q]:=
 h.of
theorem avj(h:af [.l [] [3,0] [] (aq Tryz.f266 0) (uz A 1) (.exit 0) Sv]):
 aw 266 [aM 4 A] [al true]:=
 h.of
def uA(A:ah)(a:Int):aF:=bf 21 [(0,cX 4 A),(3,a1 a)] []
def LZ(q:Bool):aF:=bf 21 [(2,.aI (.one (.bc q)))] []
theorem avk(h:af (GO A a c d e f g i j k [.r 304 [.agg [I c,I d,I e,I f],.agg [I g,I i,I j,I k]] [ao b],.b (decide (b>=0)) true])):
 aY (aq Tryz.f280 0) (uA A a) .ret (LZ false):=
 h.aW [2] []
theorem avl(h:af (GO A a c d e f g i j k [.r 304 [.agg [I c,I d,I e,I f],.agg [I g,I i,I j,I k]] [ao b],.b (decide (b>=0)) false,.u a])):
 aY (aq Tryz.f280 0) (uA A a) .normal (uA A (a+1)):=
 h.aW [3,0] []
def Sw:aF:=bf 21 [] []
theorem avm(h:af [.f A a false]):
 aY (aq Tryz.f280 0) (uA A a) (.exit 0) Sw:=
 h.aW [] []
theorem avn(h:af [.l [] [3,0] [] (aq Tryz.f280 0) (uA A 1) .ret (LZ q)]):
 aw 280 [aM 4 A] [al q]:=
 h.of
theorem avo(h:af [.l [] [3,0] [] (aq Tryz.f280 0) (uA A 1) (.exit 0) Sw]):
 aw 280 [aM 4 A] [al true]:=
 h.of
def uB(A:ah)(a b:Int)(C:ah)(c:Int):aF:=bf 29 [(1,cX 5 C),(2,aT 2),(5,a1 c)] [(2,[.J .free 4 A,ay a,ay b])]
def EN(q:Bool):aF:=bf 29 [(4,.aI (.one (.bc q)))] []
def CS(A:ah)(a b c d e f:Int)(q:Bool)(l:List O):List O:=.i A a (bx b c d e f)::.r 122 [.agg (bx b c d e f)] [al q]::l
theorem auP(h:af (CS A a b c d e f q [.n q true])):
 aY (aq Tryz.f192 0) (uB C g i A a) .ret (EN false):=
 h.aW [4] []
theorem auQ(h:af (CS A a c d e f g q [.n q false,.x A a (bx b j k l m),.b (decide (b>=(C.length:Int))) true])):
 aY (aq Tryz.f192 0) (uB C i n A a) .ret (EN false):=
 h.aW [4] []
theorem auR(h:af (CS A a e f g i j q [.n q false,.x A a (bx c k l m n),.b (decide (c>=(C.length:Int))) false,.u a])):
 aY (aq Tryz.f192 0) (uB C b d A a) .normal (uB C b d A (a+1)):=
 h.aW [5,1,2] [2]
def Sy:aF:=bf 29 [] []
theorem auS(h:af [.f A a false]):
 aY (aq Tryz.f192 0) (uB C b c A a) (.exit 0) Sy:=
 h.aW [] []
theorem auT(h:af [.l [] [5,1,2] [2] (aq Tryz.f192 0) (uB A a b C 0) .ret (EN q)]):
 aw 192 [.agg (bt A a b),aM 5 C] [al q]:=
 h.of
theorem auU(h:af [.l [] [5,1,2] [2] (aq Tryz.f192 0) (uB A a b C 0) (.exit 0) Sy]):
 aw 192 [.agg (bt A a b),aM 5 C] [al true]:=
 h.of
def uU(A:ah)(a:Int)(C:ah)(b c:Int):aF:=bf 24 [(2,aT 2),(7,cX 5 A),(8,a1 (A.length:Int)),(9,a1 a)] [(2,[.J .free 4 C,ay b,ay c])]
def EO(q:Bool):aF:=bf 24 [(4,.aI (.one (.bc q)))] []
def CT(A:ah)(a b c d e f:Int)(q:Bool)(l:List O):List O:=.i A a (bx b c d e f)::.r 180 [.agg (bx b c d e f)] [al q]::l
theorem auV(h:af (CT A d e f a b c q [.n q true])):
 aY (aq Tryz.f189 0) (uU A d C g i) .ret (EO false):=
 h.aW [4] []
theorem auW(h:af (CT A e a i b c d q [.n q false,.r 250 [.agg (bt C f g),ao a] [al r],.n r true])):
 aY (aq Tryz.f189 0) (uU A e C f g) .ret (EO false):=
 h.aW [4] []
theorem auX(h:af (CT A a d i e f g q [.n q false,.r 250 [.agg (bt C b c),ao d] [al r],.n r false,.u a])):
 aY (aq Tryz.f189 0) (uU A a C b c) .normal (uU A (a+1) C b c):=
 h.aW [9,8,7,2] [2]
def Sz:aF:=bf 24 [] []
theorem auY(h:af [.f A a false]):
 aY (aq Tryz.f189 0) (uU A a C b c) (.exit 0) Sz:=
 h.aW [] []
theorem awp(h:af [.l [] [9,8,7,2] [2] (aq Tryz.f189 0) (uU C 0 A a b) .ret (EO q)]):
 aw 189 [.agg (bt A a b),aM 5 C] [al q]:=
 h.of
theorem awq(h:af [.l [] [9,8,7,2] [2] (aq Tryz.f189 0) (uU C 0 A a b) (.exit 0) Sz]):
 aw 189 [.agg (bt A a b),aM 5 C] [al true]:=
 h.of
def YP(A:ah)(a b:Int)(C:ah)(q:Bool)(l:List O):List O:=.r 192 [.agg (bt A a b),aM 5 C] [al q]::l
theorem awr(h:af (YP A a b C q [.n q true])):
 aw 175 [.agg (bt A a b),.agg (bj C F G H au K L E)] [al false]:=
 h.of
def YQ(A:ah)(a b:Int)(C:ah)(q:Bool)(E:ah)(r:Bool)(l:List O):List O:=YP A a b C q (.n q false::.r 192 [.agg (bt A a b),aM 5 E] [al r]::l)
theorem aws(h:af (YQ A a b C q E r [.n r true])):
 aw 175 [.agg (bt A a b),.agg (bj C E G H au K L F)] [al false]:=
 h.of
def YR(A:ah)(a b:Int)(C:ah)(q:Bool)(E:ah)(r:Bool)(F:ah)(s:Bool)(l:List O):List O:=YQ A a b C q E r (.n r false::.r 192 [.agg (bt A a b),aM 5 F] [al s]::l)
theorem awt(h:af (YR A a b C q E r F s [.n s true])):
 aw 175 [.agg (bt A a b),.agg (bj C E F H au K L G)] [al false]:=
 h.of
def OB(A:ah)(a b:Int)(C:ah)(q:Bool)(E:ah)(r:Bool)(F:ah)(s:Bool)(G:ah)(t:Bool)(l:List O):List O:=YR A a b C q E r F s (.n s false::.r 266 [aM 4 G] [al t]::l)
theorem awu(h:af (OB A a b C q E r F s G t [.n t true])):
 aw 175 [.agg (bt A a b),.agg (bj C E F G au K L H)] [al false]:=
 h.of
theorem awv(h:af (OB A a b C q E r F s G t [.n t false,.b ((H.length:Int) != 4) true])):
 aw 175 [.agg (bt A a b),.agg (bj C E F G H K L au)] [al false]:=
 h.of
def GV(A:ah)(a b:Int)(C:ah)(q:Bool)(E:ah)(r:Bool)(F:ah)(s:Bool)(G:ah)(t:Bool)(H:ah)(l:List O):List O:=OB A a b C q E r F s G t (.n t false::.b ((H.length:Int) != 4) false::l)
theorem aww(h:af (GV A a b C q E r F s G t H [.b ((au.length:Int) != 4) true])):
 aw 175 [.agg (bt A a b),.agg (bj C E F G H au L K)] [al false]:=
 h.of
def OL(A:ah)(a b:Int)(C:ah)(q:Bool)(E:ah)(r:Bool)(F:ah)(s:Bool)(G:ah)(t:Bool)(H au:ah)(l:List O):List O:=GV A a b C q E r F s G t H (.b ((au.length:Int) != 4) false::l)
theorem awx(h:af (OL A a b C q E r F s G t H au [.b ((K.length:Int) != 4) true])):
 aw 175 [.agg (bt A a b),.agg (bj C E F G H au K L)] [al false]:=
 h.of
def oL(A C E F G H au K:ah)(a:Int):aF:=bf 147 [(3,aT 3),(5,a1 4),(6,a1 a)] [(3,[.J .free 5 A,.J .free 5 C,.J .free 5 E,.J .free 4 F,.J .free 1 G,.J .free 1 H,.J .free 1 au,.J .free 2 K])]
def Ba(q:Bool):aF:=bf 147 [(4,.aI (.one (.bc q)))] []
theorem awy(h:af [.i A a (bx b c d e f),.b (b != 0) true]):
 aY (aq Tryz.f175 0) (oL E F A G H au K C a) .ret (Ba false):=
 h.aW [4] []
def vv(A:ah)(a b c d e f:Int)(l:List O):List O:=.i A a (bx b c d e f)::.b (b != 0) false::l
theorem awz(h:af (vv A a b d e f g [.x A a (bx i j c k l),.b (c != 0) true])):
 aY (aq Tryz.f175 0) (oL E F A G H au K C a) .ret (Ba false):=
 h.aW [4] []
theorem awA(h:af (vv A a b f g i j [.x A a (bx k l c m n),.b (c != 0) false,.b (decide (a>0)) true,.v (a-1),.p (0<=a-1),.p (a-1<(A.length:Int)),.e A ((a-1).toNat) (bx o d p a0 b9),.x A a (bx de e d0 bM f0),.b (decide (d>e)) true])):
 aY (aq Tryz.f175 0) (oL E F A G H au K C a) .ret (Ba false):=
 h.aW [4] []
theorem awB(h:af (vv A a b f g i j [.x A a (bx k l c m n),.b (c != 0) false,.b (decide (a>0)) true,.v (a-1),.p (0<=a-1),.p (a-1<(A.length:Int)),.e A ((a-1).toNat) (bx o d p a0 b9),.x A a (bx de e d0 bM f0),.b (decide (d>e)) false,.u a])):
 aY (aq Tryz.f175 0) (oL E F A G H au K C a) .normal (oL E F A G H au K C (a+1)):=
 h.aW [6,3,5] [3]
theorem awC(h:af (vv A a b d e f g [.x A a (bx i j c k l),.b (c != 0) false,.b (decide (a>0)) false,.u a])):
 aY (aq Tryz.f175 0) (oL E F A G H au K C a) .normal (oL E F A G H au K C (a+1)):=
 h.aW [6,3,5] [3]
def JH(A C E F G H au K:ah):aF:=bf 147 [(3,aT 3),(5,a1 4)] [(3,[.J .free 5 A,.J .free 5 C,.J .free 5 E,.J .free 4 F,.J .free 1 G,.J .free 1 H,.J .free 1 au,.J .free 2 K])]
theorem awD(h:af [.f A a false]):
 aY (aq Tryz.f175 0) (oL E F A G H au K C a) (.exit 0) (JH E F A G H au K C):=
 h.aW [5,3] [3]
theorem awE(h:af (OL A a b C q E r F s G t H au [.b ((K.length:Int) != 4) false,.l [] [6,3,5] [3] (aq Tryz.f175 0) (oL C E F G H au K L 0) .ret (Ba u)])):
 aw 175 [.agg (bt A a b),.agg (bj C E F G H au K L)] [al u]:=
 h.of
def uV(A C E F G H au K:ah)(a:Int):aF:=bf 147 [(3,aT 3),(5,a1 4),(7,a1 a)] [(3,[.J .free 5 A,.J .free 5 C,.J .free 5 E,.J .free 4 F,.J .free 1 G,.J .free 1 H,.J .free 1 au,.J .free 2 K])]
def L0(q:Bool):aF:=bf 147 [(4,.aI (.one (.bc q)))] []
theorem awF(h:af [.b (decide (a<4)) true,.x A a [I b],.r 168 [ao b,ao (-1000000),ao 1000000] [al q],.n q true]):
 aY (aq Tryz.f175 1) (uV E F G H A au K C a) .ret (L0 false):=
 h.aW [4] []
theorem awG(h:af [.b (decide (a<4)) true,.x A a [I b],.r 168 [ao b,ao (-1000000),ao 1000000] [al q],.n q false,.u a]):
 aY (aq Tryz.f175 1) (uV E F G H A au K C a) .normal (uV E F G H A au K C (a+1)):=
 h.aW [7,5,3] [3]
def L1(A C E F G H au K:ah):aF:=bf 147 [(3,aT 3)] [(3,[.J .free 5 A,.J .free 5 C,.J .free 5 E,.J .free 4 F,.J .free 1 G,.J .free 1 H,.J .free 1 au,.J .free 2 K])]
theorem awH(h:af [.b (decide (a<4)) false]):
 aY (aq Tryz.f175 1) (uV C E F G H au K A a) (.exit 2) (L1 C E F G H au K A):=
 h.aW [3] [3]
def OM(A:ah)(a b:Int)(C:ah)(q:Bool)(E:ah)(r:Bool)(F:ah)(s:Bool)(G:ah)(t:Bool)(H au K:ah)(W:Code)(L:ah)(l:List O):List O:=OL A a b C q E r F s G t H au (.b ((K.length:Int) != 4) false::.l [] [6,3,5] [3] W (oL C E F G H au K L 0) (.exit 0) (JH C E F G H au K L)::l)
theorem awI(h:af (OM K a b A q C r E s F t G H au (aq Tryz.f175 0) L [.l [] [7,5,3] [3] (aq Tryz.f175 1) (uV A C E F G H au L 0) .ret (L0 u)])):
 aw 175 [.agg (bt K a b),.agg (bj A C E F G H au L)] [al u]:=
 h.of
def rN(A C E F G H au K:ah)(a:Int):aF:=bf 147 [(3,aT 3),(8,a1 a)] [(3,[.J .free 5 A,.J .free 5 C,.J .free 5 E,.J .free 4 F,.J .free 1 G,.J .free 1 H,.J .free 1 au,.J .free 2 K])]
def EP(q:Bool):aF:=bf 147 [(4,.aI (.one (.bc q)))] []
theorem awJ(h:af [.i A a [I b,B r],.r 168 [ao b,ao 0,ao 3] [al q],.n q true]):
 aY (aq Tryz.f175 2) (rN C E F G H au K A a) .ret (EP false):=
 h.aW [4] []
def td(A C E F G H au K:ah)(a b:Int):aF:=bf 147 [(3,aT 3),(8,a1 a),(9,a1 b)] [(3,[.J .free 5 A,.J .free 5 C,.J .free 5 E,.J .free 4 F,.J .free 1 G,.J .free 1 H,.J .free 1 au,.J .free 2 K])]
def EQ(q:Bool):aF:=bf 147 [(4,.aI (.one (.bc q)))] []
theorem awK(h:af [.b (decide (b<a)) true,.x A b [I c,B q],.x A a [I d,B r],.b (c==d) true]):
 aY (aq Tryz.f175 3) (td C E F G H au K A a b) .ret (EQ false):=
 h.aW [4] []
theorem awL(h:af [.b (decide (a<b)) true,.x A a [I c,B q],.x A b [I d,B r],.b (c==d) false,.u a]):
 aY (aq Tryz.f175 3) (td C E F G H au K A b a) .normal (td C E F G H au K A b (a+1)):=
 h.aW [9,8,3] [3]
def L2(A C E F G H au K:ah)(a:Int):aF:=bf 147 [(3,aT 3),(8,a1 a)] [(3,[.J .free 5 A,.J .free 5 C,.J .free 5 E,.J .free 4 F,.J .free 1 G,.J .free 1 H,.J .free 1 au,.J .free 2 K])]
theorem awM(h:af [.b (decide (b<a)) false]):
 aY (aq Tryz.f175 3) (td C E F G H au K A a b) (.exit 6) (L2 C E F G H au K A a):=
 h.aW [8,3] [3]
theorem awN(h:af [.i A a [I b,B s],.r 168 [ao b,ao 0,ao 3] [al q],.n q false,.l [] [9,8,3] [3] (aq Tryz.f175 3) (td C E F G H au K A a 0) .ret (EQ r)]):
 aY (aq Tryz.f175 2) (rN C E F G H au K A a) .ret (EP r):=
 h.aW [4] []
theorem awO(h:af [.i A a [I b,B r],.r 168 [ao b,ao 0,ao 3] [al q],.n q false,.l [] [9,8,3] [3] (aq Tryz.f175 3) (td C E F G H au K A a 0) (.exit 6) (L2 C E F G H au K A a),.u a]):
 aY (aq Tryz.f175 2) (rN C E F G H au K A a) .normal (rN C E F G H au K A (a+1)):=
 h.aW [8,3] [3]
def L3:aF:=bf 147 [] []
theorem avZ(h:af [.f A a false]):
 aY (aq Tryz.f175 2) (rN C E F G H au K A a) (.exit 4) L3:=
 h.aW [] []
theorem av0(h:af (OM L a b A q C r E s F t G H au (aq Tryz.f175 0) K [.l [] [7,5,3] [3] (aq Tryz.f175 1) (uV A C E F G H au K 0) (.exit 2) (L1 A C E F G H au K),.l [] [8,3] [3] (aq Tryz.f175 2) (rN A C E F G H au K 0) .ret (EP u)])):
 aw 175 [.agg (bt L a b),.agg (bj A C E F G H au K)] [al u]:=
 h.of
theorem av1(h:af (OM L a b A q C r E s F t G H au (aq Tryz.f175 0) K [.l [] [7,5,3] [3] (aq Tryz.f175 1) (uV A C E F G H au K 0) (.exit 2) (L1 A C E F G H au K),.l [] [8,3] [3] (aq Tryz.f175 2) (rN A C E F G H au K 0) (.exit 4) L3])):
 aw 175 [.agg (bt L a b),.agg (bj A C E F G H au K)] [al true]:=
 h.of
def Y8(A:ah)(a b:Int)(C:ah)(q:Bool)(l:List O):List O:=.r 189 [.agg (bt A a b),aM 5 C] [al q]::l
theorem av2(h:af (Y8 A a b C q [.n q true])):
 aw 187 [.agg (bt A a b),.agg (bj C F G H au K L E)] [al false]:=
 h.of
def Y9(A:ah)(a b:Int)(C:ah)(q:Bool)(E:ah)(r:Bool)(l:List O):List O:=Y8 A a b C q (.n q false::.r 189 [.agg (bt A a b),aM 5 E] [al r]::l)
theorem av3(h:af (Y9 A a b C q E r [.n r true])):
 aw 187 [.agg (bt A a b),.agg (bj C E G H au K L F)] [al false]:=
 h.of
def Y'(A:ah)(a b:Int)(C:ah)(q:Bool)(E:ah)(r:Bool)(F:ah)(s:Bool)(l:List O):List O:=Y9 A a b C q E r (.n r false::.r 189 [.agg (bt A a b),aM 5 F] [al s]::l)
theorem av4(h:af (Y' A a b C q E r F s [.n s true])):
 aw 187 [.agg (bt A a b),.agg (bj C E F H au K L G)] [al false]:=
 h.of
def ON(A:ah)(a b:Int)(C:ah)(q:Bool)(E:ah)(r:Bool)(F:ah)(s:Bool)(G:ah)(t:Bool)(l:List O):List O:=Y' A a b C q E r F s (.n s false::.r 280 [aM 4 G] [al t]::l)
theorem av5(h:af (ON A a b C q E r F s G t [.n t true])):
 aw 187 [.agg (bt A a b),.agg (bj C E F G au K L H)] [al false]:=
 h.of
def oG(A:ah)(a:Int)(C E F G H au K L:ah):aF:=bf 121 [(3,aT 3),(37,cX 5 A),(38,a1 (A.length:Int)),(39,a1 a)] [(3,[.J .free 5 C,.J .free 5 E,.J .free 5 F,.J .free 4 G,.J .free 1 H,.J .free 1 au,.J .free 1 K,.J .free 2 L])]
def Bb(q:Bool):aF:=bf 121 [(4,.aI (.one (.bc q)))] []
theorem av6(h:af [.i A a (bx b c d e f),.b (b != 0) true]):
 aY (aq Tryz.f187 0) (oG A a C E F G H au K L) .ret (Bb false):=
 h.aW [4] []
theorem av7(h:af (vv A a b d c e f [.b (c != 0) true])):
 aY (aq Tryz.f187 0) (oG A a C E F G H au K L) .ret (Bb false):=
 h.aW [4] []
theorem av8(h:af (vv C a b c d f g [.b (d != 0) false,.b (decide (a>0)) true,.v (a-1),.p (0<=a-1),.p (a-1<(A.length:Int)),.e A ((a-1).toNat) (bx i e j k l),.b (decide (e>c)) true])):
 aY (aq Tryz.f187 0) (oG C a E F A G H au K L) .ret (Bb false):=
 h.aW [4] []
theorem av9(h:af (vv C a b c d f g [.b (d != 0) false,.b (decide (a>0)) true,.v (a-1),.p (0<=a-1),.p (a-1<(A.length:Int)),.e A ((a-1).toNat) (bx i e j k l),.b (decide (e>c)) false,.u a])):
 aY (aq Tryz.f187 0) (oG C a E F A G H au K L) .normal (oG C (a+1) E F A G H au K L):=
 h.aW [39,38,37,3] [3]
theorem awa(h:af (vv A a b d c e f [.b (c != 0) false,.b (decide (a>0)) false,.u a])):
 aY (aq Tryz.f187 0) (oG A a C E F G H au K L) .normal (oG A (a+1) C E F G H au K L):=
 h.aW [39,38,37,3] [3]
def JG(A C E F G H au K:ah):aF:=bf 121 [(3,aT 3)] [(3,[.J .free 5 A,.J .free 5 C,.J .free 5 E,.J .free 4 F,.J .free 1 G,.J .free 1 H,.J .free 1 au,.J .free 2 K])]
theorem awb(h:af [.f L a false]):
 aY (aq Tryz.f187 0) (oG L a A C E F G H au K) (.exit 0) (JG A C E F G H au K):=
 h.aW [3] [3]
theorem awc(h:af (ON A a b E q F r C s G t [.n t false,.l [] [39,38,37,3] [3] (aq Tryz.f187 0) (oG C 0 E F C G au K L H) .ret (Bb u)])):
 aw 187 [.agg (bt A a b),.agg (bj E F C G au K L H)] [al u]:=
 h.of
def OO(A:ah)(a b:Int)(C:ah)(q:Bool)(E:ah)(r:Bool)(F:ah)(s:Bool)(G:ah)(t:Bool)(W:Code)(H au K L M N P Q R S bz V:ah)(l:List O):List O:=ON A a b C q E r F s G t (.n t false::.l [] [39,38,37,3] [3] W (oG F 0 C E F G H au K L) (.exit 0) (JG M N P Q R S bz V)::l)
theorem awd(h:af (OO A a b E q F r C s G t (aq Tryz.f187 0) K L M H N Q R S au bz V X [.b ((au.length:Int) != 4) true])):
 aw 187 [.agg (bt A a b),.agg (bj E F C G K L M H)] [al false]:=
 h.of
theorem awe(h:af (OO A a b E q F r C s G t (aq Tryz.f187 0) L M N H Q R S bz au K V X [.b ((au.length:Int) != 4) false,.b ((K.length:Int) != 4) true])):
 aw 187 [.agg (bt A a b),.agg (bj E F C G L M N H)] [al false]:=
 h.of
def GX(A:ah)(a b:Int)(C:ah)(q:Bool)(E:ah)(r:Bool)(F:ah)(s:Bool)(G:ah)(t:Bool)(W:Code)(H au K L M N P Q R S bz V:ah)(l:List O):List O:=OO A a b C q E r F s G t W H au K L M N P Q R S bz V (.b ((R.length:Int) != 4) false::.b ((S.length:Int) != 4) false::l)
theorem awf(h:af (GX A a b E q F r C s G t (aq Tryz.f187 0) M N Q H R S bz V au K L X [.b ((L.length:Int) != 4) true])):
 aw 187 [.agg (bt A a b),.agg (bj E F C G M N Q H)] [al false]:=
 h.of
def uW(C E F G A H au K:ah)(a:Int):aF:=bf 121 [(3,aT 3),(89,cX 1 A),(90,a1 (A.length:Int)),(91,a1 a)] [(3,[.J .free 5 C,.J .free 5 E,.J .free 5 F,.J .free 4 G,.J .free 1 A,.J .free 1 H,.J .free 1 au,.J .free 2 K])]
def Lb(q:Bool):aF:=bf 121 [(4,.aI (.one (.bc q)))] []
theorem awg(h:af [.i A a [I b],.r 190 [ao b,ao (-1000000),ao 1000000] [al q],.n q true]):
 aY (aq Tryz.f187 1) (uW C E F G A H au K a) .ret (Lb false):=
 h.aW [4] []
theorem awh(h:af [.i A a [I b],.r 190 [ao b,ao (-1000000),ao 1000000] [al q],.n q false,.u a]):
 aY (aq Tryz.f187 1) (uW C E F G A H au K a) .normal (uW C E F G A H au K (a+1)):=
 h.aW [91,90,89,3] [3]
def Lc(A C E F G H au K:ah):aF:=bf 121 [(3,aT 3)] [(3,[.J .free 5 A,.J .free 5 C,.J .free 5 E,.J .free 4 F,.J .free 1 G,.J .free 1 H,.J .free 1 au,.J .free 2 K])]
theorem awi(h:af [.f A a false]):
 aY (aq Tryz.f187 1) (uW C E F G A H au K a) (.exit 2) (Lc C E F G A H au K):=
 h.aW [3] [3]
theorem awj(h:af (GX A a b H q au r C s K t (aq Tryz.f187 0) bz V X L M N Q R E F G S [.b ((G.length:Int) != 4) false,.l [] [91,90,89,3] [3] (aq Tryz.f187 1) (uW M N Q R E F G S 0) .ret (Lb u)])):
 aw 187 [.agg (bt A a b),.agg (bj H au C K bz V X L)] [al u]:=
 h.of
def rO(A:ah)(a:Int)(C E F G H au K L:ah):aF:=bf 121 [(3,aT 3),(100,cX 2 A),(101,a1 (A.length:Int)),(102,a1 a)] [(3,[.J .free 5 C,.J .free 5 E,.J .free 5 F,.J .free 4 G,.J .free 1 H,.J .free 1 au,.J .free 1 K,.J .free 2 L])]
def ER(q:Bool):aF:=bf 121 [(4,.aI (.one (.bc q)))] []
theorem awk(h:af [.i A a [I b,B r],.r 190 [ao b,ao 0,ao 3] [al q],.n q true]):
 aY (aq Tryz.f187 2) (rO A a C E F G H au K L) .ret (ER false):=
 h.aW [4] []
def Y7(A:ah)(a b:Int)(q r:Bool)(C:ah)(s:Bool)(l:List O):List O:=.i A a [I b,B q]::.r 190 [ao b,ao 0,ao 3] [al r]::.n r false::.p ((0:Int)<=none.getD 0)::.p (none.getD 0<=(some a).getD (C.length:Int))::.p ((some a).getD (C.length:Int)<=(C.length:Int))::.r 281 [.one (.J 2 (List.take (((some a).getD (C.length:Int)).toNat-0) (List.drop 0 C))),ao b] [al s]::l
theorem awl(h:af (Y7 C a b s q A r [.b r true])):
 aY (aq Tryz.f187 2) (rO C a E F G H au K L A) .ret (ER false):=
 h.aW [4] []
theorem awm(h:af (Y7 C a b s q A r [.b r false,.u a])):
 aY (aq Tryz.f187 2) (rO C a E F G H au K L A) .normal (rO C (a+1) E F G H au K L A):=
 h.aW [102,101,100,3] [3]
def Ld:aF:=bf 121 [] []
theorem awn(h:af [.f A a false]):
 aY (aq Tryz.f187 2) (rO A a C E F G H au K L) (.exit 4) Ld:=
 h.aW [] []
theorem awo(h:af (GX G a b N q Q r M s R t (aq Tryz.f187 0) bz V X S H au K L A C E F [.b ((E.length:Int) != 4) false,.l [] [91,90,89,3] [3] (aq Tryz.f187 1) (uW H au K L A C E F 0) (.exit 2) (Lc H au K L A C E F),.l [] [102,101,100,3] [3] (aq Tryz.f187 2) (rO F 0 H au K L A C E F) .ret (ER u)])):
 aw 187 [.agg (bt G a b),.agg (bj N Q M R bz V X S)] [al u]:=
 h.of
theorem avP(h:af (GX G a b N q Q r M s R t (aq Tryz.f187 0) bz V X S H au K L A C E F [.b ((E.length:Int) != 4) false,.l [] [91,90,89,3] [3] (aq Tryz.f187 1) (uW H au K L A C E F 0) (.exit 2) (Lc H au K L A C E F),.l [] [102,101,100,3] [3] (aq Tryz.f187 2) (rO F 0 H au K L A C E F) (.exit 4) Ld])):
 aw 187 [.agg (bt G a b),.agg (bj N Q M R bz V X S)] [al true]:=
 h.of
def wx(a:Int)(A:ah)(b c d e f:Int):aF:=bf 70 [(1,aT 1),(3,a1 f)] [(1,[ay a,.J .free 5 A,ay b,ay c,ay d,ay e])]
def Le(q:Bool):aF:=bf 70 [(2,.aI (.one (.bc q)))] []
theorem avQ(h:af (CS A c d e f a b q [.n q true])):
 aY (aq Tryz.f191 0) (wx g A i j k l c) .ret (Le false):=
 h.aW [2] []
theorem avR(h:af (CS A a j k l c d q [.n q false,.u a])):
 aY (aq Tryz.f191 0) (wx b A e f g i a) .normal (wx b A e f g i (a+1)):=
 h.aW [3,1] [1]
def Q2(a:Int)(A:ah)(b c d e:Int):aF:=bf 70 [(1,aT 1)] [(1,[ay a,.J .free 5 A,ay b,ay c,ay d,ay e])]
theorem avS(h:af [.f A f false]):
 aY (aq Tryz.f191 0) (wx a A b c d e f) (.exit 0) (Q2 a A b c d e):=
 h.aW [1] [1]
theorem avT(h:af [.l [] [3,1] [1] (aq Tryz.f191 0) (wx a A b c d e 0) .ret (Le q)]):
 aw 191 [.agg (b5 a A b c d e)] [al q]:=
 h.of
def Zj(W:Code)(a:Int)(A:ah)(b c d e:Int)(q:Bool)(l:List O):List O:=.l [] [3,1] [1] W (wx a A b c d e 0) (.exit 0) (Q2 a A b c d e)::.r 168 [ao a,ao 1,ao 4] [al q]::l
def Zk(W:Code)(a:Int)(A:ah)(b c d e:Int)(q r:Bool)(l:List O):List O:=Zj W a A b c d e q (.b q true::.r 168 [ao b,ao 0,ao a] [al r]::l)
def Zl(W:Code)(a:Int)(A:ah)(b c d e:Int)(q r s:Bool)(l:List O):List O:=Zk W a A b c d e q r (.b r true::.r 168 [ao c,ao 0,ao a] [al s]::l)
def Zm(W:Code)(a:Int)(A:ah)(b c d e:Int)(q r s:Bool)(l:List O):List O:=Zl W a A b c d e q r s (.b s true::.v (b+c)::.v (b+c+(A.length:Int))::l)
def OW(W:Code)(a:Int)(A:ah)(b c d e:Int)(q r s t:Bool)(l:List O):List O:=Zm W a A b c d e q r s (.b (b+c+(A.length:Int)==a) true::.r 168 [ao d,ao 0,ao 1000000000] [al t]::l)
theorem avU(h:af (OW (aq Tryz.f191 0) a A b c d e q r s t [.b t true,.v (d-(A.length:Int)),.b (e==d-(A.length:Int)) true])):
 aw 191 [.agg (b5 a A b c d e)] [al (decide (e>=0))]:=
 h.of
theorem avV(h:af (OW (aq Tryz.f191 0) a A b c d e q r s t [.b t true,.v (d-(A.length:Int)),.b (e==d-(A.length:Int)) false])):
 aw 191 [.agg (b5 a A b c d e)] [al false]:=
 h.of
theorem avW(h:af (OW (aq Tryz.f191 0) a A b c d e q r s t [.b t false])):
 aw 191 [.agg (b5 a A b c d e)] [al false]:=
 h.of
theorem avX(h:af (Zm (aq Tryz.f191 0) a A b c d e q r s [.b (b+c+(A.length:Int)==a) false])):
 aw 191 [.agg (b5 a A b c d e)] [al false]:=
 h.of
theorem avY(h:af (Zl (aq Tryz.f191 0) a A b c d e q r s [.b s false])):
 aw 191 [.agg (b5 a A b c d e)] [al false]:=
 h.of
theorem axp(h:af (Zk (aq Tryz.f191 0) a A b c d e q r [.b r false])):
 aw 191 [.agg (b5 a A b c d e)] [al false]:=
 h.of
theorem axq(h:af (Zj (aq Tryz.f191 0) a A b c d e q [.b q false])):
 aw 191 [.agg (b5 a A b c d e)] [al false]:=
 h.of
def Zn(a:Int)(q:Bool)(l:List O):List O:=.r 190 [ao a,ao 1,ao 4] [al q]::l
theorem axr(h:af (Zn a q [.n q true])):
 aw 188 [.agg (b5 a A b c d e)] [al false]:=
 h.of
def Zo(a:Int)(q:Bool)(b:Int)(r:Bool)(l:List O):List O:=Zn a q (.n q false::.r 190 [ao b,ao 0,ao a] [al r]::l)
theorem axs(h:af (Zo a q b r [.n r true])):
 aw 188 [.agg (b5 a A b c d e)] [al false]:=
 h.of
def Zp(a:Int)(q:Bool)(b:Int)(r:Bool)(c:Int)(s:Bool)(l:List O):List O:=Zo a q b r (.n r false::.r 190 [ao c,ao 0,ao a] [al s]::l)
theorem axt(h:af (Zp a q b r c s [.n s true])):
 aw 188 [.agg (b5 a A b c d e)] [al false]:=
 h.of
def Zq(a:Int)(q:Bool)(b:Int)(r:Bool)(c:Int)(s:Bool)(A:ah)(l:List O):List O:=Zp a q b r c s (.n s false::.v (b+c)::.v (b+c+(A.length:Int))::l)
theorem axu(h:af (Zq a q b r c s A [.b (b+c+(A.length:Int) != a) true])):
 aw 188 [.agg (b5 a A b c d e)] [al false]:=
 h.of
def G1(a:Int)(q:Bool)(b:Int)(r:Bool)(c:Int)(s:Bool)(A:ah)(d:Int)(t:Bool)(l:List O):List O:=Zq a q b r c s A (.b (b+c+(A.length:Int) != a) false::.r 190 [ao d,ao 0,ao 1000000000] [al t]::l)
theorem axv(h:af (G1 a q b r c s A d t [.n t true])):
 aw 188 [.agg (b5 a A b c d e)] [al false]:=
 h.of
theorem axw(h:af (G1 a q b r c s A d t [.n t false,.b (decide (e<0)) true])):
 aw 188 [.agg (b5 a A b c d e)] [al false]:=
 h.of
theorem axx(h:af (G1 a q b r c s A d t [.n t false,.b (decide (e<0)) false,.v (d-e),.b (d-e != (A.length:Int)) true])):
 aw 188 [.agg (b5 a A b c d e)] [al false]:=
 h.of
theorem axy(h:af (G1 a r b s c t A d u [.n u false,.b (decide (e<0)) false,.v (d-e),.b (d-e != (A.length:Int)) false,.r 282 [aM 5 A] [al q]])):
 aw 188 [.agg (b5 a A b c d e)] [al q]:=
 h.of
def wH(A:ah)(a:Int):aF:=bf 15 [(5,cX 5 A),(6,a1 (A.length:Int)),(7,a1 a)] []
def Lf(q:Bool):aF:=bf 15 [(2,.aI (.one (.bc q)))] []
theorem axz(h:af (CT A a b c d e f q [.n q true])):
 aY (aq Tryz.f282 0) (wH A a) .ret (Lf false):=
 h.aW [2] []
theorem axA(h:af (CT A a b c d e f q [.n q false,.u a])):
 aY (aq Tryz.f282 0) (wH A a) .normal (wH A (a+1)):=
 h.aW [7,6,5] []
def SA:aF:=bf 15 [] []
theorem axB(h:af [.f A a false]):
 aY (aq Tryz.f282 0) (wH A a) (.exit 0) SA:=
 h.aW [] []
theorem axC(h:af [.l [] [7,6,5] [] (aq Tryz.f282 0) (wH A 0) .ret (Lf q)]):
 aw 282 [aM 5 A] [al q]:=
 h.of
theorem axD(h:af [.l [] [7,6,5] [] (aq Tryz.f282 0) (wH A 0) (.exit 0) SA]):
 aw 282 [aM 5 A] [al true]:=
 h.of
def OX(A:ah)(a b:Int)(q:Bool)(l:List O):List O:=.r 121 [.agg (bt A a b)] [al q]::l
theorem axE(h:af (OX A a b q [.n q true])):
 aw 56 [.agg (cl A a b C E F G)] [al false]:=
 h.of
theorem axF(h:af (OX A a b q [.n q false,.b ((C.length:Int) != a) true])):
 aw 56 [.agg (cl A a b C E F G)] [al false]:=
 h.of
def Zr(A:ah)(a b:Int)(q:Bool)(C:ah)(l:List O):List O:=OX A a b q (.n q false::.b ((C.length:Int) != a) false::.v (a*a)::l)
theorem axG(h:af (Zr A a b q C [.b ((E.length:Int) != a*a) true])):
 aw 56 [.agg (cl A a b C E F G)] [al false]:=
 h.of
def Zs(A:ah)(a b:Int)(q:Bool)(C E:ah)(l:List O):List O:=Zr A a b q C (.b ((E.length:Int) != a*a) false::l)
theorem axH(h:af (Zs A a b q C E [.b ((F.length:Int) != 4) true])):
 aw 56 [.agg (cl A a b C E F G)] [al false]:=
 h.of
def s4(A:ah)(a b:Int)(C E F G:ah)(c:Int):aF:=bf 170 [(1,aT 1),(3,a1 a),(4,a1 c)] [(1,[.J .free 4 A,ay a,ay b,.J .free 8 C,.J .free 6 E,.J .free 5 F,.J .free 3 G])]
def ES(q:Bool):aF:=bf 170 [(2,.aI (.one (.bc q)))] []
theorem axI(h:af [.b (decide (b<a)) true,.x L b (bj M C E F G H au K),.r 175 [.agg (bt A a c),.agg (bj M C E F G H au K)] [al q],.n q true]):
 aY (aq Tryz.f56 0) (s4 A a c L N Q R b) .ret (ES false):=
 h.aW [2] []
theorem axJ(h:af [.b (decide (a<b)) true,.x C a (bj R E F G H au K L),.r 175 [.agg (bt A b c),.agg (bj R E F G H au K L)] [al q],.n q false,.u a]):
 aY (aq Tryz.f56 0) (s4 A b c C M N Q a) .normal (s4 A b c C M N Q (a+1)):=
 h.aW [4,3,1] [1]
def JI(A:ah)(a b:Int)(C E F G:ah):aF:=bf 170 [(1,aT 1),(3,a1 a)] [(1,[.J .free 4 A,ay a,ay b,.J .free 8 C,.J .free 6 E,.J .free 5 F,.J .free 3 G])]
theorem axK(h:af [.b (decide (c<a)) false]):
 aY (aq Tryz.f56 0) (s4 A a b C E F G c) (.exit 0) (JI A a b C E F G):=
 h.aW [1,3] [1]
def Zt(A:ah)(a b:Int)(q:Bool)(C E F:ah)(l:List O):List O:=Zs A a b q C E (.b ((F.length:Int) != 4) false::l)
theorem axL(h:af (Zt A a b q C E F [.l [] [4,3,1] [1] (aq Tryz.f56 0) (s4 A a b C E F G 0) .ret (ES r)])):
 aw 56 [.agg (cl A a b C E F G)] [al r]:=
 h.of
def l8(a b:Int)(A:ah)(c d:Int)(C E F G:ah):aF:=bf 170 [(1,aT 1),(3,a1 a),(5,a1 b)] [(1,[.J .free 4 A,ay c,ay d,.J .free 8 C,.J .free 6 E,.J .free 5 F,.J .free 3 G])]
def za(q:Bool):aF:=bf 170 [(2,.aI (.one (.bc q)))] []
def OY(A:ah)(a b:Int)(C:ah)(c d e f:Int)(q:Bool)(l:List O):List O:=.i A a (b5 b C c d e f)::.r 191 [.agg (b5 b C c d e f)] [al q]::l
theorem axM(h:af (OY A f a C b c d e q [.n q true])):
 aY (aq Tryz.f56 1) (l8 g f H i j E A F G) .ret (za false):=
 h.aW [2] []
theorem axN(h:af (OY A g a C c d e f q [.n q false,.b (a != b) true])):
 aY (aq Tryz.f56 1) (l8 i g H j b E A F G) .ret (za false):=
 h.aW [2] []
def G3(A:ah)(a b:Int)(C:ah)(c d e f:Int)(q:Bool)(g:Int)(E:ah)(i:Int)(r:Bool)(l:List O):List O:=OY A a b C c d e f q (.n q false::.b (b != g) false::.r 192 [.agg (bt E i g),aM 5 C] [al r]::l)
theorem axO(h:af (G3 C i b A d e f g q a E c r [.n r true])):
 aY (aq Tryz.f56 1) (l8 j i E c a F C G H) .ret (za false):=
 h.aW [2] []
theorem awZ(h:af (G3 C b d A f g i j q c E e r [.n r false,.p (a≠0),.v (b.tdiv a),.p (a≠0),.b (b.tdiv a==b.tmod a) true,.b (decide ((A.length:Int)>0)) true])):
 aY (aq Tryz.f56 1) (l8 a b E e c F C G H) .ret (za false):=
 h.aW [2] []
theorem aw0(h:af (G3 C b e A f g i j q c E d r [.n r false,.p (a≠0),.v (b.tdiv a),.p (a≠0),.b (b.tdiv a==b.tmod a) true,.b (decide ((A.length:Int)>0)) false,.u b])):
 aY (aq Tryz.f56 1) (l8 a b E d c F C G H) .normal (l8 a (b+1) E d c F C G H):=
 h.aW [5,1,3] [1]
theorem aw1(h:af (G3 A b e C f g i j q c E d r [.n r false,.p (a≠0),.v (b.tdiv a),.p (a≠0),.b (b.tdiv a==b.tmod a) false,.u b])):
 aY (aq Tryz.f56 1) (l8 a b E d c F A G H) .normal (l8 a (b+1) E d c F A G H):=
 h.aW [5,1,3] [1]
def Bc(a:Int)(A:ah)(b c:Int)(C E F G:ah):aF:=bf 170 [(1,aT 1),(3,a1 a)] [(1,[.J .free 4 A,ay b,ay c,.J .free 8 C,.J .free 6 E,.J .free 5 F,.J .free 3 G])]
theorem aw2(h:af [.f A d false]):
 aY (aq Tryz.f56 1) (l8 a d G b c C A E F) (.exit 2) (Bc a G b c C A E F):=
 h.aW [1,3] [1]
def G2(A:ah)(a b:Int)(q:Bool)(C E F:ah)(W:Code)(G:ah)(l:List O):List O:=Zt A a b q C E F (.l [] [4,3,1] [1] W (s4 A a b C E F G 0) (.exit 0) (JI A a b C E F G)::l)
theorem aw3(h:af (G2 A a b q C E F (aq Tryz.f56 0) G [.l [] [5,1,3] [1] (aq Tryz.f56 1) (l8 a 0 A a b C E F G) .ret (za r)])):
 aw 56 [.agg (cl A a b C E F G)] [al r]:=
 h.of
def mO(a:Int)(A:ah)(b c:Int)(C E F G:ah)(d:Int):aF:=bf 170 [(1,aT 1),(3,a1 a),(7,a1 d)] [(1,[.J .free 4 A,ay b,ay c,.J .free 8 C,.J .free 6 E,.J .free 5 F,.J .free 3 G])]
def xd(q:Bool):aF:=bf 170 [(2,.aI (.one (.bc q)))] []
def Zu(A:ah)(a:Int)(q:Bool)(b c:Int)(r s:Bool)(d:Int)(l:List O):List O:=.i A a [B q,I b,I c,B r,B s]::.v (d-1)::l
def Zv(A:ah)(a:Int)(q:Bool)(b c:Int)(r s:Bool)(d:Int)(t:Bool)(l:List O):List O:=Zu A a q b c r s d (.r 168 [ao b,ao 0,ao (d-1)] [al t]::l)
theorem aw4(h:af (Zv A b r c e s t a q [.n q true])):
 aY (aq Tryz.f56 2) (mO a G f d C E A F b) .ret (xd false):=
 h.aW [2] []
def C0(A:ah)(a:Int)(q:Bool)(b c:Int)(r s:Bool)(d:Int)(t u:Bool)(e f:Int)(v w:Bool)(l:List O):List O:=Zv A a q b c r s d t (.n t false::.x A a [B u,I e,I f,B v,B w]::l)
theorem aw5(h:af (C0 A a s c f t u b q r g i v w [.n r true,.x A a [B x,I d,I j,B y,B z],.b (d != 0) true])):
 aY (aq Tryz.f56 2) (mO b G k e C E A F a) .ret (xd false):=
 h.aW [2] []
theorem aw6(h:af (C0 A a t c g u v b q r i j w x [.n r true,.x A a [B y,I d,I k,B z,B ic],.b (d != 0) false,.x A a [B gL,I l,I e,B jR,B t0],.r 168 [ao e,ao (-1000000),ao 1000000] [al s],.n s true])):
 aY (aq Tryz.f56 2) (mO b G m f C E A F a) .ret (xd false):=
 h.aW [2] []
theorem aw7(h:af (C0 A a t d i u v b q r j k w x [.n r true,.x A a [B y,I e,I l,B z,B ic],.b (e != 0) false,.x A a [B gL,I m,I f,B jR,B t0],.r 168 [ao f,ao (-1000000),ao 1000000] [al s],.n s false,.u a])):
 aY (aq Tryz.f56 2) (mO b G g c C E A F a) .normal (mO b G g c C E A F (a+1)):=
 h.aW [7,1,3] [1]
theorem aw8(h:af (C0 A a t c f u v b q r g i w x [.n r false,.x A a [B y,I j,I d,B z,B ic],.r 168 [ao d,ao (-1000000),ao 1000000] [al s],.n s true])):
 aY (aq Tryz.f56 2) (mO b G k e C E A F a) .ret (xd false):=
 h.aW [2] []
theorem aw9(h:af (C0 A a t d g u v b q r i j w x [.n r false,.x A a [B y,I k,I e,B z,B ic],.r 168 [ao e,ao (-1000000),ao 1000000] [al s],.n s false,.u a])):
 aY (aq Tryz.f56 2) (mO b G f c C E A F a) .normal (mO b G f c C E A F (a+1)):=
 h.aW [7,1,3] [1]
def ET(a:Int)(A:ah)(b c:Int)(C E F G:ah):aF:=bf 170 [(1,aT 1),(3,a1 a)] [(1,[.J .free 4 A,ay b,ay c,.J .free 8 C,.J .free 6 E,.J .free 5 F,.J .free 3 G])]
theorem axa(h:af [.f A c false]):
 aY (aq Tryz.f56 2) (mO a G d b C E A F c) (.exit 4) (ET a G d b C E A F):=
 h.aW [1,3] [1]
theorem axb(h:af (G2 A a b r C E F (aq Tryz.f56 0) G [.l [] [5,1,3] [1] (aq Tryz.f56 1) (l8 a 0 A a b C E F G) (.exit 2) (Bc a M d c H au K L),.l [] [7,1,3] [1] (aq Tryz.f56 2) (mO a M d c H au K L 0) .ret (xd q)])):
 aw 56 [.agg (cl A a b C E F G)] [al q]:=
 h.of
def rP(a:Int)(A:ah)(b c:Int)(C E F G:ah)(d:Int):aF:=bf 170 [(1,aT 1),(3,a1 a),(8,a1 d)] [(1,[.J .free 4 A,ay b,ay c,.J .free 8 C,.J .free 6 E,.J .free 5 F,.J .free 3 G])]
def B0(q:Bool):aF:=bf 170 [(2,.aI (.one (.bc q)))] []
theorem axc(h:af [.i A b [I c,I e,B r],.v (a-1),.r 168 [ao c,ao 0,ao (a-1)] [al q],.n q true]):
 aY (aq Tryz.f56 3) (rP a G f d C E F A b) .ret (B0 false):=
 h.aW [2] []
theorem axd(h:af [.i A b [I c,I f,B s],.v (a-1),.r 168 [ao c,ao 0,ao (a-1)] [al q],.n q false,.x A b [I g,I d,B t],.r 168 [ao d,ao 0,ao 3] [al r],.n r true]):
 aY (aq Tryz.f56 3) (rP a G i e C E F A b) .ret (B0 false):=
 h.aW [2] []
theorem axe(h:af [.i A a [I d,I g,B s],.v (b-1),.r 168 [ao d,ao 0,ao (b-1)] [al q],.n q false,.x A a [I i,I e,B t],.r 168 [ao e,ao 0,ao 3] [al r],.n r false,.u a]):
 aY (aq Tryz.f56 3) (rP b G f c C E F A a) .normal (rP b G f c C E F A (a+1)):=
 h.aW [8,1,3] [1]
def Lg:aF:=bf 170 [] []
theorem axf(h:af [.f A a false]):
 aY (aq Tryz.f56 3) (rP b G d c C E F A a) (.exit 6) Lg:=
 h.aW [] []
theorem axg(h:af (G2 A a b r C E F (aq Tryz.f56 0) L [.l [] [5,1,3] [1] (aq Tryz.f56 1) (l8 a 0 A a b C E F L) (.exit 2) (Bc a M d c G H au K),.l [] [7,1,3] [1] (aq Tryz.f56 2) (mO a M d c G H au K 0) (.exit 4) (ET a M d c G H au K),.l [] [8,1,3] [1] (aq Tryz.f56 3) (rP a M d c G H au K 0) .ret (B0 q)])):
 aw 56 [.agg (cl A a b C E F L)] [al q]:=
 h.of
theorem axh(h:af (G2 A a b q C E F (aq Tryz.f56 0) L [.l [] [5,1,3] [1] (aq Tryz.f56 1) (l8 a 0 A a b C E F L) (.exit 2) (Bc a M d c G H au K),.l [] [7,1,3] [1] (aq Tryz.f56 2) (mO a M d c G H au K 0) (.exit 4) (ET a M d c G H au K),.l [] [8,1,3] [1] (aq Tryz.f56 3) (rP a M d c G H au K 0) (.exit 6) Lg])):
 aw 56 [.agg (cl A a b C E F L)] [al true]:=
 h.of
def O0(A:ah)(a b:Int)(q:Bool)(l:List O):List O:=.r 179 [.agg (bt A a b)] [al q]::l
theorem axi(h:af (O0 A a b q [.n q true])):
 aw 55 [.agg (cl A a b C E F G)] [al false]:=
 h.of
theorem axj(h:af (O0 A a b q [.n q false,.b ((C.length:Int) != a) true])):
 aw 55 [.agg (cl A a b C E F G)] [al false]:=
 h.of
def Zw(A:ah)(a b:Int)(q:Bool)(C:ah)(l:List O):List O:=O0 A a b q (.n q false::.b ((C.length:Int) != a) false::.v (a*a)::l)
theorem axk(h:af (Zw A a b q C [.b ((E.length:Int) != a*a) true])):
 aw 55 [.agg (cl A a b C E F G)] [al false]:=
 h.of
def Zx(A:ah)(a b:Int)(q:Bool)(C E:ah)(l:List O):List O:=Zw A a b q C (.b ((E.length:Int) != a*a) false::l)
theorem axl(h:af (Zx A a b q C E [.b ((F.length:Int) != 4) true])):
 aw 55 [.agg (cl A a b C E F G)] [al false]:=
 h.of
def s5(a:Int)(A:ah)(b:Int)(C:ah)(c d:Int)(E F G H:ah):aF:=bf 147 [(1,aT 1),(3,a1 a),(42,cX 8 A),(43,a1 (A.length:Int)),(44,a1 b)] [(1,[.J .free 4 C,ay c,ay d,.J .free 8 E,.J .free 6 F,.J .free 5 G,.J .free 3 H])]
def EU(q:Bool):aF:=bf 147 [(2,.aI (.one (.bc q)))] []
theorem axm(h:af [.i L c (bj A C E F G H au K),.r 187 [.agg (bt M a b),.agg (bj A C E F G H au K)] [al q],.n q true]):
 aY (aq Tryz.f55 0) (s5 d L c M a b N Q R S) .ret (EU false):=
 h.aW [2] []
theorem axn(h:af [.i A a (bj au K L M N Q R S),.r 187 [.agg (bt C b c),.agg (bj au K L M N Q R S)] [al q],.n q false,.u a]):
 aY (aq Tryz.f55 0) (s5 d A a C b c E F G H) .normal (s5 d A (a+1) C b c E F G H):=
 h.aW [44,43,42,1,3] [1]
def JJ(a:Int)(A:ah)(b c:Int)(C E F G:ah):aF:=bf 147 [(1,aT 1),(3,a1 a)] [(1,[.J .free 4 A,ay b,ay c,.J .free 8 C,.J .free 6 E,.J .free 5 F,.J .free 3 G])]
theorem axo(h:af [.f G d false]):
 aY (aq Tryz.f55 0) (s5 a G d H b c A C E F) (.exit 0) (JJ a H b c A C E F):=
 h.aW [1,3] [1]
def Za(A:ah)(a b:Int)(q:Bool)(C E F:ah)(l:List O):List O:=Zx A a b q C E (.b ((F.length:Int) != 4) false::l)
theorem awP(h:af (Za C a b q A E F [.l [] [44,43,42,1,3] [1] (aq Tryz.f55 0) (s5 a A 0 C a b A E F G) .ret (EU r)])):
 aw 55 [.agg (cl C a b A E F G)] [al r]:=
 h.of
def l9(a:Int)(A:ah)(b:Int)(C:ah)(c d:Int)(E F G H:ah):aF:=bf 147 [(1,aT 1),(3,a1 a),(55,cX 6 A),(56,a1 (A.length:Int)),(57,a1 b)] [(1,[.J .free 4 C,ay c,ay d,.J .free 8 E,.J .free 6 F,.J .free 5 G,.J .free 3 H])]
def zb(q:Bool):aF:=bf 147 [(2,.aI (.one (.bc q)))] []
def OZ(A:ah)(a b:Int)(C:ah)(c d e f:Int)(q:Bool)(l:List O):List O:=.i A a (b5 b C c d e f)::.r 188 [.agg (b5 b C c d e f)] [al q]::l
theorem awQ(h:af (OZ A a b C c d e f q [.n q true])):
 aY (aq Tryz.f55 1) (l9 g A a E i j F G H au) .ret (zb false):=
 h.aW [2] []
theorem awR(h:af (OZ A b a C d e f g q [.n q false,.b (a != c) true])):
 aY (aq Tryz.f55 1) (l9 i A b E j c F G H au) .ret (zb false):=
 h.aW [2] []
def G4(A:ah)(a b:Int)(C:ah)(c d e f:Int)(q:Bool)(g:Int)(E:ah)(i:Int)(r:Bool)(l:List O):List O:=OZ A a b C c d e f q (.n q false::.b (b != g) false::.r 189 [.agg (bt E i g),aM 5 C] [al r]::l)
theorem awS(h:af (G4 C c b A e f g i q a E d r [.n r true])):
 aY (aq Tryz.f55 1) (l9 j C c E d a F G H au) .ret (zb false):=
 h.aW [2] []
theorem awT(h:af (G4 C b d A f g i j q c E e r [.n r false,.p (a≠0),.v (b.tdiv a),.p (a≠0),.b (b.tdiv a==b.tmod a) true,.b (decide ((A.length:Int)>0)) true])):
 aY (aq Tryz.f55 1) (l9 a C b E e c F G H au) .ret (zb false):=
 h.aW [2] []
theorem awU(h:af (G4 C b e A f g i j q c E d r [.n r false,.p (a≠0),.v (b.tdiv a),.p (a≠0),.b (b.tdiv a==b.tmod a) true,.b (decide ((A.length:Int)>0)) false,.u b])):
 aY (aq Tryz.f55 1) (l9 a C b E d c F G H au) .normal (l9 a C (b+1) E d c F G H au):=
 h.aW [57,56,55,1,3] [1]
theorem awV(h:af (G4 A b e E f g i j q c C d r [.n r false,.p (a≠0),.v (b.tdiv a),.p (a≠0),.b (b.tdiv a==b.tmod a) false,.u b])):
 aY (aq Tryz.f55 1) (l9 a A b C d c F G H au) .normal (l9 a A (b+1) C d c F G H au):=
 h.aW [57,56,55,1,3] [1]
def B1(a:Int)(A:ah)(b c:Int)(C E F G:ah):aF:=bf 147 [(1,aT 1),(3,a1 a)] [(1,[.J .free 4 A,ay b,ay c,.J .free 8 C,.J .free 6 E,.J .free 5 F,.J .free 3 G])]
theorem awW(h:af [.f A b false]):
 aY (aq Tryz.f55 1) (l9 a A b C c d E F G H) (.exit 2) (B1 a C c d E F G H):=
 h.aW [1,3] [1]
def GY(A:ah)(a b:Int)(q:Bool)(C E F:ah)(W:Code)(G H:ah)(c d:Int)(au K L M:ah)(l:List O):List O:=Za A a b q C E F (.l [] [44,43,42,1,3] [1] W (s5 a C 0 A a b C E F G) (.exit 0) (JJ a H c d au K L M)::l)
theorem awX(h:af (GY C a b r A F G (aq Tryz.f55 0) L M d c H E au K [.l [] [57,56,55,1,3] [1] (aq Tryz.f55 1) (l9 a E 0 M d c H E au K) .ret (zb q)])):
 aw 55 [.agg (cl C a b A F G L)] [al q]:=
 h.of
def mP(a:Int)(A:ah)(b:Int)(C:ah)(c d:Int)(E F G H:ah):aF:=bf 147 [(1,aT 1),(3,a1 a),(98,cX 5 A),(99,a1 (A.length:Int)),(100,a1 b)] [(1,[.J .free 4 C,ay c,ay d,.J .free 8 E,.J .free 6 F,.J .free 5 G,.J .free 3 H])]
def xe(q:Bool):aF:=bf 147 [(2,.aI (.one (.bc q)))] []
def zL(A:ah)(a:Int)(q:Bool)(b c:Int)(r s:Bool)(d:Int)(t:Bool)(l:List O):List O:=Zu A a q b c r s d (.r 190 [ao b,ao 0,ao (d-1)] [al t]::l)
theorem awY(h:af (zL A b r c f s t a q [.n q true])):
 aY (aq Tryz.f55 2) (mP a A b C d e E F G H) .ret (xe false):=
 h.aW [2] []
theorem adq(h:af (zL A c q b f s t a r [.n r false,.n q true,.b (b != 0) true])):
 aY (aq Tryz.f55 2) (mP a A c C d e E F G H) .ret (xe false):=
 h.aW [2] []
theorem adr(h:af (zL A c q b d t u a r [.n r false,.n q true,.b (b != 0) false,.r 190 [ao d,ao (-1000000),ao 1000000] [al s],.n s true])):
 aY (aq Tryz.f55 2) (mP a A c C e f E F G H) .ret (xe false):=
 h.aW [2] []
theorem ads(h:af (zL A b q c f t u a r [.n r false,.n q true,.b (c != 0) false,.r 190 [ao f,ao (-1000000),ao 1000000] [al s],.n s false,.u b])):
 aY (aq Tryz.f55 2) (mP a A b C d e E F G H) .normal (mP a A (b+1) C d e E F G H):=
 h.aW [100,99,98,3,1] [1]
theorem adt(h:af (zL A b q c d t u a r [.n r false,.n q false,.r 190 [ao d,ao (-1000000),ao 1000000] [al s],.n s true])):
 aY (aq Tryz.f55 2) (mP a A b C e f E F G H) .ret (xe false):=
 h.aW [2] []
theorem adu(h:af (zL A b q e f t u a r [.n r false,.n q false,.r 190 [ao f,ao (-1000000),ao 1000000] [al s],.n s false,.u b])):
 aY (aq Tryz.f55 2) (mP a A b C c d E F G H) .normal (mP a A (b+1) C c d E F G H):=
 h.aW [100,99,98,3,1] [1]
def EV(a:Int)(A:ah)(b c:Int)(C E F G:ah):aF:=bf 147 [(1,aT 1),(3,a1 a)] [(1,[.J .free 4 A,ay b,ay c,.J .free 8 C,.J .free 6 E,.J .free 5 F,.J .free 3 G])]
theorem adv(h:af [.f A b false]):
 aY (aq Tryz.f55 2) (mP a A b C c d E F G H) (.exit 4) (EV a C c d E F G H):=
 h.aW [1,3] [1]
theorem adw(h:af (GY C a b r A G H (aq Tryz.f55 0) S bz f c au E K L [.l [] [57,56,55,1,3] [1] (aq Tryz.f55 1) (l9 a E 0 bz f c au E K L) (.exit 2) (B1 a M d e N Q F R),.l [] [100,99,98,3,1] [1] (aq Tryz.f55 2) (mP a F 0 M d e N Q F R) .ret (xe q)])):
 aw 55 [.agg (cl C a b A G H S)] [al q]:=
 h.of
def rQ(a:Int)(A:ah)(b:Int):aF:=bf 147 [(3,a1 a),(128,cX 3 A),(129,a1 (A.length:Int)),(130,a1 b)] []
def B2(q:Bool):aF:=bf 147 [(2,.aI (.one (.bc q)))] []
theorem adx(h:af [.i A b [I c,I d,B r],.v (a-1),.r 190 [ao c,ao 0,ao (a-1)] [al q],.n q true]):
 aY (aq Tryz.f55 3) (rQ a A b) .ret (B2 false):=
 h.aW [2] []
theorem ady(h:af [.i A b [I c,I d,B s],.v (a-1),.r 190 [ao c,ao 0,ao (a-1)] [al q],.n q false,.r 190 [ao d,ao 0,ao 3] [al r],.n r true]):
 aY (aq Tryz.f55 3) (rQ a A b) .ret (B2 false):=
 h.aW [2] []
theorem adz(h:af [.i A b [I c,I d,B s],.v (a-1),.r 190 [ao c,ao 0,ao (a-1)] [al q],.n q false,.r 190 [ao d,ao 0,ao 3] [al r],.n r false,.u b]):
 aY (aq Tryz.f55 3) (rQ a A b) .normal (rQ a A (b+1)):=
 h.aW [130,129,128,3] []
def Lh:aF:=bf 147 [] []
theorem adA(h:af [.f A a false]):
 aY (aq Tryz.f55 3) (rQ b A a) (.exit 6) Lh:=
 h.aW [] []
theorem adB(h:af (GY C a b r A G H (aq Tryz.f55 0) bz V f c au E K L [.l [] [57,56,55,1,3] [1] (aq Tryz.f55 1) (l9 a E 0 V f c au E K L) (.exit 2) (B1 a M d e N Q F R),.l [] [100,99,98,3,1] [1] (aq Tryz.f55 2) (mP a F 0 M d e N Q F R) (.exit 4) (EV a X g i Y Z fw S),.l [] [130,129,128,3] [] (aq Tryz.f55 3) (rQ a S 0) .ret (B2 q)])):
 aw 55 [.agg (cl C a b A G H bz)] [al q]:=
 h.of
theorem adC(h:af (GY C a b q A G H (aq Tryz.f55 0) bz V f c au E K L [.l [] [57,56,55,1,3] [1] (aq Tryz.f55 1) (l9 a E 0 V f c au E K L) (.exit 2) (B1 a M d e N Q F R),.l [] [100,99,98,3,1] [1] (aq Tryz.f55 2) (mP a F 0 M d e N Q F R) (.exit 4) (EV a X g i Y Z fw S),.l [] [130,129,128,3] [] (aq Tryz.f55 3) (rQ a S 0) (.exit 6) Lh])):
 aw 55 [.agg (cl C a b A G H bz)] [al true]:=
 h.of
