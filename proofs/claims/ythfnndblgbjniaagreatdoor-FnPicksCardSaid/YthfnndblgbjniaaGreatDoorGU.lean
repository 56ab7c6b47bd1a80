import Derived.Test.YthfnndblgbjniaaGreatDoorGE
namespace Go.Proofs.YthfnndblgbjniaaGreatDoor
open Go.Sx Go.RowKit
variable {a b c d e f g i j k l m n o p a0 b6 cS d0 bz f0 : Int} {A C E F G H ah K L M N Q R S a1 V X Y Z c9 : af} {q r s t u v w x y z f' hn gu t0 : Bool}
theorem adn(h:ae [.b (decide (a<1)) true]):
 al 158 [ag b,ag a] [ag 0]:=
 h.of
def FW(a:Int)(l:List O):List O:=.b (decide (a<1)) false::.p (a≠0)::l
theorem ado(h:ae (FW a [.b (decide (b.tmod a<0)) true,.v (b.tmod a+a)])):
 al 158 [ag b,ag a] [ag (b.tmod a+a)]:=
 h.of
theorem adp(h:ae (FW a [.b (decide (b.tmod a<0)) false])):
 al 158 [ag b,ag a] [ag (b.tmod a)]:=
 h.of
theorem adq(h:ae [.b (decide (a<1)) true]):
 al 100 [ag b,ag a] [ag 0]:=
 h.of
theorem adr(h:ae (FW a [.b (decide (b.tmod a<0)) true,.v (b.tmod a+a)])):
 al 100 [ag b,ag a] [ag (b.tmod a+a)]:=
 h.of
theorem acA(h:ae (FW a [.b (decide (b.tmod a<0)) false])):
 al 100 [ag b,ag a] [ag (b.tmod a)]:=
 h.of
def tW(A:af)(a:Int):aF:=bf 21 [(0,du 4 A),(3,aU a)] []
def LD(q:Bool):aF:=bf 21 [(2,.aC (.one (.bg q)))] []
def FX(A:af)(a b c d e f g i j:Int)(l:List O):List O:=.f A a true::.v (a-1)::.p (0<=a-1)::.p (a-1<(A.length:Int))::.e A ((a-1).toNat) [I b,I c,I d,I e]::.x A a [I f,I g,I i,I j]::l
theorem acB(h:ae (FX A a c d e f g i j k [.r 204 [.agg [I c,I d,I e,I f],.agg [I g,I i,I j,I k]] [ag b],.b (decide (b>=0)) true])):
 aY (ap Tryz.f184 0) (tW A a) .ret (LD false):=
 h.aT [2] []
theorem acC(h:ae (FX A a c d e f g i j k [.r 204 [.agg [I c,I d,I e,I f],.agg [I g,I i,I j,I k]] [ag b],.b (decide (b>=0)) false,.u a])):
 aY (ap Tryz.f184 0) (tW A a) .normal (tW A (a+1)):=
 h.aT [3,0] []
def Sn:aF:=bf 21 [] []
theorem acD(h:ae [.f A a false]):
 aY (ap Tryz.f184 0) (tW A a) (.exit 0) Sn:=
 h.aT [] []
theorem acE(h:ae [.l [] [3,0] [] (ap Tryz.f184 0) (tW A 1) .ret (LD q)]):
 al 184 [aO 4 A] [ai q]:=
 h.of
theorem acF(h:ae [.l [] [3,0] [] (ap Tryz.f184 0) (tW A 1) (.exit 0) Sn]):
 al 184 [aO 4 A] [ai true]:=
 h.of
def tX(A:af)(a:Int):aF:=bf 21 [(0,du 4 A),(3,aU a)] []
def LF(q:Bool):aF:=bf 21 [(2,.aC (.one (.bg q)))] []
theorem acG(h:ae (FX A a c d e f g i j k [.r 179 [.agg [I c,I d,I e,I f],.agg [I g,I i,I j,I k]] [ag b],.b (decide (b>=0)) true])):
 aY (ap Tryz.f129 0) (tX A a) .ret (LF false):=
 h.aT [2] []
theorem acH(h:ae (FX A a c d e f g i j k [.r 179 [.agg [I c,I d,I e,I f],.agg [I g,I i,I j,I k]] [ag b],.b (decide (b>=0)) false,.u a])):
 aY (ap Tryz.f129 0) (tX A a) .normal (tX A (a+1)):=
 h.aT [3,0] []
def Sp:aF:=bf 21 [] []
theorem acI(h:ae [.f A a false]):
 aY (ap Tryz.f129 0) (tX A a) (.exit 0) Sp:=
 h.aT [] []
theorem acJ(h:ae [.l [] [3,0] [] (ap Tryz.f129 0) (tX A 1) .ret (LF q)]):
 al 129 [aO 4 A] [ai q]:=
 h.of
theorem acK(h:ae [.l [] [3,0] [] (ap Tryz.f129 0) (tX A 1) (.exit 0) Sp]):
 al 129 [aO 4 A] [ai true]:=
 h.of
def tY(A:af)(a b:Int)(C:af)(c:Int):aF:=bf 29 [(1,du 5 C),(2,aS 2),(5,aU c)] [(2,[.J .free 4 A,au a,au b])]
def E9(q:Bool):aF:=bf 29 [(4,.aC (.one (.bg q)))] []
def BS(A:af)(a b c d e f:Int)(q:Bool)(l:List O):List O:=.i A a (bj b c d e f)::.r 167 [.agg (bj b c d e f)] [ai q]::l
theorem acL(h:ae (BS A a b c d e f q [.n q true])):
 aY (ap Tryz.f141 0) (tY C g i A a) .ret (E9 false):=
 h.aT [4] []
theorem acM(h:ae (BS A a c d e f g q [.n q false,.x A a (bj b j k l m),.b (decide (b>=(C.length:Int))) true])):
 aY (ap Tryz.f141 0) (tY C i n A a) .ret (E9 false):=
 h.aT [4] []
theorem acN(h:ae (BS A a e f g i j q [.n q false,.x A a (bj c k l m n),.b (decide (c>=(C.length:Int))) false,.u a])):
 aY (ap Tryz.f141 0) (tY C b d A a) .normal (tY C b d A (a+1)):=
 h.aT [5,1,2] [2]
def Sq:aF:=bf 29 [] []
theorem acO(h:ae [.f A a false]):
 aY (ap Tryz.f141 0) (tY C b c A a) (.exit 0) Sq:=
 h.aT [] []
theorem acP(h:ae [.l [] [5,1,2] [2] (ap Tryz.f141 0) (tY A a b C 0) .ret (E9 q)]):
 al 141 [.agg (bq A a b),aO 5 C] [ai q]:=
 h.of
theorem acQ(h:ae [.l [] [5,1,2] [2] (ap Tryz.f141 0) (tY A a b C 0) (.exit 0) Sq]):
 al 141 [.agg (bq A a b),aO 5 C] [ai true]:=
 h.of
def tZ(A:af)(a:Int)(C:af)(b c:Int):aF:=bf 24 [(2,aS 2),(7,du 5 A),(8,aU (A.length:Int)),(9,aU a)] [(2,[.J .free 4 C,au b,au c])]
def E'(q:Bool):aF:=bf 24 [(4,.aC (.one (.bg q)))] []
def BU(A:af)(a b c d e f:Int)(q:Bool)(l:List O):List O:=.i A a (bj b c d e f)::.r 131 [.agg (bj b c d e f)] [ai q]::l
theorem acR(h:ae (BU A d e f a b c q [.n q true])):
 aY (ap Tryz.f81 0) (tZ A d C g i) .ret (E' false):=
 h.aT [4] []
theorem acS(h:ae (BU A e a i b c d q [.n q false,.r 132 [.agg (bq C f g),ag a] [ai r],.n r true])):
 aY (ap Tryz.f81 0) (tZ A e C f g) .ret (E' false):=
 h.aT [4] []
theorem acT(h:ae (BU A a d i e f g q [.n q false,.r 132 [.agg (bq C b c),ag d] [ai r],.n r false,.u a])):
 aY (ap Tryz.f81 0) (tZ A a C b c) .normal (tZ A (a+1) C b c):=
 h.aT [9,8,7,2] [2]
def Sr:aF:=bf 24 [] []
theorem acU(h:ae [.f A a false]):
 aY (ap Tryz.f81 0) (tZ A a C b c) (.exit 0) Sr:=
 h.aT [] []
theorem acV(h:ae [.l [] [9,8,7,2] [2] (ap Tryz.f81 0) (tZ C 0 A a b) .ret (E' q)]):
 al 81 [.agg (bq A a b),aO 5 C] [ai q]:=
 h.of
theorem acW(h:ae [.l [] [9,8,7,2] [2] (ap Tryz.f81 0) (tZ C 0 A a b) (.exit 0) Sr]):
 al 81 [.agg (bq A a b),aO 5 C] [ai true]:=
 h.of
def WI(A:af)(a b:Int)(C:af)(q:Bool)(l:List O):List O:=.r 141 [.agg (bq A a b),aO 5 C] [ai q]::l
theorem acX(h:ae (WI A a b C q [.n q true])):
 al 139 [.agg (bq A a b),.agg (aX C F G H ah K L E)] [ai false]:=
 h.of
def WJ(A:af)(a b:Int)(C:af)(q:Bool)(E:af)(r:Bool)(l:List O):List O:=WI A a b C q (.n q false::.r 141 [.agg (bq A a b),aO 5 E] [ai r]::l)
theorem acY(h:ae (WJ A a b C q E r [.n r true])):
 al 139 [.agg (bq A a b),.agg (aX C E G H ah K L F)] [ai false]:=
 h.of
def WK(A:af)(a b:Int)(C:af)(q:Bool)(E:af)(r:Bool)(F:af)(s:Bool)(l:List O):List O:=WJ A a b C q E r (.n r false::.r 141 [.agg (bq A a b),aO 5 F] [ai s]::l)
theorem acZ(h:ae (WK A a b C q E r F s [.n s true])):
 al 139 [.agg (bq A a b),.agg (aX C E F H ah K L G)] [ai false]:=
 h.of
def M8(A:af)(a b:Int)(C:af)(q:Bool)(E:af)(r:Bool)(F:af)(s:Bool)(G:af)(t:Bool)(l:List O):List O:=WK A a b C q E r F s (.n s false::.r 184 [aO 4 G] [ai t]::l)
theorem acp(h:ae (M8 A a b C q E r F s G t [.n t true])):
 al 139 [.agg (bq A a b),.agg (aX C E F G ah K L H)] [ai false]:=
 h.of
theorem acq(h:ae (M8 A a b C q E r F s G t [.n t false,.b ((H.length:Int) != 4) true])):
 al 139 [.agg (bq A a b),.agg (aX C E F G H K L ah)] [ai false]:=
 h.of
def WL(A:af)(a b:Int)(C:af)(q:Bool)(E:af)(r:Bool)(F:af)(s:Bool)(G:af)(t:Bool)(H:af)(l:List O):List O:=M8 A a b C q E r F s G t (.n t false::.b ((H.length:Int) != 4) false::l)
theorem acr(h:ae (WL A a b C q E r F s G t H [.b ((ah.length:Int) != 4) true])):
 al 139 [.agg (bq A a b),.agg (aX C E F G H ah L K)] [ai false]:=
 h.of
def M9(A:af)(a b:Int)(C:af)(q:Bool)(E:af)(r:Bool)(F:af)(s:Bool)(G:af)(t:Bool)(H ah:af)(l:List O):List O:=WL A a b C q E r F s G t H (.b ((ah.length:Int) != 4) false::l)
theorem acs(h:ae (M9 A a b C q E r F s G t H ah [.b ((K.length:Int) != 4) true])):
 al 139 [.agg (bq A a b),.agg (aX C E F G H ah K L)] [ai false]:=
 h.of
def oq(A C E F G H ah K:af)(a:Int):aF:=bf 147 [(3,aS 3),(5,aU 4),(6,aU a)] [(3,[.J .free 5 A,.J .free 5 C,.J .free 5 E,.J .free 4 F,.J .free 1 G,.J .free 1 H,.J .free 1 ah,.J .free 2 K])]
def Ap(q:Bool):aF:=bf 147 [(4,.aC (.one (.bg q)))] []
theorem acu(h:ae [.i A a (bj b c d e f),.b (b != 0) true]):
 aY (ap Tryz.f139 0) (oq E F A G H ah K C a) .ret (Ap false):=
 h.aT [4] []
def uS(A:af)(a b c d e f:Int)(l:List O):List O:=.i A a (bj b c d e f)::.b (b != 0) false::l
theorem acv(h:ae (uS A a b d e f g [.x A a (bj i j c k l),.b (c != 0) true])):
 aY (ap Tryz.f139 0) (oq E F A G H ah K C a) .ret (Ap false):=
 h.aT [4] []
theorem acw(h:ae (uS A a b f g i j [.x A a (bj k l c m n),.b (c != 0) false,.b (decide (a>0)) true,.v (a-1),.p (0<=a-1),.p (a-1<(A.length:Int)),.e A ((a-1).toNat) (bj o d p a0 b6),.x A a (bj cS e d0 bz f0),.b (decide (d>e)) true])):
 aY (ap Tryz.f139 0) (oq E F A G H ah K C a) .ret (Ap false):=
 h.aT [4] []
theorem acx(h:ae (uS A a b f g i j [.x A a (bj k l c m n),.b (c != 0) false,.b (decide (a>0)) true,.v (a-1),.p (0<=a-1),.p (a-1<(A.length:Int)),.e A ((a-1).toNat) (bj o d p a0 b6),.x A a (bj cS e d0 bz f0),.b (decide (d>e)) false,.u a])):
 aY (ap Tryz.f139 0) (oq E F A G H ah K C a) .normal (oq E F A G H ah K C (a+1)):=
 h.aT [6,3,5] [3]
theorem acy(h:ae (uS A a b d e f g [.x A a (bj i j c k l),.b (c != 0) false,.b (decide (a>0)) false,.u a])):
 aY (ap Tryz.f139 0) (oq E F A G H ah K C a) .normal (oq E F A G H ah K C (a+1)):=
 h.aT [6,3,5] [3]
def IY(A C E F G H ah K:af):aF:=bf 147 [(3,aS 3),(5,aU 4)] [(3,[.J .free 5 A,.J .free 5 C,.J .free 5 E,.J .free 4 F,.J .free 1 G,.J .free 1 H,.J .free 1 ah,.J .free 2 K])]
theorem acz(h:ae [.f A a false]):
 aY (ap Tryz.f139 0) (oq E F A G H ah K C a) (.exit 0) (IY E F A G H ah K C):=
 h.aT [5,3] [3]
theorem ad2(h:ae (M9 A a b C q E r F s G t H ah [.b ((K.length:Int) != 4) false,.l [] [6,3,5] [3] (ap Tryz.f139 0) (oq C E F G H ah K L 0) .ret (Ap u)])):
 al 139 [.agg (bq A a b),.agg (aX C E F G H ah K L)] [ai u]:=
 h.of
def t'(A C E F G H ah K:af)(a:Int):aF:=bf 147 [(3,aS 3),(5,aU 4),(7,aU a)] [(3,[.J .free 5 A,.J .free 5 C,.J .free 5 E,.J .free 4 F,.J .free 1 G,.J .free 1 H,.J .free 1 ah,.J .free 2 K])]
def LG(q:Bool):aF:=bf 147 [(4,.aC (.one (.bg q)))] []
theorem ad3(h:ae [.b (decide (a<4)) true,.x A a [I b],.r 65 [ag b,ag (-1000000),ag 1000000] [ai q],.n q true]):
 aY (ap Tryz.f139 1) (t' E F G H A ah K C a) .ret (LG false):=
 h.aT [4] []
theorem ad4(h:ae [.b (decide (a<4)) true,.x A a [I b],.r 65 [ag b,ag (-1000000),ag 1000000] [ai q],.n q false,.u a]):
 aY (ap Tryz.f139 1) (t' E F G H A ah K C a) .normal (t' E F G H A ah K C (a+1)):=
 h.aT [7,5,3] [3]
def LH(A C E F G H ah K:af):aF:=bf 147 [(3,aS 3)] [(3,[.J .free 5 A,.J .free 5 C,.J .free 5 E,.J .free 4 F,.J .free 1 G,.J .free 1 H,.J .free 1 ah,.J .free 2 K])]
theorem ad5(h:ae [.b (decide (a<4)) false]):
 aY (ap Tryz.f139 1) (t' C E F G H ah K A a) (.exit 2) (LH C E F G H ah K A):=
 h.aT [3] [3]
def M'(A:af)(a b:Int)(C:af)(q:Bool)(E:af)(r:Bool)(F:af)(s:Bool)(G:af)(t:Bool)(H ah K:af)(W:Code)(L:af)(l:List O):List O:=M9 A a b C q E r F s G t H ah (.b ((K.length:Int) != 4) false::.l [] [6,3,5] [3] W (oq C E F G H ah K L 0) (.exit 0) (IY C E F G H ah K L)::l)
theorem ad6(h:ae (M' K a b A q C r E s F t G H ah (ap Tryz.f139 0) L [.l [] [7,5,3] [3] (ap Tryz.f139 1) (t' A C E F G H ah L 0) .ret (LG u)])):
 al 139 [.agg (bq K a b),.agg (aX A C E F G H ah L)] [ai u]:=
 h.of
def rz(A C E F G H ah K:af)(a:Int):aF:=bf 147 [(3,aS 3),(8,aU a)] [(3,[.J .free 5 A,.J .free 5 C,.J .free 5 E,.J .free 4 F,.J .free 1 G,.J .free 1 H,.J .free 1 ah,.J .free 2 K])]
def Fa(q:Bool):aF:=bf 147 [(4,.aC (.one (.bg q)))] []
theorem ad7(h:ae [.i A a [I b,B r],.r 65 [ag b,ag 0,ag 3] [ai q],.n q true]):
 aY (ap Tryz.f139 2) (rz C E F G H ah K A a) .ret (Fa false):=
 h.aT [4] []
def sJ(A C E F G H ah K:af)(a b:Int):aF:=bf 147 [(3,aS 3),(8,aU a),(9,aU b)] [(3,[.J .free 5 A,.J .free 5 C,.J .free 5 E,.J .free 4 F,.J .free 1 G,.J .free 1 H,.J .free 1 ah,.J .free 2 K])]
def Fb(q:Bool):aF:=bf 147 [(4,.aC (.one (.bg q)))] []
theorem ad8(h:ae [.b (decide (b<a)) true,.x A b [I c,B q],.x A a [I d,B r],.b (c==d) true]):
 aY (ap Tryz.f139 3) (sJ C E F G H ah K A a b) .ret (Fb false):=
 h.aT [4] []
theorem ad9(h:ae [.b (decide (a<b)) true,.x A a [I c,B q],.x A b [I d,B r],.b (c==d) false,.u a]):
 aY (ap Tryz.f139 3) (sJ C E F G H ah K A b a) .normal (sJ C E F G H ah K A b (a+1)):=
 h.aT [9,8,3] [3]
def LI(A C E F G H ah K:af)(a:Int):aF:=bf 147 [(3,aS 3),(8,aU a)] [(3,[.J .free 5 A,.J .free 5 C,.J .free 5 E,.J .free 4 F,.J .free 1 G,.J .free 1 H,.J .free 1 ah,.J .free 2 K])]
theorem aea(h:ae [.b (decide (b<a)) false]):
 aY (ap Tryz.f139 3) (sJ C E F G H ah K A a b) (.exit 6) (LI C E F G H ah K A a):=
 h.aT [8,3] [3]
theorem aeb(h:ae [.i A a [I b,B s],.r 65 [ag b,ag 0,ag 3] [ai q],.n q false,.l [] [9,8,3] [3] (ap Tryz.f139 3) (sJ C E F G H ah K A a 0) .ret (Fb r)]):
 aY (ap Tryz.f139 2) (rz C E F G H ah K A a) .ret (Fa r):=
 h.aT [4] []
theorem aec(h:ae [.i A a [I b,B r],.r 65 [ag b,ag 0,ag 3] [ai q],.n q false,.l [] [9,8,3] [3] (ap Tryz.f139 3) (sJ C E F G H ah K A a 0) (.exit 6) (LI C E F G H ah K A a),.u a]):
 aY (ap Tryz.f139 2) (rz C E F G H ah K A a) .normal (rz C E F G H ah K A (a+1)):=
 h.aT [8,3] [3]
def LJ:aF:=bf 147 [] []
theorem aed(h:ae [.f A a false]):
 aY (ap Tryz.f139 2) (rz C E F G H ah K A a) (.exit 4) LJ:=
 h.aT [] []
theorem aee(h:ae (M' L a b A q C r E s F t G H ah (ap Tryz.f139 0) K [.l [] [7,5,3] [3] (ap Tryz.f139 1) (t' A C E F G H ah K 0) (.exit 2) (LH A C E F G H ah K),.l [] [8,3] [3] (ap Tryz.f139 2) (rz A C E F G H ah K 0) .ret (Fa u)])):
 al 139 [.agg (bq L a b),.agg (aX A C E F G H ah K)] [ai u]:=
 h.of
theorem aef(h:ae (M' L a b A q C r E s F t G H ah (ap Tryz.f139 0) K [.l [] [7,5,3] [3] (ap Tryz.f139 1) (t' A C E F G H ah K 0) (.exit 2) (LH A C E F G H ah K),.l [] [8,3] [3] (ap Tryz.f139 2) (rz A C E F G H ah K 0) (.exit 4) LJ])):
 al 139 [.agg (bq L a b),.agg (aX A C E F G H ah K)] [ai true]:=
 h.of
def WN(A:af)(a b:Int)(C:af)(q:Bool)(l:List O):List O:=.r 81 [.agg (bq A a b),aO 5 C] [ai q]::l
theorem aeg(h:ae (WN A a b C q [.n q true])):
 al 79 [.agg (bq A a b),.agg (aX C F G H ah K L E)] [ai false]:=
 h.of
def WO(A:af)(a b:Int)(C:af)(q:Bool)(E:af)(r:Bool)(l:List O):List O:=WN A a b C q (.n q false::.r 81 [.agg (bq A a b),aO 5 E] [ai r]::l)
theorem aeh(h:ae (WO A a b C q E r [.n r true])):
 al 79 [.agg (bq A a b),.agg (aX C E G H ah K L F)] [ai false]:=
 h.of
def WQ(A:af)(a b:Int)(C:af)(q:Bool)(E:af)(r:Bool)(F:af)(s:Bool)(l:List O):List O:=WO A a b C q E r (.n r false::.r 81 [.agg (bq A a b),aO 5 F] [ai s]::l)
theorem aei(h:ae (WQ A a b C q E r F s [.n s true])):
 al 79 [.agg (bq A a b),.agg (aX C E F H ah K L G)] [ai false]:=
 h.of
def Na(A:af)(a b:Int)(C:af)(q:Bool)(E:af)(r:Bool)(F:af)(s:Bool)(G:af)(t:Bool)(l:List O):List O:=WQ A a b C q E r F s (.n s false::.r 129 [aO 4 G] [ai t]::l)
theorem aej(h:ae (Na A a b C q E r F s G t [.n t true])):
 al 79 [.agg (bq A a b),.agg (aX C E F G ah K L H)] [ai false]:=
 h.of
def ot(A:af)(a:Int)(C E F G H ah K L:af):aF:=bf 121 [(3,aS 3),(37,du 5 A),(38,aU (A.length:Int)),(39,aU a)] [(3,[.J .free 5 C,.J .free 5 E,.J .free 5 F,.J .free 4 G,.J .free 1 H,.J .free 1 ah,.J .free 1 K,.J .free 2 L])]
def Aq(q:Bool):aF:=bf 121 [(4,.aC (.one (.bg q)))] []
theorem aek(h:ae [.i A a (bj b c d e f),.b (b != 0) true]):
 aY (ap Tryz.f79 0) (ot A a C E F G H ah K L) .ret (Aq false):=
 h.aT [4] []
theorem ael(h:ae (uS A a b d c e f [.b (c != 0) true])):
 aY (ap Tryz.f79 0) (ot A a C E F G H ah K L) .ret (Aq false):=
 h.aT [4] []
theorem aem(h:ae (uS C a b c d f g [.b (d != 0) false,.b (decide (a>0)) true,.v (a-1),.p (0<=a-1),.p (a-1<(A.length:Int)),.e A ((a-1).toNat) (bj i e j k l),.b (decide (e>c)) true])):
 aY (ap Tryz.f79 0) (ot C a E F A G H ah K L) .ret (Aq false):=
 h.aT [4] []
theorem aen(h:ae (uS C a b c d f g [.b (d != 0) false,.b (decide (a>0)) true,.v (a-1),.p (0<=a-1),.p (a-1<(A.length:Int)),.e A ((a-1).toNat) (bj i e j k l),.b (decide (e>c)) false,.u a])):
 aY (ap Tryz.f79 0) (ot C a E F A G H ah K L) .normal (ot C (a+1) E F A G H ah K L):=
 h.aT [39,38,37,3] [3]
theorem aeo(h:ae (uS A a b d c e f [.b (c != 0) false,.b (decide (a>0)) false,.u a])):
 aY (ap Tryz.f79 0) (ot A a C E F G H ah K L) .normal (ot A (a+1) C E F G H ah K L):=
 h.aT [39,38,37,3] [3]
def IV(A C E F G H ah K:af):aF:=bf 121 [(3,aS 3)] [(3,[.J .free 5 A,.J .free 5 C,.J .free 5 E,.J .free 4 F,.J .free 1 G,.J .free 1 H,.J .free 1 ah,.J .free 2 K])]
theorem aep(h:ae [.f L a false]):
 aY (ap Tryz.f79 0) (ot L a A C E F G H ah K) (.exit 0) (IV A C E F G H ah K):=
 h.aT [3] [3]
theorem aeq(h:ae (Na A a b E q F r C s G t [.n t false,.l [] [39,38,37,3] [3] (ap Tryz.f79 0) (ot C 0 E F C G ah K L H) .ret (Aq u)])):
 al 79 [.agg (bq A a b),.agg (aX E F C G ah K L H)] [ai u]:=
 h.of
def Nb(A:af)(a b:Int)(C:af)(q:Bool)(E:af)(r:Bool)(F:af)(s:Bool)(G:af)(t:Bool)(W:Code)(H ah K L M N P Q R S a1 V:af)(l:List O):List O:=Na A a b C q E r F s G t (.n t false::.l [] [39,38,37,3] [3] W (ot F 0 C E F G H ah K L) (.exit 0) (IV M N P Q R S a1 V)::l)
theorem aer(h:ae (Nb A a b E q F r C s G t (ap Tryz.f79 0) K L M H N Q R S ah a1 V X [.b ((ah.length:Int) != 4) true])):
 al 79 [.agg (bq A a b),.agg (aX E F C G K L M H)] [ai false]:=
 h.of
theorem adC(h:ae (Nb A a b E q F r C s G t (ap Tryz.f79 0) L M N H Q R S a1 ah K V X [.b ((ah.length:Int) != 4) false,.b ((K.length:Int) != 4) true])):
 al 79 [.agg (bq A a b),.agg (aX E F C G L M N H)] [ai false]:=
 h.of
def FY(A:af)(a b:Int)(C:af)(q:Bool)(E:af)(r:Bool)(F:af)(s:Bool)(G:af)(t:Bool)(W:Code)(H ah K L M N P Q R S a1 V:af)(l:List O):List O:=Nb A a b C q E r F s G t W H ah K L M N P Q R S a1 V (.b ((R.length:Int) != 4) false::.b ((S.length:Int) != 4) false::l)
theorem adD(h:ae (FY A a b E q F r C s G t (ap Tryz.f79 0) M N Q H R S a1 V ah K L X [.b ((L.length:Int) != 4) true])):
 al 79 [.agg (bq A a b),.agg (aX E F C G M N Q H)] [ai false]:=
 h.of
def ua(C E F G A H ah K:af)(a:Int):aF:=bf 121 [(3,aS 3),(89,du 1 A),(90,aU (A.length:Int)),(91,aU a)] [(3,[.J .free 5 C,.J .free 5 E,.J .free 5 F,.J .free 4 G,.J .free 1 A,.J .free 1 H,.J .free 1 ah,.J .free 2 K])]
def LK(q:Bool):aF:=bf 121 [(4,.aC (.one (.bg q)))] []
theorem adE(h:ae [.i A a [I b],.r 64 [ag b,ag (-1000000),ag 1000000] [ai q],.n q true]):
 aY (ap Tryz.f79 1) (ua C E F G A H ah K a) .ret (LK false):=
 h.aT [4] []
theorem adF(h:ae [.i A a [I b],.r 64 [ag b,ag (-1000000),ag 1000000] [ai q],.n q false,.u a]):
 aY (ap Tryz.f79 1) (ua C E F G A H ah K a) .normal (ua C E F G A H ah K (a+1)):=
 h.aT [91,90,89,3] [3]
def LL(A C E F G H ah K:af):aF:=bf 121 [(3,aS 3)] [(3,[.J .free 5 A,.J .free 5 C,.J .free 5 E,.J .free 4 F,.J .free 1 G,.J .free 1 H,.J .free 1 ah,.J .free 2 K])]
theorem adG(h:ae [.f A a false]):
 aY (ap Tryz.f79 1) (ua C E F G A H ah K a) (.exit 2) (LL C E F G A H ah K):=
 h.aT [3] [3]
theorem adH(h:ae (FY A a b H q ah r C s K t (ap Tryz.f79 0) a1 V X L M N Q R E F G S [.b ((G.length:Int) != 4) false,.l [] [91,90,89,3] [3] (ap Tryz.f79 1) (ua M N Q R E F G S 0) .ret (LK u)])):
 al 79 [.agg (bq A a b),.agg (aX H ah C K a1 V X L)] [ai u]:=
 h.of
def rA(A:af)(a:Int)(C E F G H ah K L:af):aF:=bf 121 [(3,aS 3),(100,du 2 A),(101,aU (A.length:Int)),(102,aU a)] [(3,[.J .free 5 C,.J .free 5 E,.J .free 5 F,.J .free 4 G,.J .free 1 H,.J .free 1 ah,.J .free 1 K,.J .free 2 L])]
def Em(q:Bool):aF:=bf 121 [(4,.aC (.one (.bg q)))] []
theorem adI(h:ae [.i A a [I b,B r],.r 64 [ag b,ag 0,ag 3] [ai q],.n q true]):
 aY (ap Tryz.f79 2) (rA A a C E F G H ah K L) .ret (Em false):=
 h.aT [4] []
def WM(A:af)(a b:Int)(q r:Bool)(C:af)(s:Bool)(l:List O):List O:=.i A a [I b,B q]::.r 64 [ag b,ag 0,ag 3] [ai r]::.n r false::.p ((0:Int)<=none.getD 0)::.p (none.getD 0<=(some a).getD (C.length:Int))::.p ((some a).getD (C.length:Int)<=(C.length:Int))::.r 82 [.one (.J 2 (List.take (((some a).getD (C.length:Int)).toNat-0) (List.drop 0 C))),ag b] [ai s]::l
theorem adJ(h:ae (WM C a b s q A r [.b r true])):
 aY (ap Tryz.f79 2) (rA C a E F G H ah K L A) .ret (Em false):=
 h.aT [4] []
theorem adK(h:ae (WM C a b s q A r [.b r false,.u a])):
 aY (ap Tryz.f79 2) (rA C a E F G H ah K L A) .normal (rA C (a+1) E F G H ah K L A):=
 h.aT [102,101,100,3] [3]
def LM:aF:=bf 121 [] []
theorem adL(h:ae [.f A a false]):
 aY (ap Tryz.f79 2) (rA A a C E F G H ah K L) (.exit 4) LM:=
 h.aT [] []
theorem adM(h:ae (FY G a b N q Q r M s R t (ap Tryz.f79 0) a1 V X S H ah K L A C E F [.b ((E.length:Int) != 4) false,.l [] [91,90,89,3] [3] (ap Tryz.f79 1) (ua H ah K L A C E F 0) (.exit 2) (LL H ah K L A C E F),.l [] [102,101,100,3] [3] (ap Tryz.f79 2) (rA F 0 H ah K L A C E F) .ret (Em u)])):
 al 79 [.agg (bq G a b),.agg (aX N Q M R a1 V X S)] [ai u]:=
 h.of
theorem adN(h:ae (FY G a b N q Q r M s R t (ap Tryz.f79 0) a1 V X S H ah K L A C E F [.b ((E.length:Int) != 4) false,.l [] [91,90,89,3] [3] (ap Tryz.f79 1) (ua H ah K L A C E F 0) (.exit 2) (LL H ah K L A C E F),.l [] [102,101,100,3] [3] (ap Tryz.f79 2) (rA F 0 H ah K L A C E F) (.exit 4) LM])):
 al 79 [.agg (bq G a b),.agg (aX N Q M R a1 V X S)] [ai true]:=
 h.of
def vw(a:Int)(A:af)(b c d e f:Int):aF:=bf 70 [(1,aS 1),(3,aU f)] [(1,[au a,.J .free 5 A,au b,au c,au d,au e])]
def LN(q:Bool):aF:=bf 70 [(2,.aC (.one (.bg q)))] []
theorem adO(h:ae (BS A c d e f a b q [.n q true])):
 aY (ap Tryz.f140 0) (vw g A i j k l c) .ret (LN false):=
 h.aT [2] []
theorem adP(h:ae (BS A a j k l c d q [.n q false,.u a])):
 aY (ap Tryz.f140 0) (vw b A e f g i a) .normal (vw b A e f g i (a+1)):=
 h.aT [3,1] [1]
def Pu(a:Int)(A:af)(b c d e:Int):aF:=bf 70 [(1,aS 1)] [(1,[au a,.J .free 5 A,au b,au c,au d,au e])]
theorem adQ(h:ae [.f A f false]):
 aY (ap Tryz.f140 0) (vw a A b c d e f) (.exit 0) (Pu a A b c d e):=
 h.aT [1] [1]
theorem adR(h:ae [.l [] [3,1] [1] (ap Tryz.f140 0) (vw a A b c d e 0) .ret (LN q)]):
 al 140 [.agg (bT a A b c d e)] [ai q]:=
 h.of
def WR(W:Code)(a:Int)(A:af)(b c d e:Int)(q:Bool)(l:List O):List O:=.l [] [3,1] [1] W (vw a A b c d e 0) (.exit 0) (Pu a A b c d e)::.r 65 [ag a,ag 1,ag 4] [ai q]::l
def WS(W:Code)(a:Int)(A:af)(b c d e:Int)(q r:Bool)(l:List O):List O:=WR W a A b c d e q (.b q true::.r 65 [ag b,ag 0,ag a] [ai r]::l)
def WT(W:Code)(a:Int)(A:af)(b c d e:Int)(q r s:Bool)(l:List O):List O:=WS W a A b c d e q r (.b r true::.r 65 [ag c,ag 0,ag a] [ai s]::l)
def F5(W:Code)(a:Int)(A:af)(b c d e:Int)(q r s:Bool)(l:List O):List O:=WT W a A b c d e q r s (.b s true::.v (b+c)::.v (b+c+(A.length:Int))::l)
def Nl(W:Code)(a:Int)(A:af)(b c d e:Int)(q r s t:Bool)(l:List O):List O:=F5 W a A b c d e q r s (.b (b+c+(A.length:Int)==a) true::.r 65 [ag d,ag 0,ag 1000000000] [ai t]::l)
theorem adS(h:ae (Nl (ap Tryz.f140 0) a A b c d e q r s t [.b t true,.v (d-(A.length:Int)),.b (e==d-(A.length:Int)) true])):
 al 140 [.agg (bT a A b c d e)] [ai (decide (e>=0))]:=
 h.of
theorem adT(h:ae (Nl (ap Tryz.f140 0) a A b c d e q r s t [.b t true,.v (d-(A.length:Int)),.b (e==d-(A.length:Int)) false])):
 al 140 [.agg (bT a A b c d e)] [ai false]:=
 h.of
theorem adU(h:ae (Nl (ap Tryz.f140 0) a A b c d e q r s t [.b t false])):
 al 140 [.agg (bT a A b c d e)] [ai false]:=
 h.of
theorem adV(h:ae (F5 (ap Tryz.f140 0) a A b c d e q r s [.b (b+c+(A.length:Int)==a) false])):
 al 140 [.agg (bT a A b c d e)] [ai false]:=
 h.of
theorem adW(h:ae (WT (ap Tryz.f140 0) a A b c d e q r s [.b s false])):
 al 140 [.agg (bT a A b c d e)] [ai false]:=
 h.of
theorem adX(h:ae (WS (ap Tryz.f140 0) a A b c d e q r [.b r false])):
 al 140 [.agg (bT a A b c d e)] [ai false]:=
 h.of
theorem adY(h:ae (WR (ap Tryz.f140 0) a A b c d e q [.b q false])):
 al 140 [.agg (bT a A b c d e)] [ai false]:=
 h.of
def W5(a:Int)(q:Bool)(l:List O):List O:=.r 64 [ag a,ag 1,ag 4] [ai q]::l
theorem adZ(h:ae (W5 a q [.n q true])):
 al 80 [.agg (bT a A b c d e)] [ai false]:=
 h.of
def W6(a:Int)(q:Bool)(b:Int)(r:Bool)(l:List O):List O:=W5 a q (.n q false::.r 64 [ag b,ag 0,ag a] [ai r]::l)
theorem ad0(h:ae (W6 a q b r [.n r true])):
 al 80 [.agg (bT a A b c d e)] [ai false]:=
 h.of
def W7(a:Int)(q:Bool)(b:Int)(r:Bool)(c:Int)(s:Bool)(l:List O):List O:=W6 a q b r (.n r false::.r 64 [ag c,ag 0,ag a] [ai s]::l)
theorem ad1(h:ae (W7 a q b r c s [.n s true])):
 al 80 [.agg (bT a A b c d e)] [ai false]:=
 h.of
def W8(a:Int)(q:Bool)(b:Int)(r:Bool)(c:Int)(s:Bool)(A:af)(l:List O):List O:=W7 a q b r c s (.n s false::.v (b+c)::.v (b+c+(A.length:Int))::l)
theorem ads(h:ae (W8 a q b r c s A [.b (b+c+(A.length:Int) != a) true])):
 al 80 [.agg (bT a A b c d e)] [ai false]:=
 h.of
def F6(a:Int)(q:Bool)(b:Int)(r:Bool)(c:Int)(s:Bool)(A:af)(d:Int)(t:Bool)(l:List O):List O:=W8 a q b r c s A (.b (b+c+(A.length:Int) != a) false::.r 64 [ag d,ag 0,ag 1000000000] [ai t]::l)
theorem adt(h:ae (F6 a q b r c s A d t [.n t true])):
 al 80 [.agg (bT a A b c d e)] [ai false]:=
 h.of
theorem adu(h:ae (F6 a q b r c s A d t [.n t false,.b (decide (e<0)) true])):
 al 80 [.agg (bT a A b c d e)] [ai false]:=
 h.of
theorem adv(h:ae (F6 a q b r c s A d t [.n t false,.b (decide (e<0)) false,.v (d-e),.b (d-e != (A.length:Int)) true])):
 al 80 [.agg (bT a A b c d e)] [ai false]:=
 h.of
theorem adw(h:ae (F6 a r b s c t A d u [.n u false,.b (decide (e<0)) false,.v (d-e),.b (d-e != (A.length:Int)) false,.r 130 [aO 5 A] [ai q]])):
 al 80 [.agg (bT a A b c d e)] [ai q]:=
 h.of
def v'(A:af)(a:Int):aF:=bf 15 [(5,du 5 A),(6,aU (A.length:Int)),(7,aU a)] []
def LO(q:Bool):aF:=bf 15 [(2,.aC (.one (.bg q)))] []
theorem adx(h:ae (BU A a b c d e f q [.n q true])):
 aY (ap Tryz.f130 0) (v' A a) .ret (LO false):=
 h.aT [2] []
theorem ady(h:ae (BU A a b c d e f q [.n q false,.u a])):
 aY (ap Tryz.f130 0) (v' A a) .normal (v' A (a+1)):=
 h.aT [7,6,5] []
def Ss:aF:=bf 15 [] []
theorem adz(h:ae [.f A a false]):
 aY (ap Tryz.f130 0) (v' A a) (.exit 0) Ss:=
 h.aT [] []
theorem adA(h:ae [.l [] [7,6,5] [] (ap Tryz.f130 0) (v' A 0) .ret (LO q)]):
 al 130 [aO 5 A] [ai q]:=
 h.of
theorem adB(h:ae [.l [] [7,6,5] [] (ap Tryz.f130 0) (v' A 0) (.exit 0) Ss]):
 al 130 [aO 5 A] [ai true]:=
 h.of
def Nn(A:af)(a b:Int)(q:Bool)(l:List O):List O:=.r 138 [.agg (bq A a b)] [ai q]::l
theorem ae2(h:ae (Nn A a b q [.n q true])):
 al 84 [.agg (a8 A a b C E F G)] [ai false]:=
 h.of
theorem ae3(h:ae (Nn A a b q [.n q false,.b ((C.length:Int) != a) true])):
 al 84 [.agg (a8 A a b C E F G)] [ai false]:=
 h.of
def W9(A:af)(a b:Int)(q:Bool)(C:af)(l:List O):List O:=Nn A a b q (.n q false::.b ((C.length:Int) != a) false::.v (a*a)::l)
theorem ae4(h:ae (W9 A a b q C [.b ((E.length:Int) != a*a) true])):
 al 84 [.agg (a8 A a b C E F G)] [ai false]:=
 h.of
def W'(A:af)(a b:Int)(q:Bool)(C E:af)(l:List O):List O:=W9 A a b q C (.b ((E.length:Int) != a*a) false::l)
theorem ae5(h:ae (W' A a b q C E [.b ((F.length:Int) != 4) true])):
 al 84 [.agg (a8 A a b C E F G)] [ai false]:=
 h.of
def sH(A:af)(a b:Int)(C E F G:af)(c:Int):aF:=bf 170 [(1,aS 1),(3,aU a),(4,aU c)] [(1,[.J .free 4 A,au a,au b,.J .free 8 C,.J .free 6 E,.J .free 5 F,.J .free 3 G])]
def En(q:Bool):aF:=bf 170 [(2,.aC (.one (.bg q)))] []
theorem ae6(h:ae [.b (decide (b<a)) true,.x L b (aX M C E F G H ah K),.r 139 [.agg (bq A a c),.agg (aX M C E F G H ah K)] [ai q],.n q true]):
 aY (ap Tryz.f84 0) (sH A a c L N Q R b) .ret (En false):=
 h.aT [2] []
theorem ae7(h:ae [.b (decide (a<b)) true,.x C a (aX R E F G H ah K L),.r 139 [.agg (bq A b c),.agg (aX R E F G H ah K L)] [ai q],.n q false,.u a]):
 aY (ap Tryz.f84 0) (sH A b c C M N Q a) .normal (sH A b c C M N Q (a+1)):=
 h.aT [4,3,1] [1]
def IW(A:af)(a b:Int)(C E F G:af):aF:=bf 170 [(1,aS 1),(3,aU a)] [(1,[.J .free 4 A,au a,au b,.J .free 8 C,.J .free 6 E,.J .free 5 F,.J .free 3 G])]
theorem ae8(h:ae [.b (decide (c<a)) false]):
 aY (ap Tryz.f84 0) (sH A a b C E F G c) (.exit 0) (IW A a b C E F G):=
 h.aT [1,3] [1]
def Xh(A:af)(a b:Int)(q:Bool)(C E F:af)(l:List O):List O:=W' A a b q C E (.b ((F.length:Int) != 4) false::l)
theorem ae9(h:ae (Xh A a b q C E F [.l [] [4,3,1] [1] (ap Tryz.f84 0) (sH A a b C E F G 0) .ret (En r)])):
 al 84 [.agg (a8 A a b C E F G)] [ai r]:=
 h.of
def l'(a b:Int)(A:af)(c d:Int)(C E F G:af):aF:=bf 170 [(1,aS 1),(3,aU a),(5,aU b)] [(1,[.J .free 4 A,au c,au d,.J .free 8 C,.J .free 6 E,.J .free 5 F,.J .free 3 G])]
def xL(q:Bool):aF:=bf 170 [(2,.aC (.one (.bg q)))] []
def Nx(A:af)(a b:Int)(C:af)(c d e f:Int)(q:Bool)(l:List O):List O:=.i A a (bT b C c d e f)::.r 140 [.agg (bT b C c d e f)] [ai q]::l
theorem afa(h:ae (Nx A f a C b c d e q [.n q true])):
 aY (ap Tryz.f84 1) (l' g f H i j E A F G) .ret (xL false):=
 h.aT [2] []
theorem afb(h:ae (Nx A g a C c d e f q [.n q false,.b (a != b) true])):
 aY (ap Tryz.f84 1) (l' i g H j b E A F G) .ret (xL false):=
 h.aT [2] []
def F'(A:af)(a b:Int)(C:af)(c d e f:Int)(q:Bool)(g:Int)(E:af)(i:Int)(r:Bool)(l:List O):List O:=Nx A a b C c d e f q (.n q false::.b (b != g) false::.r 141 [.agg (bq E i g),aO 5 C] [ai r]::l)
theorem afc(h:ae (F' C i b A d e f g q a E c r [.n r true])):
 aY (ap Tryz.f84 1) (l' j i E c a F C G H) .ret (xL false):=
 h.aT [2] []
theorem afd(h:ae (F' C b d A f g i j q c E e r [.n r false,.p (a≠0),.v (b.tdiv a),.p (a≠0),.b (b.tdiv a==b.tmod a) true,.b (decide ((A.length:Int)>0)) true])):
 aY (ap Tryz.f84 1) (l' a b E e c F C G H) .ret (xL false):=
 h.aT [2] []
theorem afe(h:ae (F' C b e A f g i j q c E d r [.n r false,.p (a≠0),.v (b.tdiv a),.p (a≠0),.b (b.tdiv a==b.tmod a) true,.b (decide ((A.length:Int)>0)) false,.u b])):
 aY (ap Tryz.f84 1) (l' a b E d c F C G H) .normal (l' a (b+1) E d c F C G H):=
 h.aT [5,1,3] [1]
theorem aff(h:ae (F' A b e C f g i j q c E d r [.n r false,.p (a≠0),.v (b.tdiv a),.p (a≠0),.b (b.tdiv a==b.tmod a) false,.u b])):
 aY (ap Tryz.f84 1) (l' a b E d c F A G H) .normal (l' a (b+1) E d c F A G H):=
 h.aT [5,1,3] [1]
def Ar(a:Int)(A:af)(b c:Int)(C E F G:af):aF:=bf 170 [(1,aS 1),(3,aU a)] [(1,[.J .free 4 A,au b,au c,.J .free 8 C,.J .free 6 E,.J .free 5 F,.J .free 3 G])]
theorem afg(h:ae [.f A d false]):
 aY (ap Tryz.f84 1) (l' a d G b c C A E F) (.exit 2) (Ar a G b c C A E F):=
 h.aT [1,3] [1]
def F9(A:af)(a b:Int)(q:Bool)(C E F:af)(W:Code)(G:af)(l:List O):List O:=Xh A a b q C E F (.l [] [4,3,1] [1] W (sH A a b C E F G 0) (.exit 0) (IW A a b C E F G)::l)
theorem afh(h:ae (F9 A a b q C E F (ap Tryz.f84 0) G [.l [] [5,1,3] [1] (ap Tryz.f84 1) (l' a 0 A a b C E F G) .ret (xL r)])):
 al 84 [.agg (a8 A a b C E F G)] [ai r]:=
 h.of
def mE(a:Int)(A:af)(b c:Int)(C E F G:af)(d:Int):aF:=bf 170 [(1,aS 1),(3,aU a),(7,aU d)] [(1,[.J .free 4 A,au b,au c,.J .free 8 C,.J .free 6 E,.J .free 5 F,.J .free 3 G])]
def wa(q:Bool):aF:=bf 170 [(2,.aC (.one (.bg q)))] []
def Xi(A:af)(a:Int)(q:Bool)(b c:Int)(r s:Bool)(d:Int)(l:List O):List O:=.i A a [B q,I b,I c,B r,B s]::.v (d-1)::l
def Xj(A:af)(a:Int)(q:Bool)(b c:Int)(r s:Bool)(d:Int)(t:Bool)(l:List O):List O:=Xi A a q b c r s d (.r 65 [ag b,ag 0,ag (d-1)] [ai t]::l)
theorem afi(h:ae (Xj A b r c e s t a q [.n q true])):
 aY (ap Tryz.f84 2) (mE a G f d C E A F b) .ret (wa false):=
 h.aT [2] []
def B1(A:af)(a:Int)(q:Bool)(b c:Int)(r s:Bool)(d:Int)(t u:Bool)(e f:Int)(v w:Bool)(l:List O):List O:=Xj A a q b c r s d t (.n t false::.x A a [B u,I e,I f,B v,B w]::l)
theorem afj(h:ae (B1 A a s c f t u b q r g i v w [.n r true,.x A a [B x,I d,I j,B y,B z],.b (d != 0) true])):
 aY (ap Tryz.f84 2) (mE b G k e C E A F a) .ret (wa false):=
 h.aT [2] []
theorem afk(h:ae (B1 A a t c g u v b q r i j w x [.n r true,.x A a [B y,I d,I k,B z,B f'],.b (d != 0) false,.x A a [B hn,I l,I e,B gu,B t0],.r 65 [ag e,ag (-1000000),ag 1000000] [ai s],.n s true])):
 aY (ap Tryz.f84 2) (mE b G m f C E A F a) .ret (wa false):=
 h.aT [2] []
theorem afl(h:ae (B1 A a t d i u v b q r j k w x [.n r true,.x A a [B y,I e,I l,B z,B f'],.b (e != 0) false,.x A a [B hn,I m,I f,B gu,B t0],.r 65 [ag f,ag (-1000000),ag 1000000] [ai s],.n s false,.u a])):
 aY (ap Tryz.f84 2) (mE b G g c C E A F a) .normal (mE b G g c C E A F (a+1)):=
 h.aT [7,1,3] [1]
theorem afm(h:ae (B1 A a t c f u v b q r g i w x [.n r false,.x A a [B y,I j,I d,B z,B f'],.r 65 [ag d,ag (-1000000),ag 1000000] [ai s],.n s true])):
 aY (ap Tryz.f84 2) (mE b G k e C E A F a) .ret (wa false):=
 h.aT [2] []
theorem afn(h:ae (B1 A a t d g u v b q r i j w x [.n r false,.x A a [B y,I k,I e,B z,B f'],.r 65 [ag e,ag (-1000000),ag 1000000] [ai s],.n s false,.u a])):
 aY (ap Tryz.f84 2) (mE b G f c C E A F a) .normal (mE b G f c C E A F (a+1)):=
 h.aT [7,1,3] [1]
def Eo(a:Int)(A:af)(b c:Int)(C E F G:af):aF:=bf 170 [(1,aS 1),(3,aU a)] [(1,[.J .free 4 A,au b,au c,.J .free 8 C,.J .free 6 E,.J .free 5 F,.J .free 3 G])]
theorem afo(h:ae [.f A c false]):
 aY (ap Tryz.f84 2) (mE a G d b C E A F c) (.exit 4) (Eo a G d b C E A F):=
 h.aT [1,3] [1]
theorem afp(h:ae (F9 A a b r C E F (ap Tryz.f84 0) G [.l [] [5,1,3] [1] (ap Tryz.f84 1) (l' a 0 A a b C E F G) (.exit 2) (Ar a M d c H ah K L),.l [] [7,1,3] [1] (ap Tryz.f84 2) (mE a M d c H ah K L 0) .ret (wa q)])):
 al 84 [.agg (a8 A a b C E F G)] [ai q]:=
 h.of
def rB(a:Int)(A:af)(b c:Int)(C E F G:af)(d:Int):aF:=bf 170 [(1,aS 1),(3,aU a),(8,aU d)] [(1,[.J .free 4 A,au b,au c,.J .free 8 C,.J .free 6 E,.J .free 5 F,.J .free 3 G])]
def As(q:Bool):aF:=bf 170 [(2,.aC (.one (.bg q)))] []
theorem afq(h:ae [.i A b [I c,I e,B r],.v (a-1),.r 65 [ag c,ag 0,ag (a-1)] [ai q],.n q true]):
 aY (ap Tryz.f84 3) (rB a G f d C E F A b) .ret (As false):=
 h.aT [2] []
theorem afr(h:ae [.i A b [I c,I f,B s],.v (a-1),.r 65 [ag c,ag 0,ag (a-1)] [ai q],.n q false,.x A b [I g,I d,B t],.r 65 [ag d,ag 0,ag 3] [ai r],.n r true]):
 aY (ap Tryz.f84 3) (rB a G i e C E F A b) .ret (As false):=
 h.aT [2] []
theorem aeC(h:ae [.i A a [I d,I g,B s],.v (b-1),.r 65 [ag d,ag 0,ag (b-1)] [ai q],.n q false,.x A a [I i,I e,B t],.r 65 [ag e,ag 0,ag 3] [ai r],.n r false,.u a]):
 aY (ap Tryz.f84 3) (rB b G f c C E F A a) .normal (rB b G f c C E F A (a+1)):=
 h.aT [8,1,3] [1]
def LP:aF:=bf 170 [] []
theorem aeD(h:ae [.f A a false]):
 aY (ap Tryz.f84 3) (rB b G d c C E F A a) (.exit 6) LP:=
 h.aT [] []
theorem aeE(h:ae (F9 A a b r C E F (ap Tryz.f84 0) L [.l [] [5,1,3] [1] (ap Tryz.f84 1) (l' a 0 A a b C E F L) (.exit 2) (Ar a M d c G H ah K),.l [] [7,1,3] [1] (ap Tryz.f84 2) (mE a M d c G H ah K 0) (.exit 4) (Eo a M d c G H ah K),.l [] [8,1,3] [1] (ap Tryz.f84 3) (rB a M d c G H ah K 0) .ret (As q)])):
 al 84 [.agg (a8 A a b C E F L)] [ai q]:=
 h.of
theorem aeF(h:ae (F9 A a b q C E F (ap Tryz.f84 0) L [.l [] [5,1,3] [1] (ap Tryz.f84 1) (l' a 0 A a b C E F L) (.exit 2) (Ar a M d c G H ah K),.l [] [7,1,3] [1] (ap Tryz.f84 2) (mE a M d c G H ah K 0) (.exit 4) (Eo a M d c G H ah K),.l [] [8,1,3] [1] (ap Tryz.f84 3) (rB a M d c G H ah K 0) (.exit 6) LP])):
 al 84 [.agg (a8 A a b C E F L)] [ai true]:=
 h.of
def Nz(A:af)(a b:Int)(q:Bool)(l:List O):List O:=.r 78 [.agg (bq A a b)] [ai q]::l
theorem aeG(h:ae (Nz A a b q [.n q true])):
 al 41 [.agg (a8 A a b C E F G)] [ai false]:=
 h.of
theorem aeH(h:ae (Nz A a b q [.n q false,.b ((C.length:Int) != a) true])):
 al 41 [.agg (a8 A a b C E F G)] [ai false]:=
 h.of
def Xk(A:af)(a b:Int)(q:Bool)(C:af)(l:List O):List O:=Nz A a b q (.n q false::.b ((C.length:Int) != a) false::.v (a*a)::l)
theorem aeI(h:ae (Xk A a b q C [.b ((E.length:Int) != a*a) true])):
 al 41 [.agg (a8 A a b C E F G)] [ai false]:=
 h.of
def Xl(A:af)(a b:Int)(q:Bool)(C E:af)(l:List O):List O:=Xk A a b q C (.b ((E.length:Int) != a*a) false::l)
theorem aeJ(h:ae (Xl A a b q C E [.b ((F.length:Int) != 4) true])):
 al 41 [.agg (a8 A a b C E F G)] [ai false]:=
 h.of
def sI(a:Int)(A:af)(b:Int)(C:af)(c d:Int)(E F G H:af):aF:=bf 147 [(1,aS 1),(3,aU a),(42,du 8 A),(43,aU (A.length:Int)),(44,aU b)] [(1,[.J .free 4 C,au c,au d,.J .free 8 E,.J .free 6 F,.J .free 5 G,.J .free 3 H])]
def Ep(q:Bool):aF:=bf 147 [(2,.aC (.one (.bg q)))] []
theorem aeK(h:ae [.i L c (aX A C E F G H ah K),.r 79 [.agg (bq M a b),.agg (aX A C E F G H ah K)] [ai q],.n q true]):
 aY (ap Tryz.f41 0) (sI d L c M a b N Q R S) .ret (Ep false):=
 h.aT [2] []
theorem aeL(h:ae [.i A a (aX ah K L M N Q R S),.r 79 [.agg (bq C b c),.agg (aX ah K L M N Q R S)] [ai q],.n q false,.u a]):
 aY (ap Tryz.f41 0) (sI d A a C b c E F G H) .normal (sI d A (a+1) C b c E F G H):=
 h.aT [44,43,42,1,3] [1]
def IX(a:Int)(A:af)(b c:Int)(C E F G:af):aF:=bf 147 [(1,aS 1),(3,aU a)] [(1,[.J .free 4 A,au b,au c,.J .free 8 C,.J .free 6 E,.J .free 5 F,.J .free 3 G])]
theorem aeM(h:ae [.f G d false]):
 aY (ap Tryz.f41 0) (sI a G d H b c A C E F) (.exit 0) (IX a H b c A C E F):=
 h.aT [1,3] [1]
def Xm(A:af)(a b:Int)(q:Bool)(C E F:af)(l:List O):List O:=Xl A a b q C E (.b ((F.length:Int) != 4) false::l)
theorem aeN(h:ae (Xm C a b q A E F [.l [] [44,43,42,1,3] [1] (ap Tryz.f41 0) (sI a A 0 C a b A E F G) .ret (Ep r)])):
 al 41 [.agg (a8 C a b A E F G)] [ai r]:=
 h.of
def ma(a:Int)(A:af)(b:Int)(C:af)(c d:Int)(E F G H:af):aF:=bf 147 [(1,aS 1),(3,aU a),(55,du 6 A),(56,aU (A.length:Int)),(57,aU b)] [(1,[.J .free 4 C,au c,au d,.J .free 8 E,.J .free 6 F,.J .free 5 G,.J .free 3 H])]
def xM(q:Bool):aF:=bf 147 [(2,.aC (.one (.bg q)))] []
def Ny(A:af)(a b:Int)(C:af)(c d e f:Int)(q:Bool)(l:List O):List O:=.i A a (bT b C c d e f)::.r 80 [.agg (bT b C c d e f)] [ai q]::l
theorem aeO(h:ae (Ny A a b C c d e f q [.n q true])):
 aY (ap Tryz.f41 1) (ma g A a E i j F G H ah) .ret (xM false):=
 h.aT [2] []
theorem aeP(h:ae (Ny A b a C d e f g q [.n q false,.b (a != c) true])):
 aY (ap Tryz.f41 1) (ma i A b E j c F G H ah) .ret (xM false):=
 h.aT [2] []
def Ga(A:af)(a b:Int)(C:af)(c d e f:Int)(q:Bool)(g:Int)(E:af)(i:Int)(r:Bool)(l:List O):List O:=Ny A a b C c d e f q (.n q false::.b (b != g) false::.r 81 [.agg (bq E i g),aO 5 C] [ai r]::l)
theorem aeQ(h:ae (Ga C c b A e f g i q a E d r [.n r true])):
 aY (ap Tryz.f41 1) (ma j C c E d a F G H ah) .ret (xM false):=
 h.aT [2] []
theorem aeR(h:ae (Ga C b d A f g i j q c E e r [.n r false,.p (a≠0),.v (b.tdiv a),.p (a≠0),.b (b.tdiv a==b.tmod a) true,.b (decide ((A.length:Int)>0)) true])):
 aY (ap Tryz.f41 1) (ma a C b E e c F G H ah) .ret (xM false):=
 h.aT [2] []
theorem aeS(h:ae (Ga C b e A f g i j q c E d r [.n r false,.p (a≠0),.v (b.tdiv a),.p (a≠0),.b (b.tdiv a==b.tmod a) true,.b (decide ((A.length:Int)>0)) false,.u b])):
 aY (ap Tryz.f41 1) (ma a C b E d c F G H ah) .normal (ma a C (b+1) E d c F G H ah):=
 h.aT [57,56,55,1,3] [1]
theorem aeT(h:ae (Ga A b e E f g i j q c C d r [.n r false,.p (a≠0),.v (b.tdiv a),.p (a≠0),.b (b.tdiv a==b.tmod a) false,.u b])):
 aY (ap Tryz.f41 1) (ma a A b C d c F G H ah) .normal (ma a A (b+1) C d c F G H ah):=
 h.aT [57,56,55,1,3] [1]
def At(a:Int)(A:af)(b c:Int)(C E F G:af):aF:=bf 147 [(1,aS 1),(3,aU a)] [(1,[.J .free 4 A,au b,au c,.J .free 8 C,.J .free 6 E,.J .free 5 F,.J .free 3 G])]
theorem aeU(h:ae [.f A b false]):
 aY (ap Tryz.f41 1) (ma a A b C c d E F G H) (.exit 2) (At a C c d E F G H):=
 h.aT [1,3] [1]
def Gb(A:af)(a b:Int)(q:Bool)(C E F:af)(W:Code)(G H:af)(c d:Int)(ah K L M:af)(l:List O):List O:=Xm A a b q C E F (.l [] [44,43,42,1,3] [1] W (sI a C 0 A a b C E F G) (.exit 0) (IX a H c d ah K L M)::l)
theorem aeV(h:ae (Gb C a b r A F G (ap Tryz.f41 0) L M d c H E ah K [.l [] [57,56,55,1,3] [1] (ap Tryz.f41 1) (ma a E 0 M d c H E ah K) .ret (xM q)])):
 al 41 [.agg (a8 C a b A F G L)] [ai q]:=
 h.of
def mF(a:Int)(A:af)(b:Int)(C:af)(c d:Int)(E F G H:af):aF:=bf 147 [(1,aS 1),(3,aU a),(98,du 5 A),(99,aU (A.length:Int)),(100,aU b)] [(1,[.J .free 4 C,au c,au d,.J .free 8 E,.J .free 6 F,.J .free 5 G,.J .free 3 H])]
def wb(q:Bool):aF:=bf 147 [(2,.aC (.one (.bg q)))] []
def yA(A:af)(a:Int)(q:Bool)(b c:Int)(r s:Bool)(d:Int)(t:Bool)(l:List O):List O:=Xi A a q b c r s d (.r 64 [ag b,ag 0,ag (d-1)] [ai t]::l)
theorem aeW(h:ae (yA A b r c f s t a q [.n q true])):
 aY (ap Tryz.f41 2) (mF a A b C d e E F G H) .ret (wb false):=
 h.aT [2] []
theorem aeX(h:ae (yA A c q b f s t a r [.n r false,.n q true,.b (b != 0) true])):
 aY (ap Tryz.f41 2) (mF a A c C d e E F G H) .ret (wb false):=
 h.aT [2] []
theorem aeY(h:ae (yA A c q b d t u a r [.n r false,.n q true,.b (b != 0) false,.r 64 [ag d,ag (-1000000),ag 1000000] [ai s],.n s true])):
 aY (ap Tryz.f41 2) (mF a A c C e f E F G H) .ret (wb false):=
 h.aT [2] []
theorem aeZ(h:ae (yA A b q c f t u a r [.n r false,.n q true,.b (c != 0) false,.r 64 [ag f,ag (-1000000),ag 1000000] [ai s],.n s false,.u b])):
 aY (ap Tryz.f41 2) (mF a A b C d e E F G H) .normal (mF a A (b+1) C d e E F G H):=
 h.aT [100,99,98,3,1] [1]
theorem ae0(h:ae (yA A b q c d t u a r [.n r false,.n q false,.r 64 [ag d,ag (-1000000),ag 1000000] [ai s],.n s true])):
 aY (ap Tryz.f41 2) (mF a A b C e f E F G H) .ret (wb false):=
 h.aT [2] []
theorem ae1(h:ae (yA A b q e f t u a r [.n r false,.n q false,.r 64 [ag f,ag (-1000000),ag 1000000] [ai s],.n s false,.u b])):
 aY (ap Tryz.f41 2) (mF a A b C c d E F G H) .normal (mF a A (b+1) C c d E F G H):=
 h.aT [100,99,98,3,1] [1]
def Er(a:Int)(A:af)(b c:Int)(C E F G:af):aF:=bf 147 [(1,aS 1),(3,aU a)] [(1,[.J .free 4 A,au b,au c,.J .free 8 C,.J .free 6 E,.J .free 5 F,.J .free 3 G])]
theorem aes(h:ae [.f A b false]):
 aY (ap Tryz.f41 2) (mF a A b C c d E F G H) (.exit 4) (Er a C c d E F G H):=
 h.aT [1,3] [1]
theorem aet(h:ae (Gb C a b r A G H (ap Tryz.f41 0) S a1 f c ah E K L [.l [] [57,56,55,1,3] [1] (ap Tryz.f41 1) (ma a E 0 a1 f c ah E K L) (.exit 2) (At a M d e N Q F R),.l [] [100,99,98,3,1] [1] (ap Tryz.f41 2) (mF a F 0 M d e N Q F R) .ret (wb q)])):
 al 41 [.agg (a8 C a b A G H S)] [ai q]:=
 h.of
def rC(a:Int)(A:af)(b:Int):aF:=bf 147 [(3,aU a),(128,du 3 A),(129,aU (A.length:Int)),(130,aU b)] []
def Au(q:Bool):aF:=bf 147 [(2,.aC (.one (.bg q)))] []
theorem aeu(h:ae [.i A b [I c,I d,B r],.v (a-1),.r 64 [ag c,ag 0,ag (a-1)] [ai q],.n q true]):
 aY (ap Tryz.f41 3) (rC a A b) .ret (Au false):=
 h.aT [2] []
theorem aev(h:ae [.i A b [I c,I d,B s],.v (a-1),.r 64 [ag c,ag 0,ag (a-1)] [ai q],.n q false,.r 64 [ag d,ag 0,ag 3] [ai r],.n r true]):
 aY (ap Tryz.f41 3) (rC a A b) .ret (Au false):=
 h.aT [2] []
theorem aew(h:ae [.i A b [I c,I d,B s],.v (a-1),.r 64 [ag c,ag 0,ag (a-1)] [ai q],.n q false,.r 64 [ag d,ag 0,ag 3] [ai r],.n r false,.u b]):
 aY (ap Tryz.f41 3) (rC a A b) .normal (rC a A (b+1)):=
 h.aT [130,129,128,3] []
def LQ:aF:=bf 147 [] []
theorem aex(h:ae [.f A a false]):
 aY (ap Tryz.f41 3) (rC b A a) (.exit 6) LQ:=
 h.aT [] []
theorem aey(h:ae (Gb C a b r A G H (ap Tryz.f41 0) a1 V f c ah E K L [.l [] [57,56,55,1,3] [1] (ap Tryz.f41 1) (ma a E 0 V f c ah E K L) (.exit 2) (At a M d e N Q F R),.l [] [100,99,98,3,1] [1] (ap Tryz.f41 2) (mF a F 0 M d e N Q F R) (.exit 4) (Er a X g i Y Z c9 S),.l [] [130,129,128,3] [] (ap Tryz.f41 3) (rC a S 0) .ret (Au q)])):
 al 41 [.agg (a8 C a b A G H a1)] [ai q]:=
 h.of
theorem aez(h:ae (Gb C a b q A G H (ap Tryz.f41 0) a1 V f c ah E K L [.l [] [57,56,55,1,3] [1] (ap Tryz.f41 1) (ma a E 0 V f c ah E K L) (.exit 2) (At a M d e N Q F R),.l [] [100,99,98,3,1] [1] (ap Tryz.f41 2) (mF a F 0 M d e N Q F R) (.exit 4) (Er a X g i Y Z c9 S),.l [] [130,129,128,3] [] (ap Tryz.f41 3) (rC a S 0) (.exit 6) LQ])):
 al 41 [.agg (a8 C a b A G H a1)] [ai true]:=
 h.of
