import Derived.Test.YtdchjefneblpgaaGreatGE
set_option linter.unusedVariables false
set_option linter.unusedSimpArgs false
namespace Go.Proofs.YtdchjefneblpgaaGreat
open Go.Sx Go.RowKit
variable {a b c d e f g i j k l m n o p a0 bX cO d0 bu f0 : Int} {A C E F G H af K L M N Q R S bb V X Y Z c7 : ae} {q r s t u v w x y z gM gw ho t0 : Bool}
theorem aA8(h:ad [.b (decide (a<1)) true]):
 al 245 [ag b,ag a] [ag 0]:=
 h.of
def HD(a:Int)(l:List O):List O:=.b (decide (a<1)) false::.p (a≠0)::l
theorem aA9(h:ad (HD a [.b (decide (b.tmod a<0)) true,.v (b.tmod a+a)])):
 al 245 [ag b,ag a] [ag (b.tmod a+a)]:=
 h.of
theorem aBa(h:ad (HD a [.b (decide (b.tmod a<0)) false])):
 al 245 [ag b,ag a] [ag (b.tmod a)]:=
 h.of
theorem aBb(h:ad [.b (decide (a<1)) true]):
 al 147 [ag b,ag a] [ag 0]:=
 h.of
theorem aBc(h:ad (HD a [.b (decide (b.tmod a<0)) true,.v (b.tmod a+a)])):
 al 147 [ag b,ag a] [ag (b.tmod a+a)]:=
 h.of
theorem aBd(h:ad (HD a [.b (decide (b.tmod a<0)) false])):
 al 147 [ag b,ag a] [ag (b.tmod a)]:=
 h.of
def vx(A:ae)(a:Int):aJ:=bj 21 [(0,dO 4 A),(3,a6 a)] []
def Mp(q:Bool):aJ:=bj 21 [(2,.aI (.one (.bg q)))] []
def HJ(A:ae)(a b c d e f g i j:Int)(l:List O):List O:=.f A a true::.v (a-1)::.p (0<=a-1)::.p (a-1<(A.length:Int))::.e A ((a-1).toNat) [I b,I c,I d,I e]::.x A a [I f,I g,I i,I j]::l
theorem aBe(h:ad (HJ A a c d e f g i j k [.r 307 [.agg [I c,I d,I e,I f],.agg [I g,I i,I j,I k]] [ag b],.b (decide (b>=0)) true])):
 a7 (ar Tryz.f266 0) (vx A a) .ret (Mp false):=
 h.aY [2] []
theorem aBf(h:ad (HJ A a c d e f g i j k [.r 307 [.agg [I c,I d,I e,I f],.agg [I g,I i,I j,I k]] [ag b],.b (decide (b>=0)) false,.u a])):
 a7 (ar Tryz.f266 0) (vx A a) .normal (vx A (a+1)):=
 h.aY [3,0] []
def U2:aJ:=bj 21 [] []
theorem aBg(h:ad [.f A a false]):
 a7 (ar Tryz.f266 0) (vx A a) (.exit 0) U2:=
 h.aY [] []
theorem aBh(h:ad [.l [] [3,0] [] (ar Tryz.f266 0) (vx A 1) .ret (Mp q)]):
 al 266 [aC 4 A] [ai q]:=
 h.of
theorem aBi(h:ad [.l [] [3,0] [] (ar Tryz.f266 0) (vx A 1) (.exit 0) U2]):
 al 266 [aC 4 A] [ai true]:=
 h.of
def vy(A:ae)(a:Int):aJ:=bj 21 [(0,dO 4 A),(3,a6 a)] []
def Mq(q:Bool):aJ:=bj 21 [(2,.aI (.one (.bg q)))] []
theorem aBj(h:ad (HJ A a c d e f g i j k [.r 304 [.agg [I c,I d,I e,I f],.agg [I g,I i,I j,I k]] [ag b],.b (decide (b>=0)) true])):
 a7 (ar Tryz.f280 0) (vy A a) .ret (Mq false):=
 h.aY [2] []
theorem aBk(h:ad (HJ A a c d e f g i j k [.r 304 [.agg [I c,I d,I e,I f],.agg [I g,I i,I j,I k]] [ag b],.b (decide (b>=0)) false,.u a])):
 a7 (ar Tryz.f280 0) (vy A a) .normal (vy A (a+1)):=
 h.aY [3,0] []
def U3:aJ:=bj 21 [] []
theorem aBl(h:ad [.f A a false]):
 a7 (ar Tryz.f280 0) (vy A a) (.exit 0) U3:=
 h.aY [] []
theorem aBm(h:ad [.l [] [3,0] [] (ar Tryz.f280 0) (vy A 1) .ret (Mq q)]):
 al 280 [aC 4 A] [ai q]:=
 h.of
theorem aBn(h:ad [.l [] [3,0] [] (ar Tryz.f280 0) (vy A 1) (.exit 0) U3]):
 al 280 [aC 4 A] [ai true]:=
 h.of
def vz(A:ae)(a b:Int)(C:ae)(c:Int):aJ:=bj 29 [(1,dO 5 C),(2,aR 2),(5,a6 c)] [(2,[.J .free 4 A,au a,au b])]
def FB(q:Bool):aJ:=bj 29 [(4,.aI (.one (.bg q)))] []
def Dq(A:ae)(a b c d e f:Int)(q:Bool)(l:List O):List O:=.i A a (aS b c d e f)::.r 122 [.agg (aS b c d e f)] [ai q]::l
theorem aAy(h:ad (Dq A a b c d e f q [.n q true])):
 a7 (ar Tryz.f192 0) (vz C g i A a) .ret (FB false):=
 h.aY [4] []
theorem aAz(h:ad (Dq A a c d e f g q [.n q false,.x A a (aS b j k l m),.b (decide (b>=(C.length:Int))) true])):
 a7 (ar Tryz.f192 0) (vz C i n A a) .ret (FB false):=
 h.aY [4] []
theorem aAA(h:ad (Dq A a e f g i j q [.n q false,.x A a (aS c k l m n),.b (decide (c>=(C.length:Int))) false,.u a])):
 a7 (ar Tryz.f192 0) (vz C b d A a) .normal (vz C b d A (a+1)):=
 h.aY [5,1,2] [2]
def U4:aJ:=bj 29 [] []
theorem aAB(h:ad [.f A a false]):
 a7 (ar Tryz.f192 0) (vz C b c A a) (.exit 0) U4:=
 h.aY [] []
theorem aAC(h:ad [.l [] [5,1,2] [2] (ar Tryz.f192 0) (vz A a b C 0) .ret (FB q)]):
 al 192 [.agg (bA A a b),aC 5 C] [ai q]:=
 h.of
theorem aAD(h:ad [.l [] [5,1,2] [2] (ar Tryz.f192 0) (vz A a b C 0) (.exit 0) U4]):
 al 192 [.agg (bA A a b),aC 5 C] [ai true]:=
 h.of
def vA(A:ae)(a:Int)(C:ae)(b c:Int):aJ:=bj 24 [(2,aR 2),(7,dO 5 A),(8,a6 (A.length:Int)),(9,a6 a)] [(2,[.J .free 4 C,au b,au c])]
def FC(q:Bool):aJ:=bj 24 [(4,.aI (.one (.bg q)))] []
def Dr(A:ae)(a b c d e f:Int)(q:Bool)(l:List O):List O:=.i A a (aS b c d e f)::.r 180 [.agg (aS b c d e f)] [ai q]::l
theorem aAE(h:ad (Dr A d e f a b c q [.n q true])):
 a7 (ar Tryz.f189 0) (vA A d C g i) .ret (FC false):=
 h.aY [4] []
theorem aAF(h:ad (Dr A e a i b c d q [.n q false,.r 250 [.agg (bA C f g),ag a] [ai r],.n r true])):
 a7 (ar Tryz.f189 0) (vA A e C f g) .ret (FC false):=
 h.aY [4] []
theorem aAG(h:ad (Dr A a d i e f g q [.n q false,.r 250 [.agg (bA C b c),ag d] [ai r],.n r false,.u a])):
 a7 (ar Tryz.f189 0) (vA A a C b c) .normal (vA A (a+1) C b c):=
 h.aY [9,8,7,2] [2]
def U5:aJ:=bj 24 [] []
theorem aAH(h:ad [.f A a false]):
 a7 (ar Tryz.f189 0) (vA A a C b c) (.exit 0) U5:=
 h.aY [] []
theorem aAI(h:ad [.l [] [9,8,7,2] [2] (ar Tryz.f189 0) (vA C 0 A a b) .ret (FC q)]):
 al 189 [.agg (bA A a b),aC 5 C] [ai q]:=
 h.of
theorem aAJ(h:ad [.l [] [9,8,7,2] [2] (ar Tryz.f189 0) (vA C 0 A a b) (.exit 0) U5]):
 al 189 [.agg (bA A a b),aC 5 C] [ai true]:=
 h.of
def aam(A:ae)(a b:Int)(C:ae)(q:Bool)(l:List O):List O:=.r 192 [.agg (bA A a b),aC 5 C] [ai q]::l
theorem aAK(h:ad (aam A a b C q [.n q true])):
 al 175 [.agg (bA A a b),.agg (aW C F G H af K L E)] [ai false]:=
 h.of
def aan(A:ae)(a b:Int)(C:ae)(q:Bool)(E:ae)(r:Bool)(l:List O):List O:=aam A a b C q (.n q false::.r 192 [.agg (bA A a b),aC 5 E] [ai r]::l)
theorem aAL(h:ad (aan A a b C q E r [.n r true])):
 al 175 [.agg (bA A a b),.agg (aW C E G H af K L F)] [ai false]:=
 h.of
def aao(A:ae)(a b:Int)(C:ae)(q:Bool)(E:ae)(r:Bool)(F:ae)(s:Bool)(l:List O):List O:=aan A a b C q E r (.n r false::.r 192 [.agg (bA A a b),aC 5 F] [ai s]::l)
theorem aAM(h:ad (aao A a b C q E r F s [.n s true])):
 al 175 [.agg (bA A a b),.agg (aW C E F H af K L G)] [ai false]:=
 h.of
def P9(A:ae)(a b:Int)(C:ae)(q:Bool)(E:ae)(r:Bool)(F:ae)(s:Bool)(G:ae)(t:Bool)(l:List O):List O:=aao A a b C q E r F s (.n s false::.r 266 [aC 4 G] [ai t]::l)
theorem aAN(h:ad (P9 A a b C q E r F s G t [.n t true])):
 al 175 [.agg (bA A a b),.agg (aW C E F G af K L H)] [ai false]:=
 h.of
theorem aAO(h:ad (P9 A a b C q E r F s G t [.n t false,.b ((H.length:Int) != 4) true])):
 al 175 [.agg (bA A a b),.agg (aW C E F G H K L af)] [ai false]:=
 h.of
def aap(A:ae)(a b:Int)(C:ae)(q:Bool)(E:ae)(r:Bool)(F:ae)(s:Bool)(G:ae)(t:Bool)(H:ae)(l:List O):List O:=P9 A a b C q E r F s G t (.n t false::.b ((H.length:Int) != 4) false::l)
theorem aAP(h:ad (aap A a b C q E r F s G t H [.b ((af.length:Int) != 4) true])):
 al 175 [.agg (bA A a b),.agg (aW C E F G H af L K)] [ai false]:=
 h.of
def P'(A:ae)(a b:Int)(C:ae)(q:Bool)(E:ae)(r:Bool)(F:ae)(s:Bool)(G:ae)(t:Bool)(H af:ae)(l:List O):List O:=aap A a b C q E r F s G t H (.b ((af.length:Int) != 4) false::l)
theorem aAQ(h:ad (P' A a b C q E r F s G t H af [.b ((K.length:Int) != 4) true])):
 al 175 [.agg (bA A a b),.agg (aW C E F G H af K L)] [ai false]:=
 h.of
def px(A C E F G H af K:ae)(a:Int):aJ:=bj 147 [(3,aR 3),(5,a6 4),(6,a6 a)] [(3,[.J .free 5 A,.J .free 5 C,.J .free 5 E,.J .free 4 F,.J .free 1 G,.J .free 1 H,.J .free 1 af,.J .free 2 K])]
def Cu(q:Bool):aJ:=bj 147 [(4,.aI (.one (.bg q)))] []
theorem aAR(h:ad [.i A a (aS b c d e f),.b (b != 0) true]):
 a7 (ar Tryz.f175 0) (px E F A G H af K C a) .ret (Cu false):=
 h.aY [4] []
def vZ(A:ae)(a b c d e f:Int)(l:List O):List O:=.i A a (aS b c d e f)::.b (b != 0) false::l
theorem aAS(h:ad (vZ A a b d e f g [.x A a (aS i j c k l),.b (c != 0) true])):
 a7 (ar Tryz.f175 0) (px E F A G H af K C a) .ret (Cu false):=
 h.aY [4] []
theorem aAT(h:ad (vZ A a b f g i j [.x A a (aS k l c m n),.b (c != 0) false,.b (decide (a>0)) true,.v (a-1),.p (0<=a-1),.p (a-1<(A.length:Int)),.e A ((a-1).toNat) (aS o d p a0 bX),.x A a (aS cO e d0 bu f0),.b (decide (d>e)) true])):
 a7 (ar Tryz.f175 0) (px E F A G H af K C a) .ret (Cu false):=
 h.aY [4] []
theorem aAU(h:ad (vZ A a b f g i j [.x A a (aS k l c m n),.b (c != 0) false,.b (decide (a>0)) true,.v (a-1),.p (0<=a-1),.p (a-1<(A.length:Int)),.e A ((a-1).toNat) (aS o d p a0 bX),.x A a (aS cO e d0 bu f0),.b (decide (d>e)) false,.u a])):
 a7 (ar Tryz.f175 0) (px E F A G H af K C a) .normal (px E F A G H af K C (a+1)):=
 h.aY [6,3,5] [3]
theorem aAV(h:ad (vZ A a b d e f g [.x A a (aS i j c k l),.b (c != 0) false,.b (decide (a>0)) false,.u a])):
 a7 (ar Tryz.f175 0) (px E F A G H af K C a) .normal (px E F A G H af K C (a+1)):=
 h.aY [6,3,5] [3]
def KG(A C E F G H af K:ae):aJ:=bj 147 [(3,aR 3),(5,a6 4)] [(3,[.J .free 5 A,.J .free 5 C,.J .free 5 E,.J .free 4 F,.J .free 1 G,.J .free 1 H,.J .free 1 af,.J .free 2 K])]
theorem aAW(h:ad [.f A a false]):
 a7 (ar Tryz.f175 0) (px E F A G H af K C a) (.exit 0) (KG E F A G H af K C):=
 h.aY [5,3] [3]
theorem aAX(h:ad (P' A a b C q E r F s G t H af [.b ((K.length:Int) != 4) false,.l [] [6,3,5] [3] (ar Tryz.f175 0) (px C E F G H af K L 0) .ret (Cu u)])):
 al 175 [.agg (bA A a b),.agg (aW C E F G H af K L)] [ai u]:=
 h.of
def vB(A C E F G H af K:ae)(a:Int):aJ:=bj 147 [(3,aR 3),(5,a6 4),(7,a6 a)] [(3,[.J .free 5 A,.J .free 5 C,.J .free 5 E,.J .free 4 F,.J .free 1 G,.J .free 1 H,.J .free 1 af,.J .free 2 K])]
def Mr(q:Bool):aJ:=bj 147 [(4,.aI (.one (.bg q)))] []
theorem aAo(h:ad [.b (decide (a<4)) true,.x A a [I b],.r 168 [ag b,ag (-1000000),ag 1000000] [ai q],.n q true]):
 a7 (ar Tryz.f175 1) (vB E F G H A af K C a) .ret (Mr false):=
 h.aY [4] []
theorem aAp(h:ad [.b (decide (a<4)) true,.x A a [I b],.r 168 [ag b,ag (-1000000),ag 1000000] [ai q],.n q false,.u a]):
 a7 (ar Tryz.f175 1) (vB E F G H A af K C a) .normal (vB E F G H A af K C (a+1)):=
 h.aY [7,5,3] [3]
def Ms(A C E F G H af K:ae):aJ:=bj 147 [(3,aR 3)] [(3,[.J .free 5 A,.J .free 5 C,.J .free 5 E,.J .free 4 F,.J .free 1 G,.J .free 1 H,.J .free 1 af,.J .free 2 K])]
theorem aAq(h:ad [.b (decide (a<4)) false]):
 a7 (ar Tryz.f175 1) (vB C E F G H af K A a) (.exit 2) (Ms C E F G H af K A):=
 h.aY [3] [3]
def Qa(A:ae)(a b:Int)(C:ae)(q:Bool)(E:ae)(r:Bool)(F:ae)(s:Bool)(G:ae)(t:Bool)(H af K:ae)(W:Code)(L:ae)(l:List O):List O:=P' A a b C q E r F s G t H af (.b ((K.length:Int) != 4) false::.l [] [6,3,5] [3] W (px C E F G H af K L 0) (.exit 0) (KG C E F G H af K L)::l)
theorem aAr(h:ad (Qa K a b A q C r E s F t G H af (ar Tryz.f175 0) L [.l [] [7,5,3] [3] (ar Tryz.f175 1) (vB A C E F G H af L 0) .ret (Mr u)])):
 al 175 [.agg (bA K a b),.agg (aW A C E F G H af L)] [ai u]:=
 h.of
def sw(A C E F G H af K:ae)(a:Int):aJ:=bj 147 [(3,aR 3),(8,a6 a)] [(3,[.J .free 5 A,.J .free 5 C,.J .free 5 E,.J .free 4 F,.J .free 1 G,.J .free 1 H,.J .free 1 af,.J .free 2 K])]
def FD(q:Bool):aJ:=bj 147 [(4,.aI (.one (.bg q)))] []
theorem aAs(h:ad [.i A a [I b,B r],.r 168 [ag b,ag 0,ag 3] [ai q],.n q true]):
 a7 (ar Tryz.f175 2) (sw C E F G H af K A a) .ret (FD false):=
 h.aY [4] []
def tU(A C E F G H af K:ae)(a b:Int):aJ:=bj 147 [(3,aR 3),(8,a6 a),(9,a6 b)] [(3,[.J .free 5 A,.J .free 5 C,.J .free 5 E,.J .free 4 F,.J .free 1 G,.J .free 1 H,.J .free 1 af,.J .free 2 K])]
def FE(q:Bool):aJ:=bj 147 [(4,.aI (.one (.bg q)))] []
theorem aAt(h:ad [.b (decide (b<a)) true,.x A b [I c,B q],.x A a [I d,B r],.b (c==d) true]):
 a7 (ar Tryz.f175 3) (tU C E F G H af K A a b) .ret (FE false):=
 h.aY [4] []
theorem aAu(h:ad [.b (decide (a<b)) true,.x A a [I c,B q],.x A b [I d,B r],.b (c==d) false,.u a]):
 a7 (ar Tryz.f175 3) (tU C E F G H af K A b a) .normal (tU C E F G H af K A b (a+1)):=
 h.aY [9,8,3] [3]
def Mt(A C E F G H af K:ae)(a:Int):aJ:=bj 147 [(3,aR 3),(8,a6 a)] [(3,[.J .free 5 A,.J .free 5 C,.J .free 5 E,.J .free 4 F,.J .free 1 G,.J .free 1 H,.J .free 1 af,.J .free 2 K])]
theorem aAv(h:ad [.b (decide (b<a)) false]):
 a7 (ar Tryz.f175 3) (tU C E F G H af K A a b) (.exit 6) (Mt C E F G H af K A a):=
 h.aY [8,3] [3]
theorem aAw(h:ad [.i A a [I b,B s],.r 168 [ag b,ag 0,ag 3] [ai q],.n q false,.l [] [9,8,3] [3] (ar Tryz.f175 3) (tU C E F G H af K A a 0) .ret (FE r)]):
 a7 (ar Tryz.f175 2) (sw C E F G H af K A a) .ret (FD r):=
 h.aY [4] []
theorem aAx(h:ad [.i A a [I b,B r],.r 168 [ag b,ag 0,ag 3] [ai q],.n q false,.l [] [9,8,3] [3] (ar Tryz.f175 3) (tU C E F G H af K A a 0) (.exit 6) (Mt C E F G H af K A a),.u a]):
 a7 (ar Tryz.f175 2) (sw C E F G H af K A a) .normal (sw C E F G H af K A (a+1)):=
 h.aY [8,3] [3]
def Mu:aJ:=bj 147 [] []
theorem aew(h:ad [.f A a false]):
 a7 (ar Tryz.f175 2) (sw C E F G H af K A a) (.exit 4) Mu:=
 h.aY [] []
theorem aex(h:ad (Qa L a b A q C r E s F t G H af (ar Tryz.f175 0) K [.l [] [7,5,3] [3] (ar Tryz.f175 1) (vB A C E F G H af K 0) (.exit 2) (Ms A C E F G H af K),.l [] [8,3] [3] (ar Tryz.f175 2) (sw A C E F G H af K 0) .ret (FD u)])):
 al 175 [.agg (bA L a b),.agg (aW A C E F G H af K)] [ai u]:=
 h.of
theorem aey(h:ad (Qa L a b A q C r E s F t G H af (ar Tryz.f175 0) K [.l [] [7,5,3] [3] (ar Tryz.f175 1) (vB A C E F G H af K 0) (.exit 2) (Ms A C E F G H af K),.l [] [8,3] [3] (ar Tryz.f175 2) (sw A C E F G H af K 0) (.exit 4) Mu])):
 al 175 [.agg (bA L a b),.agg (aW A C E F G H af K)] [ai true]:=
 h.of
def aar(A:ae)(a b:Int)(C:ae)(q:Bool)(l:List O):List O:=.r 189 [.agg (bA A a b),aC 5 C] [ai q]::l
theorem aez(h:ad (aar A a b C q [.n q true])):
 al 187 [.agg (bA A a b),.agg (aW C F G H af K L E)] [ai false]:=
 h.of
def aas(A:ae)(a b:Int)(C:ae)(q:Bool)(E:ae)(r:Bool)(l:List O):List O:=aar A a b C q (.n q false::.r 189 [.agg (bA A a b),aC 5 E] [ai r]::l)
theorem aeA(h:ad (aas A a b C q E r [.n r true])):
 al 187 [.agg (bA A a b),.agg (aW C E G H af K L F)] [ai false]:=
 h.of
def aat(A:ae)(a b:Int)(C:ae)(q:Bool)(E:ae)(r:Bool)(F:ae)(s:Bool)(l:List O):List O:=aas A a b C q E r (.n r false::.r 189 [.agg (bA A a b),aC 5 F] [ai s]::l)
theorem aeB(h:ad (aat A a b C q E r F s [.n s true])):
 al 187 [.agg (bA A a b),.agg (aW C E F H af K L G)] [ai false]:=
 h.of
def Qb(A:ae)(a b:Int)(C:ae)(q:Bool)(E:ae)(r:Bool)(F:ae)(s:Bool)(G:ae)(t:Bool)(l:List O):List O:=aat A a b C q E r F s (.n s false::.r 280 [aC 4 G] [ai t]::l)
theorem aeC(h:ad (Qb A a b C q E r F s G t [.n t true])):
 al 187 [.agg (bA A a b),.agg (aW C E F G af K L H)] [ai false]:=
 h.of
def pq(A:ae)(a:Int)(C E F G H af K L:ae):aJ:=bj 121 [(3,aR 3),(37,dO 5 A),(38,a6 (A.length:Int)),(39,a6 a)] [(3,[.J .free 5 C,.J .free 5 E,.J .free 5 F,.J .free 4 G,.J .free 1 H,.J .free 1 af,.J .free 1 K,.J .free 2 L])]
def Cv(q:Bool):aJ:=bj 121 [(4,.aI (.one (.bg q)))] []
theorem aeD(h:ad [.i A a (aS b c d e f),.b (b != 0) true]):
 a7 (ar Tryz.f187 0) (pq A a C E F G H af K L) .ret (Cv false):=
 h.aY [4] []
theorem aeE(h:ad (vZ A a b d c e f [.b (c != 0) true])):
 a7 (ar Tryz.f187 0) (pq A a C E F G H af K L) .ret (Cv false):=
 h.aY [4] []
theorem aeF(h:ad (vZ C a b c d f g [.b (d != 0) false,.b (decide (a>0)) true,.v (a-1),.p (0<=a-1),.p (a-1<(A.length:Int)),.e A ((a-1).toNat) (aS i e j k l),.b (decide (e>c)) true])):
 a7 (ar Tryz.f187 0) (pq C a E F A G H af K L) .ret (Cv false):=
 h.aY [4] []
theorem aeG(h:ad (vZ C a b c d f g [.b (d != 0) false,.b (decide (a>0)) true,.v (a-1),.p (0<=a-1),.p (a-1<(A.length:Int)),.e A ((a-1).toNat) (aS i e j k l),.b (decide (e>c)) false,.u a])):
 a7 (ar Tryz.f187 0) (pq C a E F A G H af K L) .normal (pq C (a+1) E F A G H af K L):=
 h.aY [39,38,37,3] [3]
theorem aeH(h:ad (vZ A a b d c e f [.b (c != 0) false,.b (decide (a>0)) false,.u a])):
 a7 (ar Tryz.f187 0) (pq A a C E F G H af K L) .normal (pq A (a+1) C E F G H af K L):=
 h.aY [39,38,37,3] [3]
def KD(A C E F G H af K:ae):aJ:=bj 121 [(3,aR 3)] [(3,[.J .free 5 A,.J .free 5 C,.J .free 5 E,.J .free 4 F,.J .free 1 G,.J .free 1 H,.J .free 1 af,.J .free 2 K])]
theorem aeI(h:ad [.f L a false]):
 a7 (ar Tryz.f187 0) (pq L a A C E F G H af K) (.exit 0) (KD A C E F G H af K):=
 h.aY [3] [3]
theorem aeJ(h:ad (Qb A a b E q F r C s G t [.n t false,.l [] [39,38,37,3] [3] (ar Tryz.f187 0) (pq C 0 E F C G af K L H) .ret (Cv u)])):
 al 187 [.agg (bA A a b),.agg (aW E F C G af K L H)] [ai u]:=
 h.of
def Qc(A:ae)(a b:Int)(C:ae)(q:Bool)(E:ae)(r:Bool)(F:ae)(s:Bool)(G:ae)(t:Bool)(W:Code)(H af K L M N P Q R S bb V:ae)(l:List O):List O:=Qb A a b C q E r F s G t (.n t false::.l [] [39,38,37,3] [3] W (pq F 0 C E F G H af K L) (.exit 0) (KD M N P Q R S bb V)::l)
theorem aeK(h:ad (Qc A a b E q F r C s G t (ar Tryz.f187 0) K L M H N Q R S af bb V X [.b ((af.length:Int) != 4) true])):
 al 187 [.agg (bA A a b),.agg (aW E F C G K L M H)] [ai false]:=
 h.of
theorem aeL(h:ad (Qc A a b E q F r C s G t (ar Tryz.f187 0) L M N H Q R S bb af K V X [.b ((af.length:Int) != 4) false,.b ((K.length:Int) != 4) true])):
 al 187 [.agg (bA A a b),.agg (aW E F C G L M N H)] [ai false]:=
 h.of
def HK(A:ae)(a b:Int)(C:ae)(q:Bool)(E:ae)(r:Bool)(F:ae)(s:Bool)(G:ae)(t:Bool)(W:Code)(H af K L M N P Q R S bb V:ae)(l:List O):List O:=Qc A a b C q E r F s G t W H af K L M N P Q R S bb V (.b ((R.length:Int) != 4) false::.b ((S.length:Int) != 4) false::l)
theorem aeM(h:ad (HK A a b E q F r C s G t (ar Tryz.f187 0) M N Q H R S bb V af K L X [.b ((L.length:Int) != 4) true])):
 al 187 [.agg (bA A a b),.agg (aW E F C G M N Q H)] [ai false]:=
 h.of
def vC(C E F G A H af K:ae)(a:Int):aJ:=bj 121 [(3,aR 3),(89,dO 1 A),(90,a6 (A.length:Int)),(91,a6 a)] [(3,[.J .free 5 C,.J .free 5 E,.J .free 5 F,.J .free 4 G,.J .free 1 A,.J .free 1 H,.J .free 1 af,.J .free 2 K])]
def Mv(q:Bool):aJ:=bj 121 [(4,.aI (.one (.bg q)))] []
theorem aeN(h:ad [.i A a [I b],.r 190 [ag b,ag (-1000000),ag 1000000] [ai q],.n q true]):
 a7 (ar Tryz.f187 1) (vC C E F G A H af K a) .ret (Mv false):=
 h.aY [4] []
theorem aeO(h:ad [.i A a [I b],.r 190 [ag b,ag (-1000000),ag 1000000] [ai q],.n q false,.u a]):
 a7 (ar Tryz.f187 1) (vC C E F G A H af K a) .normal (vC C E F G A H af K (a+1)):=
 h.aY [91,90,89,3] [3]
def Mw(A C E F G H af K:ae):aJ:=bj 121 [(3,aR 3)] [(3,[.J .free 5 A,.J .free 5 C,.J .free 5 E,.J .free 4 F,.J .free 1 G,.J .free 1 H,.J .free 1 af,.J .free 2 K])]
theorem aeP(h:ad [.f A a false]):
 a7 (ar Tryz.f187 1) (vC C E F G A H af K a) (.exit 2) (Mw C E F G A H af K):=
 h.aY [3] [3]
theorem aeQ(h:ad (HK A a b H q af r C s K t (ar Tryz.f187 0) bb V X L M N Q R E F G S [.b ((G.length:Int) != 4) false,.l [] [91,90,89,3] [3] (ar Tryz.f187 1) (vC M N Q R E F G S 0) .ret (Mv u)])):
 al 187 [.agg (bA A a b),.agg (aW H af C K bb V X L)] [ai u]:=
 h.of
def sx(A:ae)(a:Int)(C E F G H af K L:ae):aJ:=bj 121 [(3,aR 3),(100,dO 2 A),(101,a6 (A.length:Int)),(102,a6 a)] [(3,[.J .free 5 C,.J .free 5 E,.J .free 5 F,.J .free 4 G,.J .free 1 H,.J .free 1 af,.J .free 1 K,.J .free 2 L])]
def FF(q:Bool):aJ:=bj 121 [(4,.aI (.one (.bg q)))] []
theorem aeR(h:ad [.i A a [I b,B r],.r 190 [ag b,ag 0,ag 3] [ai q],.n q true]):
 a7 (ar Tryz.f187 2) (sx A a C E F G H af K L) .ret (FF false):=
 h.aY [4] []
def aaq(A:ae)(a b:Int)(q r:Bool)(C:ae)(s:Bool)(l:List O):List O:=.i A a [I b,B q]::.r 190 [ag b,ag 0,ag 3] [ai r]::.n r false::.p ((0:Int)<=none.getD 0)::.p (none.getD 0<=(some a).getD (C.length:Int))::.p ((some a).getD (C.length:Int)<=(C.length:Int))::.r 281 [.one (.J 2 (List.take (((some a).getD (C.length:Int)).toNat-0) (List.drop 0 C))),ag b] [ai s]::l
theorem aeS(h:ad (aaq C a b s q A r [.b r true])):
 a7 (ar Tryz.f187 2) (sx C a E F G H af K L A) .ret (FF false):=
 h.aY [4] []
theorem aeT(h:ad (aaq C a b s q A r [.b r false,.u a])):
 a7 (ar Tryz.f187 2) (sx C a E F G H af K L A) .normal (sx C (a+1) E F G H af K L A):=
 h.aY [102,101,100,3] [3]
def Mx:aJ:=bj 121 [] []
theorem aeU(h:ad [.f A a false]):
 a7 (ar Tryz.f187 2) (sx A a C E F G H af K L) (.exit 4) Mx:=
 h.aY [] []
theorem aeV(h:ad (HK G a b N q Q r M s R t (ar Tryz.f187 0) bb V X S H af K L A C E F [.b ((E.length:Int) != 4) false,.l [] [91,90,89,3] [3] (ar Tryz.f187 1) (vC H af K L A C E F 0) (.exit 2) (Mw H af K L A C E F),.l [] [102,101,100,3] [3] (ar Tryz.f187 2) (sx F 0 H af K L A C E F) .ret (FF u)])):
 al 187 [.agg (bA G a b),.agg (aW N Q M R bb V X S)] [ai u]:=
 h.of
theorem ad6(h:ad (HK G a b N q Q r M s R t (ar Tryz.f187 0) bb V X S H af K L A C E F [.b ((E.length:Int) != 4) false,.l [] [91,90,89,3] [3] (ar Tryz.f187 1) (vC H af K L A C E F 0) (.exit 2) (Mw H af K L A C E F),.l [] [102,101,100,3] [3] (ar Tryz.f187 2) (sx F 0 H af K L A C E F) (.exit 4) Mx])):
 al 187 [.agg (bA G a b),.agg (aW N Q M R bb V X S)] [ai true]:=
 h.of
def wZ(a:Int)(A:ae)(b c d e f:Int):aJ:=bj 70 [(1,aR 1),(3,a6 f)] [(1,[au a,.J .free 5 A,au b,au c,au d,au e])]
def My(q:Bool):aJ:=bj 70 [(2,.aI (.one (.bg q)))] []
theorem ad7(h:ad (Dq A c d e f a b q [.n q true])):
 a7 (ar Tryz.f191 0) (wZ g A i j k l c) .ret (My false):=
 h.aY [2] []
theorem ad8(h:ad (Dq A a j k l c d q [.n q false,.u a])):
 a7 (ar Tryz.f191 0) (wZ b A e f g i a) .normal (wZ b A e f g i (a+1)):=
 h.aY [3,1] [1]
def Sn(a:Int)(A:ae)(b c d e:Int):aJ:=bj 70 [(1,aR 1)] [(1,[au a,.J .free 5 A,au b,au c,au d,au e])]
theorem ad9(h:ad [.f A f false]):
 a7 (ar Tryz.f191 0) (wZ a A b c d e f) (.exit 0) (Sn a A b c d e):=
 h.aY [1] [1]
theorem aea(h:ad [.l [] [3,1] [1] (ar Tryz.f191 0) (wZ a A b c d e 0) .ret (My q)]):
 al 191 [.agg (bZ a A b c d e)] [ai q]:=
 h.of
def aau(W:Code)(a:Int)(A:ae)(b c d e:Int)(q:Bool)(l:List O):List O:=.l [] [3,1] [1] W (wZ a A b c d e 0) (.exit 0) (Sn a A b c d e)::.r 168 [ag a,ag 1,ag 4] [ai q]::l
def aav(W:Code)(a:Int)(A:ae)(b c d e:Int)(q r:Bool)(l:List O):List O:=aau W a A b c d e q (.b q true::.r 168 [ag b,ag 0,ag a] [ai r]::l)
def aaw(W:Code)(a:Int)(A:ae)(b c d e:Int)(q r s:Bool)(l:List O):List O:=aav W a A b c d e q r (.b r true::.r 168 [ag c,ag 0,ag a] [ai s]::l)
def aax(W:Code)(a:Int)(A:ae)(b c d e:Int)(q r s:Bool)(l:List O):List O:=aaw W a A b c d e q r s (.b s true::.v (b+c)::.v (b+c+(A.length:Int))::l)
def Qd(W:Code)(a:Int)(A:ae)(b c d e:Int)(q r s t:Bool)(l:List O):List O:=aax W a A b c d e q r s (.b (b+c+(A.length:Int)==a) true::.r 168 [ag d,ag 0,ag 1000000000] [ai t]::l)
theorem aeb(h:ad (Qd (ar Tryz.f191 0) a A b c d e q r s t [.b t true,.v (d-(A.length:Int)),.b (e==d-(A.length:Int)) true])):
 al 191 [.agg (bZ a A b c d e)] [ai (decide (e>=0))]:=
 h.of
theorem aec(h:ad (Qd (ar Tryz.f191 0) a A b c d e q r s t [.b t true,.v (d-(A.length:Int)),.b (e==d-(A.length:Int)) false])):
 al 191 [.agg (bZ a A b c d e)] [ai false]:=
 h.of
theorem aed(h:ad (Qd (ar Tryz.f191 0) a A b c d e q r s t [.b t false])):
 al 191 [.agg (bZ a A b c d e)] [ai false]:=
 h.of
theorem aee(h:ad (aax (ar Tryz.f191 0) a A b c d e q r s [.b (b+c+(A.length:Int)==a) false])):
 al 191 [.agg (bZ a A b c d e)] [ai false]:=
 h.of
theorem aef(h:ad (aaw (ar Tryz.f191 0) a A b c d e q r s [.b s false])):
 al 191 [.agg (bZ a A b c d e)] [ai false]:=
 h.of
theorem aeg(h:ad (aav (ar Tryz.f191 0) a A b c d e q r [.b r false])):
 al 191 [.agg (bZ a A b c d e)] [ai false]:=
 h.of
theorem aeh(h:ad (aau (ar Tryz.f191 0) a A b c d e q [.b q false])):
 al 191 [.agg (bZ a A b c d e)] [ai false]:=
 h.of
def aay(a:Int)(q:Bool)(l:List O):List O:=.r 190 [ag a,ag 1,ag 4] [ai q]::l
theorem aei(h:ad (aay a q [.n q true])):
 al 188 [.agg (bZ a A b c d e)] [ai false]:=
 h.of
def aaz(a:Int)(q:Bool)(b:Int)(r:Bool)(l:List O):List O:=aay a q (.n q false::.r 190 [ag b,ag 0,ag a] [ai r]::l)
theorem aej(h:ad (aaz a q b r [.n r true])):
 al 188 [.agg (bZ a A b c d e)] [ai false]:=
 h.of
def aaA(a:Int)(q:Bool)(b:Int)(r:Bool)(c:Int)(s:Bool)(l:List O):List O:=aaz a q b r (.n r false::.r 190 [ag c,ag 0,ag a] [ai s]::l)
theorem aek(h:ad (aaA a q b r c s [.n s true])):
 al 188 [.agg (bZ a A b c d e)] [ai false]:=
 h.of
def Z8(a:Int)(q:Bool)(b:Int)(r:Bool)(c:Int)(s:Bool)(A:ae)(l:List O):List O:=aaA a q b r c s (.n s false::.v (b+c)::.v (b+c+(A.length:Int))::l)
theorem ael(h:ad (Z8 a q b r c s A [.b (b+c+(A.length:Int) != a) true])):
 al 188 [.agg (bZ a A b c d e)] [ai false]:=
 h.of
def HE(a:Int)(q:Bool)(b:Int)(r:Bool)(c:Int)(s:Bool)(A:ae)(d:Int)(t:Bool)(l:List O):List O:=Z8 a q b r c s A (.b (b+c+(A.length:Int) != a) false::.r 190 [ag d,ag 0,ag 1000000000] [ai t]::l)
theorem aem(h:ad (HE a q b r c s A d t [.n t true])):
 al 188 [.agg (bZ a A b c d e)] [ai false]:=
 h.of
theorem aen(h:ad (HE a q b r c s A d t [.n t false,.b (decide (e<0)) true])):
 al 188 [.agg (bZ a A b c d e)] [ai false]:=
 h.of
theorem aeo(h:ad (HE a q b r c s A d t [.n t false,.b (decide (e<0)) false,.v (d-e),.b (d-e != (A.length:Int)) true])):
 al 188 [.agg (bZ a A b c d e)] [ai false]:=
 h.of
theorem aep(h:ad (HE a r b s c t A d u [.n u false,.b (decide (e<0)) false,.v (d-e),.b (d-e != (A.length:Int)) false,.r 282 [aC 5 A] [ai q]])):
 al 188 [.agg (bZ a A b c d e)] [ai q]:=
 h.of
def xA(A:ae)(a:Int):aJ:=bj 15 [(5,dO 5 A),(6,a6 (A.length:Int)),(7,a6 a)] []
def Mz(q:Bool):aJ:=bj 15 [(2,.aI (.one (.bg q)))] []
theorem aeq(h:ad (Dr A a b c d e f q [.n q true])):
 a7 (ar Tryz.f282 0) (xA A a) .ret (Mz false):=
 h.aY [2] []
theorem aer(h:ad (Dr A a b c d e f q [.n q false,.u a])):
 a7 (ar Tryz.f282 0) (xA A a) .normal (xA A (a+1)):=
 h.aY [7,6,5] []
def U6:aJ:=bj 15 [] []
theorem aes(h:ad [.f A a false]):
 a7 (ar Tryz.f282 0) (xA A a) (.exit 0) U6:=
 h.aY [] []
theorem aet(h:ad [.l [] [7,6,5] [] (ar Tryz.f282 0) (xA A 0) .ret (Mz q)]):
 al 282 [aC 5 A] [ai q]:=
 h.of
theorem aeu(h:ad [.l [] [7,6,5] [] (ar Tryz.f282 0) (xA A 0) (.exit 0) U6]):
 al 282 [aC 5 A] [ai true]:=
 h.of
def P4(A:ae)(a b:Int)(q:Bool)(l:List O):List O:=.r 121 [.agg (bA A a b)] [ai q]::l
theorem aev(h:ad (P4 A a b q [.n q true])):
 al 56 [.agg (cl A a b C E F G)] [ai false]:=
 h.of
theorem adW(h:ad (P4 A a b q [.n q false,.b ((C.length:Int) != a) true])):
 al 56 [.agg (cl A a b C E F G)] [ai false]:=
 h.of
def Z9(A:ae)(a b:Int)(q:Bool)(C:ae)(l:List O):List O:=P4 A a b q (.n q false::.b ((C.length:Int) != a) false::.v (a*a)::l)
theorem adX(h:ad (Z9 A a b q C [.b ((E.length:Int) != a*a) true])):
 al 56 [.agg (cl A a b C E F G)] [ai false]:=
 h.of
def Z'(A:ae)(a b:Int)(q:Bool)(C E:ae)(l:List O):List O:=Z9 A a b q C (.b ((E.length:Int) != a*a) false::l)
theorem adY(h:ad (Z' A a b q C E [.b ((F.length:Int) != 4) true])):
 al 56 [.agg (cl A a b C E F G)] [ai false]:=
 h.of
def tG(A:ae)(a b:Int)(C E F G:ae)(c:Int):aJ:=bj 170 [(1,aR 1),(3,a6 a),(4,a6 c)] [(1,[.J .free 4 A,au a,au b,.J .free 8 C,.J .free 6 E,.J .free 5 F,.J .free 3 G])]
def FG(q:Bool):aJ:=bj 170 [(2,.aI (.one (.bg q)))] []
theorem adZ(h:ad [.b (decide (b<a)) true,.x L b (aW M C E F G H af K),.r 175 [.agg (bA A a c),.agg (aW M C E F G H af K)] [ai q],.n q true]):
 a7 (ar Tryz.f56 0) (tG A a c L N Q R b) .ret (FG false):=
 h.aY [2] []
theorem ad0(h:ad [.b (decide (a<b)) true,.x C a (aW R E F G H af K L),.r 175 [.agg (bA A b c),.agg (aW R E F G H af K L)] [ai q],.n q false,.u a]):
 a7 (ar Tryz.f56 0) (tG A b c C M N Q a) .normal (tG A b c C M N Q (a+1)):=
 h.aY [4,3,1] [1]
def KE(A:ae)(a b:Int)(C E F G:ae):aJ:=bj 170 [(1,aR 1),(3,a6 a)] [(1,[.J .free 4 A,au a,au b,.J .free 8 C,.J .free 6 E,.J .free 5 F,.J .free 3 G])]
theorem ad1(h:ad [.b (decide (c<a)) false]):
 a7 (ar Tryz.f56 0) (tG A a b C E F G c) (.exit 0) (KE A a b C E F G):=
 h.aY [1,3] [1]
def aab(A:ae)(a b:Int)(q:Bool)(C E F:ae)(l:List O):List O:=Z' A a b q C E (.b ((F.length:Int) != 4) false::l)
theorem ad2(h:ad (aab A a b q C E F [.l [] [4,3,1] [1] (ar Tryz.f56 0) (tG A a b C E F G 0) .ret (FG r)])):
 al 56 [.agg (cl A a b C E F G)] [ai r]:=
 h.of
def mV(a b:Int)(A:ae)(c d:Int)(C E F G:ae):aJ:=bj 170 [(1,aR 1),(3,a6 a),(5,a6 b)] [(1,[.J .free 4 A,au c,au d,.J .free 8 C,.J .free 6 E,.J .free 5 F,.J .free 3 G])]
def yX(q:Bool):aJ:=bj 170 [(2,.aI (.one (.bg q)))] []
def P5(A:ae)(a b:Int)(C:ae)(c d e f:Int)(q:Bool)(l:List O):List O:=.i A a (bZ b C c d e f)::.r 191 [.agg (bZ b C c d e f)] [ai q]::l
theorem ad3(h:ad (P5 A f a C b c d e q [.n q true])):
 a7 (ar Tryz.f56 1) (mV g f H i j E A F G) .ret (yX false):=
 h.aY [2] []
theorem ad4(h:ad (P5 A g a C c d e f q [.n q false,.b (a != b) true])):
 a7 (ar Tryz.f56 1) (mV i g H j b E A F G) .ret (yX false):=
 h.aY [2] []
def HG(A:ae)(a b:Int)(C:ae)(c d e f:Int)(q:Bool)(g:Int)(E:ae)(i:Int)(r:Bool)(l:List O):List O:=P5 A a b C c d e f q (.n q false::.b (b != g) false::.r 192 [.agg (bA E i g),aC 5 C] [ai r]::l)
theorem ad5(h:ad (HG C i b A d e f g q a E c r [.n r true])):
 a7 (ar Tryz.f56 1) (mV j i E c a F C G H) .ret (yX false):=
 h.aY [2] []
theorem afw(h:ad (HG C b d A f g i j q c E e r [.n r false,.p (a≠0),.v (b.tdiv a),.p (a≠0),.b (b.tdiv a==b.tmod a) true,.b (decide ((A.length:Int)>0)) true])):
 a7 (ar Tryz.f56 1) (mV a b E e c F C G H) .ret (yX false):=
 h.aY [2] []
theorem afx(h:ad (HG C b e A f g i j q c E d r [.n r false,.p (a≠0),.v (b.tdiv a),.p (a≠0),.b (b.tdiv a==b.tmod a) true,.b (decide ((A.length:Int)>0)) false,.u b])):
 a7 (ar Tryz.f56 1) (mV a b E d c F C G H) .normal (mV a (b+1) E d c F C G H):=
 h.aY [5,1,3] [1]
theorem afy(h:ad (HG A b e C f g i j q c E d r [.n r false,.p (a≠0),.v (b.tdiv a),.p (a≠0),.b (b.tdiv a==b.tmod a) false,.u b])):
 a7 (ar Tryz.f56 1) (mV a b E d c F A G H) .normal (mV a (b+1) E d c F A G H):=
 h.aY [5,1,3] [1]
def Cw(a:Int)(A:ae)(b c:Int)(C E F G:ae):aJ:=bj 170 [(1,aR 1),(3,a6 a)] [(1,[.J .free 4 A,au b,au c,.J .free 8 C,.J .free 6 E,.J .free 5 F,.J .free 3 G])]
theorem afz(h:ad [.f A d false]):
 a7 (ar Tryz.f56 1) (mV a d G b c C A E F) (.exit 2) (Cw a G b c C A E F):=
 h.aY [1,3] [1]
def HF(A:ae)(a b:Int)(q:Bool)(C E F:ae)(W:Code)(G:ae)(l:List O):List O:=aab A a b q C E F (.l [] [4,3,1] [1] W (tG A a b C E F G 0) (.exit 0) (KE A a b C E F G)::l)
theorem afA(h:ad (HF A a b q C E F (ar Tryz.f56 0) G [.l [] [5,1,3] [1] (ar Tryz.f56 1) (mV a 0 A a b C E F G) .ret (yX r)])):
 al 56 [.agg (cl A a b C E F G)] [ai r]:=
 h.of
def nT(a:Int)(A:ae)(b c:Int)(C E F G:ae)(d:Int):aJ:=bj 170 [(1,aR 1),(3,a6 a),(7,a6 d)] [(1,[.J .free 4 A,au b,au c,.J .free 8 C,.J .free 6 E,.J .free 5 F,.J .free 3 G])]
def xB(q:Bool):aJ:=bj 170 [(2,.aI (.one (.bg q)))] []
def aac(A:ae)(a:Int)(q:Bool)(b c:Int)(r s:Bool)(d:Int)(l:List O):List O:=.i A a [B q,I b,I c,B r,B s]::.v (d-1)::l
def aad(A:ae)(a:Int)(q:Bool)(b c:Int)(r s:Bool)(d:Int)(t:Bool)(l:List O):List O:=aac A a q b c r s d (.r 168 [ag b,ag 0,ag (d-1)] [ai t]::l)
theorem afB(h:ad (aad A b r c e s t a q [.n q true])):
 a7 (ar Tryz.f56 2) (nT a G f d C E A F b) .ret (xB false):=
 h.aY [2] []
def Dp(A:ae)(a:Int)(q:Bool)(b c:Int)(r s:Bool)(d:Int)(t u:Bool)(e f:Int)(v w:Bool)(l:List O):List O:=aad A a q b c r s d t (.n t false::.x A a [B u,I e,I f,B v,B w]::l)
theorem afC(h:ad (Dp A a s c f t u b q r g i v w [.n r true,.x A a [B x,I d,I j,B y,B z],.b (d != 0) true])):
 a7 (ar Tryz.f56 2) (nT b G k e C E A F a) .ret (xB false):=
 h.aY [2] []
theorem afD(h:ad (Dp A a t c g u v b q r i j w x [.n r true,.x A a [B y,I d,I k,B z,B gM],.b (d != 0) false,.x A a [B gw,I l,I e,B ho,B t0],.r 168 [ag e,ag (-1000000),ag 1000000] [ai s],.n s true])):
 a7 (ar Tryz.f56 2) (nT b G m f C E A F a) .ret (xB false):=
 h.aY [2] []
theorem afE(h:ad (Dp A a t d i u v b q r j k w x [.n r true,.x A a [B y,I e,I l,B z,B gM],.b (e != 0) false,.x A a [B gw,I m,I f,B ho,B t0],.r 168 [ag f,ag (-1000000),ag 1000000] [ai s],.n s false,.u a])):
 a7 (ar Tryz.f56 2) (nT b G g c C E A F a) .normal (nT b G g c C E A F (a+1)):=
 h.aY [7,1,3] [1]
theorem afF(h:ad (Dp A a t c f u v b q r g i w x [.n r false,.x A a [B y,I j,I d,B z,B gM],.r 168 [ag d,ag (-1000000),ag 1000000] [ai s],.n s true])):
 a7 (ar Tryz.f56 2) (nT b G k e C E A F a) .ret (xB false):=
 h.aY [2] []
theorem afG(h:ad (Dp A a t d g u v b q r i j w x [.n r false,.x A a [B y,I k,I e,B z,B gM],.r 168 [ag e,ag (-1000000),ag 1000000] [ai s],.n s false,.u a])):
 a7 (ar Tryz.f56 2) (nT b G f c C E A F a) .normal (nT b G f c C E A F (a+1)):=
 h.aY [7,1,3] [1]
def FH(a:Int)(A:ae)(b c:Int)(C E F G:ae):aJ:=bj 170 [(1,aR 1),(3,a6 a)] [(1,[.J .free 4 A,au b,au c,.J .free 8 C,.J .free 6 E,.J .free 5 F,.J .free 3 G])]
theorem afH(h:ad [.f A c false]):
 a7 (ar Tryz.f56 2) (nT a G d b C E A F c) (.exit 4) (FH a G d b C E A F):=
 h.aY [1,3] [1]
theorem afI(h:ad (HF A a b r C E F (ar Tryz.f56 0) G [.l [] [5,1,3] [1] (ar Tryz.f56 1) (mV a 0 A a b C E F G) (.exit 2) (Cw a M d c H af K L),.l [] [7,1,3] [1] (ar Tryz.f56 2) (nT a M d c H af K L 0) .ret (xB q)])):
 al 56 [.agg (cl A a b C E F G)] [ai q]:=
 h.of
def sy(a:Int)(A:ae)(b c:Int)(C E F G:ae)(d:Int):aJ:=bj 170 [(1,aR 1),(3,a6 a),(8,a6 d)] [(1,[.J .free 4 A,au b,au c,.J .free 8 C,.J .free 6 E,.J .free 5 F,.J .free 3 G])]
def Cx(q:Bool):aJ:=bj 170 [(2,.aI (.one (.bg q)))] []
theorem afJ(h:ad [.i A b [I c,I e,B r],.v (a-1),.r 168 [ag c,ag 0,ag (a-1)] [ai q],.n q true]):
 a7 (ar Tryz.f56 3) (sy a G f d C E F A b) .ret (Cx false):=
 h.aY [2] []
theorem afK(h:ad [.i A b [I c,I f,B s],.v (a-1),.r 168 [ag c,ag 0,ag (a-1)] [ai q],.n q false,.x A b [I g,I d,B t],.r 168 [ag d,ag 0,ag 3] [ai r],.n r true]):
 a7 (ar Tryz.f56 3) (sy a G i e C E F A b) .ret (Cx false):=
 h.aY [2] []
theorem afL(h:ad [.i A a [I d,I g,B s],.v (b-1),.r 168 [ag d,ag 0,ag (b-1)] [ai q],.n q false,.x A a [I i,I e,B t],.r 168 [ag e,ag 0,ag 3] [ai r],.n r false,.u a]):
 a7 (ar Tryz.f56 3) (sy b G f c C E F A a) .normal (sy b G f c C E F A (a+1)):=
 h.aY [8,1,3] [1]
def MA:aJ:=bj 170 [] []
theorem afM(h:ad [.f A a false]):
 a7 (ar Tryz.f56 3) (sy b G d c C E F A a) (.exit 6) MA:=
 h.aY [] []
theorem afN(h:ad (HF A a b r C E F (ar Tryz.f56 0) L [.l [] [5,1,3] [1] (ar Tryz.f56 1) (mV a 0 A a b C E F L) (.exit 2) (Cw a M d c G H af K),.l [] [7,1,3] [1] (ar Tryz.f56 2) (nT a M d c G H af K 0) (.exit 4) (FH a M d c G H af K),.l [] [8,1,3] [1] (ar Tryz.f56 3) (sy a M d c G H af K 0) .ret (Cx q)])):
 al 56 [.agg (cl A a b C E F L)] [ai q]:=
 h.of
theorem afO(h:ad (HF A a b q C E F (ar Tryz.f56 0) L [.l [] [5,1,3] [1] (ar Tryz.f56 1) (mV a 0 A a b C E F L) (.exit 2) (Cw a M d c G H af K),.l [] [7,1,3] [1] (ar Tryz.f56 2) (nT a M d c G H af K 0) (.exit 4) (FH a M d c G H af K),.l [] [8,1,3] [1] (ar Tryz.f56 3) (sy a M d c G H af K 0) (.exit 6) MA])):
 al 56 [.agg (cl A a b C E F L)] [ai true]:=
 h.of
def P7(A:ae)(a b:Int)(q:Bool)(l:List O):List O:=.r 179 [.agg (bA A a b)] [ai q]::l
theorem afP(h:ad (P7 A a b q [.n q true])):
 al 55 [.agg (cl A a b C E F G)] [ai false]:=
 h.of
theorem afQ(h:ad (P7 A a b q [.n q false,.b ((C.length:Int) != a) true])):
 al 55 [.agg (cl A a b C E F G)] [ai false]:=
 h.of
def aae(A:ae)(a b:Int)(q:Bool)(C:ae)(l:List O):List O:=P7 A a b q (.n q false::.b ((C.length:Int) != a) false::.v (a*a)::l)
theorem afR(h:ad (aae A a b q C [.b ((E.length:Int) != a*a) true])):
 al 55 [.agg (cl A a b C E F G)] [ai false]:=
 h.of
def aaf(A:ae)(a b:Int)(q:Bool)(C E:ae)(l:List O):List O:=aae A a b q C (.b ((E.length:Int) != a*a) false::l)
theorem afS(h:ad (aaf A a b q C E [.b ((F.length:Int) != 4) true])):
 al 55 [.agg (cl A a b C E F G)] [ai false]:=
 h.of
def tH(a:Int)(A:ae)(b:Int)(C:ae)(c d:Int)(E F G H:ae):aJ:=bj 147 [(1,aR 1),(3,a6 a),(42,dO 8 A),(43,a6 (A.length:Int)),(44,a6 b)] [(1,[.J .free 4 C,au c,au d,.J .free 8 E,.J .free 6 F,.J .free 5 G,.J .free 3 H])]
def FI(q:Bool):aJ:=bj 147 [(2,.aI (.one (.bg q)))] []
theorem afT(h:ad [.i L c (aW A C E F G H af K),.r 187 [.agg (bA M a b),.agg (aW A C E F G H af K)] [ai q],.n q true]):
 a7 (ar Tryz.f55 0) (tH d L c M a b N Q R S) .ret (FI false):=
 h.aY [2] []
theorem afU(h:ad [.i A a (aW af K L M N Q R S),.r 187 [.agg (bA C b c),.agg (aW af K L M N Q R S)] [ai q],.n q false,.u a]):
 a7 (ar Tryz.f55 0) (tH d A a C b c E F G H) .normal (tH d A (a+1) C b c E F G H):=
 h.aY [44,43,42,1,3] [1]
def KF(a:Int)(A:ae)(b c:Int)(C E F G:ae):aJ:=bj 147 [(1,aR 1),(3,a6 a)] [(1,[.J .free 4 A,au b,au c,.J .free 8 C,.J .free 6 E,.J .free 5 F,.J .free 3 G])]
theorem afV(h:ad [.f G d false]):
 a7 (ar Tryz.f55 0) (tH a G d H b c A C E F) (.exit 0) (KF a H b c A C E F):=
 h.aY [1,3] [1]
def aag(A:ae)(a b:Int)(q:Bool)(C E F:ae)(l:List O):List O:=aaf A a b q C E (.b ((F.length:Int) != 4) false::l)
theorem ae6(h:ad (aag C a b q A E F [.l [] [44,43,42,1,3] [1] (ar Tryz.f55 0) (tH a A 0 C a b A E F G) .ret (FI r)])):
 al 55 [.agg (cl C a b A E F G)] [ai r]:=
 h.of
def mW(a:Int)(A:ae)(b:Int)(C:ae)(c d:Int)(E F G H:ae):aJ:=bj 147 [(1,aR 1),(3,a6 a),(55,dO 6 A),(56,a6 (A.length:Int)),(57,a6 b)] [(1,[.J .free 4 C,au c,au d,.J .free 8 E,.J .free 6 F,.J .free 5 G,.J .free 3 H])]
def yY(q:Bool):aJ:=bj 147 [(2,.aI (.one (.bg q)))] []
def P6(A:ae)(a b:Int)(C:ae)(c d e f:Int)(q:Bool)(l:List O):List O:=.i A a (bZ b C c d e f)::.r 188 [.agg (bZ b C c d e f)] [ai q]::l
theorem ae7(h:ad (P6 A a b C c d e f q [.n q true])):
 a7 (ar Tryz.f55 1) (mW g A a E i j F G H af) .ret (yY false):=
 h.aY [2] []
theorem ae8(h:ad (P6 A b a C d e f g q [.n q false,.b (a != c) true])):
 a7 (ar Tryz.f55 1) (mW i A b E j c F G H af) .ret (yY false):=
 h.aY [2] []
def HH(A:ae)(a b:Int)(C:ae)(c d e f:Int)(q:Bool)(g:Int)(E:ae)(i:Int)(r:Bool)(l:List O):List O:=P6 A a b C c d e f q (.n q false::.b (b != g) false::.r 189 [.agg (bA E i g),aC 5 C] [ai r]::l)
theorem ae9(h:ad (HH C c b A e f g i q a E d r [.n r true])):
 a7 (ar Tryz.f55 1) (mW j C c E d a F G H af) .ret (yY false):=
 h.aY [2] []
theorem afa(h:ad (HH C b d A f g i j q c E e r [.n r false,.p (a≠0),.v (b.tdiv a),.p (a≠0),.b (b.tdiv a==b.tmod a) true,.b (decide ((A.length:Int)>0)) true])):
 a7 (ar Tryz.f55 1) (mW a C b E e c F G H af) .ret (yY false):=
 h.aY [2] []
theorem afb(h:ad (HH C b e A f g i j q c E d r [.n r false,.p (a≠0),.v (b.tdiv a),.p (a≠0),.b (b.tdiv a==b.tmod a) true,.b (decide ((A.length:Int)>0)) false,.u b])):
 a7 (ar Tryz.f55 1) (mW a C b E d c F G H af) .normal (mW a C (b+1) E d c F G H af):=
 h.aY [57,56,55,1,3] [1]
theorem afc(h:ad (HH A b e E f g i j q c C d r [.n r false,.p (a≠0),.v (b.tdiv a),.p (a≠0),.b (b.tdiv a==b.tmod a) false,.u b])):
 a7 (ar Tryz.f55 1) (mW a A b C d c F G H af) .normal (mW a A (b+1) C d c F G H af):=
 h.aY [57,56,55,1,3] [1]
def Cy(a:Int)(A:ae)(b c:Int)(C E F G:ae):aJ:=bj 147 [(1,aR 1),(3,a6 a)] [(1,[.J .free 4 A,au b,au c,.J .free 8 C,.J .free 6 E,.J .free 5 F,.J .free 3 G])]
theorem afd(h:ad [.f A b false]):
 a7 (ar Tryz.f55 1) (mW a A b C c d E F G H) (.exit 2) (Cy a C c d E F G H):=
 h.aY [1,3] [1]
def HI(A:ae)(a b:Int)(q:Bool)(C E F:ae)(W:Code)(G H:ae)(c d:Int)(af K L M:ae)(l:List O):List O:=aag A a b q C E F (.l [] [44,43,42,1,3] [1] W (tH a C 0 A a b C E F G) (.exit 0) (KF a H c d af K L M)::l)
theorem afe(h:ad (HI C a b r A F G (ar Tryz.f55 0) L M d c H E af K [.l [] [57,56,55,1,3] [1] (ar Tryz.f55 1) (mW a E 0 M d c H E af K) .ret (yY q)])):
 al 55 [.agg (cl C a b A F G L)] [ai q]:=
 h.of
def nU(a:Int)(A:ae)(b:Int)(C:ae)(c d:Int)(E F G H:ae):aJ:=bj 147 [(1,aR 1),(3,a6 a),(98,dO 5 A),(99,a6 (A.length:Int)),(100,a6 b)] [(1,[.J .free 4 C,au c,au d,.J .free 8 E,.J .free 6 F,.J .free 5 G,.J .free 3 H])]
def xC(q:Bool):aJ:=bj 147 [(2,.aI (.one (.bg q)))] []
def Ag(A:ae)(a:Int)(q:Bool)(b c:Int)(r s:Bool)(d:Int)(t:Bool)(l:List O):List O:=aac A a q b c r s d (.r 190 [ag b,ag 0,ag (d-1)] [ai t]::l)
theorem aff(h:ad (Ag A b r c f s t a q [.n q true])):
 a7 (ar Tryz.f55 2) (nU a A b C d e E F G H) .ret (xC false):=
 h.aY [2] []
theorem afg(h:ad (Ag A c q b f s t a r [.n r false,.n q true,.b (b != 0) true])):
 a7 (ar Tryz.f55 2) (nU a A c C d e E F G H) .ret (xC false):=
 h.aY [2] []
theorem afh(h:ad (Ag A c q b d t u a r [.n r false,.n q true,.b (b != 0) false,.r 190 [ag d,ag (-1000000),ag 1000000] [ai s],.n s true])):
 a7 (ar Tryz.f55 2) (nU a A c C e f E F G H) .ret (xC false):=
 h.aY [2] []
theorem afi(h:ad (Ag A b q c f t u a r [.n r false,.n q true,.b (c != 0) false,.r 190 [ag f,ag (-1000000),ag 1000000] [ai s],.n s false,.u b])):
 a7 (ar Tryz.f55 2) (nU a A b C d e E F G H) .normal (nU a A (b+1) C d e E F G H):=
 h.aY [100,99,98,3,1] [1]
theorem afj(h:ad (Ag A b q c d t u a r [.n r false,.n q false,.r 190 [ag d,ag (-1000000),ag 1000000] [ai s],.n s true])):
 a7 (ar Tryz.f55 2) (nU a A b C e f E F G H) .ret (xC false):=
 h.aY [2] []
theorem afk(h:ad (Ag A b q e f t u a r [.n r false,.n q false,.r 190 [ag f,ag (-1000000),ag 1000000] [ai s],.n s false,.u b])):
 a7 (ar Tryz.f55 2) (nU a A b C c d E F G H) .normal (nU a A (b+1) C c d E F G H):=
 h.aY [100,99,98,3,1] [1]
def FJ(a:Int)(A:ae)(b c:Int)(C E F G:ae):aJ:=bj 147 [(1,aR 1),(3,a6 a)] [(1,[.J .free 4 A,au b,au c,.J .free 8 C,.J .free 6 E,.J .free 5 F,.J .free 3 G])]
theorem afl(h:ad [.f A b false]):
 a7 (ar Tryz.f55 2) (nU a A b C c d E F G H) (.exit 4) (FJ a C c d E F G H):=
 h.aY [1,3] [1]
theorem afm(h:ad (HI C a b r A G H (ar Tryz.f55 0) S bb f c af E K L [.l [] [57,56,55,1,3] [1] (ar Tryz.f55 1) (mW a E 0 bb f c af E K L) (.exit 2) (Cy a M d e N Q F R),.l [] [100,99,98,3,1] [1] (ar Tryz.f55 2) (nU a F 0 M d e N Q F R) .ret (xC q)])):
 al 55 [.agg (cl C a b A G H S)] [ai q]:=
 h.of
def sA(a:Int)(A:ae)(b:Int):aJ:=bj 147 [(3,a6 a),(128,dO 3 A),(129,a6 (A.length:Int)),(130,a6 b)] []
def Cz(q:Bool):aJ:=bj 147 [(2,.aI (.one (.bg q)))] []
theorem afn(h:ad [.i A b [I c,I d,B r],.v (a-1),.r 190 [ag c,ag 0,ag (a-1)] [ai q],.n q true]):
 a7 (ar Tryz.f55 3) (sA a A b) .ret (Cz false):=
 h.aY [2] []
theorem afo(h:ad [.i A b [I c,I d,B s],.v (a-1),.r 190 [ag c,ag 0,ag (a-1)] [ai q],.n q false,.r 190 [ag d,ag 0,ag 3] [ai r],.n r true]):
 a7 (ar Tryz.f55 3) (sA a A b) .ret (Cz false):=
 h.aY [2] []
theorem afp(h:ad [.i A b [I c,I d,B s],.v (a-1),.r 190 [ag c,ag 0,ag (a-1)] [ai q],.n q false,.r 190 [ag d,ag 0,ag 3] [ai r],.n r false,.u b]):
 a7 (ar Tryz.f55 3) (sA a A b) .normal (sA a A (b+1)):=
 h.aY [130,129,128,3] []
def MB:aJ:=bj 147 [] []
theorem afq(h:ad [.f A a false]):
 a7 (ar Tryz.f55 3) (sA b A a) (.exit 6) MB:=
 h.aY [] []
theorem afr(h:ad (HI C a b r A G H (ar Tryz.f55 0) bb V f c af E K L [.l [] [57,56,55,1,3] [1] (ar Tryz.f55 1) (mW a E 0 V f c af E K L) (.exit 2) (Cy a M d e N Q F R),.l [] [100,99,98,3,1] [1] (ar Tryz.f55 2) (nU a F 0 M d e N Q F R) (.exit 4) (FJ a X g i Y Z c7 S),.l [] [130,129,128,3] [] (ar Tryz.f55 3) (sA a S 0) .ret (Cz q)])):
 al 55 [.agg (cl C a b A G H bb)] [ai q]:=
 h.of
theorem afs(h:ad (HI C a b q A G H (ar Tryz.f55 0) bb V f c af E K L [.l [] [57,56,55,1,3] [1] (ar Tryz.f55 1) (mW a E 0 V f c af E K L) (.exit 2) (Cy a M d e N Q F R),.l [] [100,99,98,3,1] [1] (ar Tryz.f55 2) (nU a F 0 M d e N Q F R) (.exit 4) (FJ a X g i Y Z c7 S),.l [] [130,129,128,3] [] (ar Tryz.f55 3) (sA a S 0) (.exit 6) MB])):
 al 55 [.agg (cl C a b A G H bb)] [ai true]:=
 h.of
