import Derived.Test.YtdchjefneblpgaaGreatGE
set_option linter.unusedVariables false
set_option linter.unusedSimpArgs false
namespace Go.Proofs.YtdchjefneblpgaaGreat
open Go.Sx Go.RowKit
variable {a b c d e f g i j k l m n o p a0 cc dk d0 bB f0 : Int} {A C E F G H aj K L M N Q R S bi V X Y Z eg : ae} {q r s t u v w x y z hE kF iU t0 : Bool}
theorem Y0(h:ad [.b (decide (a<1)) true]):
 ar 245 [af b,af a] [af 0]:=
 h.of
theorem Y1(h:ad [.b (decide (a<1)) false,.p (a≠0),.b (decide (b.tmod a<0)) true,.v (b.tmod a+a)]):
 ar 245 [af b,af a] [af (b.tmod a+a)]:=
 h.of
theorem Y2(h:ad [.b (decide (a<1)) false,.p (a≠0),.b (decide (b.tmod a<0)) false]):
 ar 245 [af b,af a] [af (b.tmod a)]:=
 h.of
def tg(A:ae)(a:Int):aD:=bd 21 [(0,dj 4 A),(3,aW a)] []
def Kc(q:Bool):aD:=bd 21 [(2,.aF (.one (.a' q)))] []
def Em(A:ae)(a b c d e f g i j:Int)(l:List O):List O:=.f A a true::.v (a-1)::.p (0<=a-1)::.p (a-1<(A.length:Int))::.e A ((a-1).toNat) [I b,I c,I d,I e]::.x A a [I f,I g,I i,I j]::l
theorem Y3(h:ad (Em A a c d e f g i j k [.r 307 [.agg [I c,I d,I e,I f],.agg [I g,I i,I j,I k]] [af b],.b (decide (b>=0)) true])):
 aX (ao Tryz.f266 0) (tg A a) .ret (Kc false):=
 h.aV [2] []
theorem Y4(h:ad (Em A a c d e f g i j k [.r 307 [.agg [I c,I d,I e,I f],.agg [I g,I i,I j,I k]] [af b],.b (decide (b>=0)) false,.u a])):
 aX (ao Tryz.f266 0) (tg A a) .normal (tg A (a+1)):=
 h.aV [3,0] []
def QI:aD:=bd 21 [] []
theorem Y5(h:ad [.f A a false]):
 aX (ao Tryz.f266 0) (tg A a) (.exit 0) QI:=
 h.aV [] []
theorem Y6(h:ad [.l [] [3,0] [] (ao Tryz.f266 0) (tg A 1) .ret (Kc q)]):
 ar 266 [aP 4 A] [ag q]:=
 h.of
theorem Y7(h:ad [.l [] [3,0] [] (ao Tryz.f266 0) (tg A 1) (.exit 0) QI]):
 ar 266 [aP 4 A] [ag true]:=
 h.of
def th(A:ae)(a:Int):aD:=bd 21 [(0,dj 4 A),(3,aW a)] []
def Jo(q:Bool):aD:=bd 21 [(2,.aF (.one (.a' q)))] []
theorem Y8(h:ad (Em A a c d e f g i j k [.r 304 [.agg [I c,I d,I e,I f],.agg [I g,I i,I j,I k]] [af b],.b (decide (b>=0)) true])):
 aX (ao Tryz.f280 0) (th A a) .ret (Jo false):=
 h.aV [2] []
theorem Y9(h:ad (Em A a c d e f g i j k [.r 304 [.agg [I c,I d,I e,I f],.agg [I g,I i,I j,I k]] [af b],.b (decide (b>=0)) false,.u a])):
 aX (ao Tryz.f280 0) (th A a) .normal (th A (a+1)):=
 h.aV [3,0] []
def QJ:aD:=bd 21 [] []
theorem Y'(h:ad [.f A a false]):
 aX (ao Tryz.f280 0) (th A a) (.exit 0) QJ:=
 h.aV [] []
theorem Za(h:ad [.l [] [3,0] [] (ao Tryz.f280 0) (th A 1) .ret (Jo q)]):
 ar 280 [aP 4 A] [ag q]:=
 h.of
theorem Zb(h:ad [.l [] [3,0] [] (ao Tryz.f280 0) (th A 1) (.exit 0) QJ]):
 ar 280 [aP 4 A] [ag true]:=
 h.of
def ti(A:ae)(a b:Int)(C:ae)(c:Int):aD:=bd 29 [(1,dj 5 C),(2,aQ 2),(5,aW c)] [(2,[.J .free 4 A,au a,au b])]
def C1(q:Bool):aD:=bd 29 [(4,.aF (.one (.a' q)))] []
def AJ(A:ae)(a b c d e f:Int)(q:Bool)(l:List O):List O:=.i A a (bj b c d e f)::.r 122 [.agg (bj b c d e f)] [ag q]::l
theorem Zc(h:ad (AJ A a b c d e f q [.n q true])):
 aX (ao Tryz.f192 0) (ti C g i A a) .ret (C1 false):=
 h.aV [4] []
theorem Zd(h:ad (AJ A a c d e f g q [.n q false,.x A a (bj b j k l m),.b (decide (b>=(C.length:Int))) true])):
 aX (ao Tryz.f192 0) (ti C i n A a) .ret (C1 false):=
 h.aV [4] []
theorem Yp(h:ad (AJ A a e f g i j q [.n q false,.x A a (bj c k l m n),.b (decide (c>=(C.length:Int))) false,.u a])):
 aX (ao Tryz.f192 0) (ti C b d A a) .normal (ti C b d A (a+1)):=
 h.aV [5,1,2] [2]
def QK:aD:=bd 29 [] []
theorem Yq(h:ad [.f A a false]):
 aX (ao Tryz.f192 0) (ti C b c A a) (.exit 0) QK:=
 h.aV [] []
theorem Yr(h:ad [.l [] [5,1,2] [2] (ao Tryz.f192 0) (ti A a b C 0) .ret (C1 q)]):
 ar 192 [.agg (bk A a b),aP 5 C] [ag q]:=
 h.of
theorem Ys(h:ad [.l [] [5,1,2] [2] (ao Tryz.f192 0) (ti A a b C 0) (.exit 0) QK]):
 ar 192 [.agg (bk A a b),aP 5 C] [ag true]:=
 h.of
def tj(A:ae)(a:Int)(C:ae)(b c:Int):aD:=bd 24 [(2,aQ 2),(7,dj 5 A),(8,aW (A.length:Int)),(9,aW a)] [(2,[.J .free 4 C,au b,au c])]
def C2(q:Bool):aD:=bd 24 [(4,.aF (.one (.a' q)))] []
def AK(A:ae)(a b c d e f:Int)(q:Bool)(l:List O):List O:=.i A a (bj b c d e f)::.r 180 [.agg (bj b c d e f)] [ag q]::l
theorem Yt(h:ad (AK A d e f a b c q [.n q true])):
 aX (ao Tryz.f189 0) (tj A d C g i) .ret (C2 false):=
 h.aV [4] []
theorem Yu(h:ad (AK A e a i b c d q [.n q false,.r 250 [.agg (bk C f g),af a] [ag r],.n r true])):
 aX (ao Tryz.f189 0) (tj A e C f g) .ret (C2 false):=
 h.aV [4] []
theorem Yv(h:ad (AK A a d i e f g q [.n q false,.r 250 [.agg (bk C b c),af d] [ag r],.n r false,.u a])):
 aX (ao Tryz.f189 0) (tj A a C b c) .normal (tj A (a+1) C b c):=
 h.aV [9,8,7,2] [2]
def QL:aD:=bd 24 [] []
theorem Yw(h:ad [.f A a false]):
 aX (ao Tryz.f189 0) (tj A a C b c) (.exit 0) QL:=
 h.aV [] []
theorem Yx(h:ad [.l [] [9,8,7,2] [2] (ao Tryz.f189 0) (tj C 0 A a b) .ret (C2 q)]):
 ar 189 [.agg (bk A a b),aP 5 C] [ag q]:=
 h.of
theorem Yy(h:ad [.l [] [9,8,7,2] [2] (ao Tryz.f189 0) (tj C 0 A a b) (.exit 0) QL]):
 ar 189 [.agg (bk A a b),aP 5 C] [ag true]:=
 h.of
def UE(A:ae)(a b:Int)(C:ae)(q:Bool)(l:List O):List O:=.r 192 [.agg (bk A a b),aP 5 C] [ag q]::l
theorem Yz(h:ad (UE A a b C q [.n q true])):
 ar 175 [.agg (bk A a b),.agg (ba C F G H aj K L E)] [ag false]:=
 h.of
def UF(A:ae)(a b:Int)(C:ae)(q:Bool)(E:ae)(r:Bool)(l:List O):List O:=UE A a b C q (.n q false::.r 192 [.agg (bk A a b),aP 5 E] [ag r]::l)
theorem YA(h:ad (UF A a b C q E r [.n r true])):
 ar 175 [.agg (bk A a b),.agg (ba C E G H aj K L F)] [ag false]:=
 h.of
def UG(A:ae)(a b:Int)(C:ae)(q:Bool)(E:ae)(r:Bool)(F:ae)(s:Bool)(l:List O):List O:=UF A a b C q E r (.n r false::.r 192 [.agg (bk A a b),aP 5 F] [ag s]::l)
theorem YB(h:ad (UG A a b C q E r F s [.n s true])):
 ar 175 [.agg (bk A a b),.agg (ba C E F H aj K L G)] [ag false]:=
 h.of
def LJ(A:ae)(a b:Int)(C:ae)(q:Bool)(E:ae)(r:Bool)(F:ae)(s:Bool)(G:ae)(t:Bool)(l:List O):List O:=UG A a b C q E r F s (.n s false::.r 266 [aP 4 G] [ag t]::l)
theorem YC(h:ad (LJ A a b C q E r F s G t [.n t true])):
 ar 175 [.agg (bk A a b),.agg (ba C E F G aj K L H)] [ag false]:=
 h.of
theorem YD(h:ad (LJ A a b C q E r F s G t [.n t false,.b ((H.length:Int) != 4) true])):
 ar 175 [.agg (bk A a b),.agg (ba C E F G H K L aj)] [ag false]:=
 h.of
def UH(A:ae)(a b:Int)(C:ae)(q:Bool)(E:ae)(r:Bool)(F:ae)(s:Bool)(G:ae)(t:Bool)(H:ae)(l:List O):List O:=LJ A a b C q E r F s G t (.n t false::.b ((H.length:Int) != 4) false::l)
theorem YE(h:ad (UH A a b C q E r F s G t H [.b ((aj.length:Int) != 4) true])):
 ar 175 [.agg (bk A a b),.agg (ba C E F G H aj L K)] [ag false]:=
 h.of
def LK(A:ae)(a b:Int)(C:ae)(q:Bool)(E:ae)(r:Bool)(F:ae)(s:Bool)(G:ae)(t:Bool)(H aj:ae)(l:List O):List O:=UH A a b C q E r F s G t H (.b ((aj.length:Int) != 4) false::l)
theorem YF(h:ad (LK A a b C q E r F s G t H aj [.b ((K.length:Int) != 4) true])):
 ar 175 [.agg (bk A a b),.agg (ba C E F G H aj K L)] [ag false]:=
 h.of
def nf(A C E F G H aj K:ae)(a:Int):aD:=bd 147 [(3,aQ 3),(5,aW 4),(6,aW a)] [(3,[.J .free 5 A,.J .free 5 C,.J .free 5 E,.J .free 4 F,.J .free 1 G,.J .free 1 H,.J .free 1 aj,.J .free 2 K])]
def zN(q:Bool):aD:=bd 147 [(4,.aF (.one (.a' q)))] []
theorem YG(h:ad [.i A a (bj b c d e f),.b (b != 0) true]):
 aX (ao Tryz.f175 0) (nf E F A G H aj K C a) .ret (zN false):=
 h.aV [4] []
def tD(A:ae)(a b c d e f:Int)(l:List O):List O:=.i A a (bj b c d e f)::.b (b != 0) false::l
theorem YH(h:ad (tD A a b d e f g [.x A a (bj i j c k l),.b (c != 0) true])):
 aX (ao Tryz.f175 0) (nf E F A G H aj K C a) .ret (zN false):=
 h.aV [4] []
theorem YI(h:ad (tD A a b f g i j [.x A a (bj k l c m n),.b (c != 0) false,.b (decide (a>0)) true,.v (a-1),.p (0<=a-1),.p (a-1<(A.length:Int)),.e A ((a-1).toNat) (bj o d p a0 cc),.x A a (bj dk e d0 bB f0),.b (decide (d>e)) true])):
 aX (ao Tryz.f175 0) (nf E F A G H aj K C a) .ret (zN false):=
 h.aV [4] []
theorem YJ(h:ad (tD A a b f g i j [.x A a (bj k l c m n),.b (c != 0) false,.b (decide (a>0)) true,.v (a-1),.p (0<=a-1),.p (a-1<(A.length:Int)),.e A ((a-1).toNat) (bj o d p a0 cc),.x A a (bj dk e d0 bB f0),.b (decide (d>e)) false,.u a])):
 aX (ao Tryz.f175 0) (nf E F A G H aj K C a) .normal (nf E F A G H aj K C (a+1)):=
 h.aV [6,3,5] [3]
theorem YK(h:ad (tD A a b d e f g [.x A a (bj i j c k l),.b (c != 0) false,.b (decide (a>0)) false,.u a])):
 aX (ao Tryz.f175 0) (nf E F A G H aj K C a) .normal (nf E F A G H aj K C (a+1)):=
 h.aV [6,3,5] [3]
def Hs(A C E F G H aj K:ae):aD:=bd 147 [(3,aQ 3),(5,aW 4)] [(3,[.J .free 5 A,.J .free 5 C,.J .free 5 E,.J .free 4 F,.J .free 1 G,.J .free 1 H,.J .free 1 aj,.J .free 2 K])]
theorem YL(h:ad [.f A a false]):
 aX (ao Tryz.f175 0) (nf E F A G H aj K C a) (.exit 0) (Hs E F A G H aj K C):=
 h.aV [5,3] [3]
theorem YM(h:ad (LK A a b C q E r F s G t H aj [.b ((K.length:Int) != 4) false,.l [] [6,3,5] [3] (ao Tryz.f175 0) (nf C E F G H aj K L 0) .ret (zN u)])):
 ar 175 [.agg (bk A a b),.agg (ba C E F G H aj K L)] [ag u]:=
 h.of
def tk(A C E F G H aj K:ae)(a:Int):aD:=bd 147 [(3,aQ 3),(5,aW 4),(7,aW a)] [(3,[.J .free 5 A,.J .free 5 C,.J .free 5 E,.J .free 4 F,.J .free 1 G,.J .free 1 H,.J .free 1 aj,.J .free 2 K])]
def Jp(q:Bool):aD:=bd 147 [(4,.aF (.one (.a' q)))] []
theorem YN(h:ad [.b (decide (a<4)) true,.x A a [I b],.r 168 [af b,af (-1000000),af 1000000] [ag q],.n q true]):
 aX (ao Tryz.f175 1) (tk E F G H A aj K C a) .ret (Jp false):=
 h.aV [4] []
theorem YO(h:ad [.b (decide (a<4)) true,.x A a [I b],.r 168 [af b,af (-1000000),af 1000000] [ag q],.n q false,.u a]):
 aX (ao Tryz.f175 1) (tk E F G H A aj K C a) .normal (tk E F G H A aj K C (a+1)):=
 h.aV [7,5,3] [3]
def Jq(A C E F G H aj K:ae):aD:=bd 147 [(3,aQ 3)] [(3,[.J .free 5 A,.J .free 5 C,.J .free 5 E,.J .free 4 F,.J .free 1 G,.J .free 1 H,.J .free 1 aj,.J .free 2 K])]
theorem Yf(h:ad [.b (decide (a<4)) false]):
 aX (ao Tryz.f175 1) (tk C E F G H aj K A a) (.exit 2) (Jq C E F G H aj K A):=
 h.aV [3] [3]
def LL(A:ae)(a b:Int)(C:ae)(q:Bool)(E:ae)(r:Bool)(F:ae)(s:Bool)(G:ae)(t:Bool)(H aj K:ae)(W:Code)(L:ae)(l:List O):List O:=LK A a b C q E r F s G t H aj (.b ((K.length:Int) != 4) false::.l [] [6,3,5] [3] W (nf C E F G H aj K L 0) (.exit 0) (Hs C E F G H aj K L)::l)
theorem Yg(h:ad (LL K a b A q C r E s F t G H aj (ao Tryz.f175 0) L [.l [] [7,5,3] [3] (ao Tryz.f175 1) (tk A C E F G H aj L 0) .ret (Jp u)])):
 ar 175 [.agg (bk K a b),.agg (ba A C E F G H aj L)] [ag u]:=
 h.of
def qk(A C E F G H aj K:ae)(a:Int):aD:=bd 147 [(3,aQ 3),(8,aW a)] [(3,[.J .free 5 A,.J .free 5 C,.J .free 5 E,.J .free 4 F,.J .free 1 G,.J .free 1 H,.J .free 1 aj,.J .free 2 K])]
def Ct(q:Bool):aD:=bd 147 [(4,.aF (.one (.a' q)))] []
theorem Yh(h:ad [.i A a [I b,B r],.r 168 [af b,af 0,af 3] [ag q],.n q true]):
 aX (ao Tryz.f175 2) (qk C E F G H aj K A a) .ret (Ct false):=
 h.aV [4] []
def rU(A C E F G H aj K:ae)(a b:Int):aD:=bd 147 [(3,aQ 3),(8,aW a),(9,aW b)] [(3,[.J .free 5 A,.J .free 5 C,.J .free 5 E,.J .free 4 F,.J .free 1 G,.J .free 1 H,.J .free 1 aj,.J .free 2 K])]
def Cu(q:Bool):aD:=bd 147 [(4,.aF (.one (.a' q)))] []
theorem Yi(h:ad [.b (decide (b<a)) true,.x A b [I c,B q],.x A a [I d,B r],.b (c==d) true]):
 aX (ao Tryz.f175 3) (rU C E F G H aj K A a b) .ret (Cu false):=
 h.aV [4] []
theorem Yj(h:ad [.b (decide (a<b)) true,.x A a [I c,B q],.x A b [I d,B r],.b (c==d) false,.u a]):
 aX (ao Tryz.f175 3) (rU C E F G H aj K A b a) .normal (rU C E F G H aj K A b (a+1)):=
 h.aV [9,8,3] [3]
def Jr(A C E F G H aj K:ae)(a:Int):aD:=bd 147 [(3,aQ 3),(8,aW a)] [(3,[.J .free 5 A,.J .free 5 C,.J .free 5 E,.J .free 4 F,.J .free 1 G,.J .free 1 H,.J .free 1 aj,.J .free 2 K])]
theorem Yk(h:ad [.b (decide (b<a)) false]):
 aX (ao Tryz.f175 3) (rU C E F G H aj K A a b) (.exit 6) (Jr C E F G H aj K A a):=
 h.aV [8,3] [3]
theorem Yl(h:ad [.i A a [I b,B s],.r 168 [af b,af 0,af 3] [ag q],.n q false,.l [] [9,8,3] [3] (ao Tryz.f175 3) (rU C E F G H aj K A a 0) .ret (Cu r)]):
 aX (ao Tryz.f175 2) (qk C E F G H aj K A a) .ret (Ct r):=
 h.aV [4] []
theorem Ym(h:ad [.i A a [I b,B r],.r 168 [af b,af 0,af 3] [ag q],.n q false,.l [] [9,8,3] [3] (ao Tryz.f175 3) (rU C E F G H aj K A a 0) (.exit 6) (Jr C E F G H aj K A a),.u a]):
 aX (ao Tryz.f175 2) (qk C E F G H aj K A a) .normal (qk C E F G H aj K A (a+1)):=
 h.aV [8,3] [3]
def Js:aD:=bd 147 [] []
theorem Yn(h:ad [.f A a false]):
 aX (ao Tryz.f175 2) (qk C E F G H aj K A a) (.exit 4) Js:=
 h.aV [] []
theorem Yo(h:ad (LL L a b A q C r E s F t G H aj (ao Tryz.f175 0) K [.l [] [7,5,3] [3] (ao Tryz.f175 1) (tk A C E F G H aj K 0) (.exit 2) (Jq A C E F G H aj K),.l [] [8,3] [3] (ao Tryz.f175 2) (qk A C E F G H aj K 0) .ret (Ct u)])):
 ar 175 [.agg (bk L a b),.agg (ba A C E F G H aj K)] [ag u]:=
 h.of
theorem ZO(h:ad (LL L a b A q C r E s F t G H aj (ao Tryz.f175 0) K [.l [] [7,5,3] [3] (ao Tryz.f175 1) (tk A C E F G H aj K 0) (.exit 2) (Jq A C E F G H aj K),.l [] [8,3] [3] (ao Tryz.f175 2) (qk A C E F G H aj K 0) (.exit 4) Js])):
 ar 175 [.agg (bk L a b),.agg (ba A C E F G H aj K)] [ag true]:=
 h.of
def UJ(A:ae)(a b:Int)(C:ae)(q:Bool)(l:List O):List O:=.r 189 [.agg (bk A a b),aP 5 C] [ag q]::l
theorem ZP(h:ad (UJ A a b C q [.n q true])):
 ar 187 [.agg (bk A a b),.agg (ba C F G H aj K L E)] [ag false]:=
 h.of
def UK(A:ae)(a b:Int)(C:ae)(q:Bool)(E:ae)(r:Bool)(l:List O):List O:=UJ A a b C q (.n q false::.r 189 [.agg (bk A a b),aP 5 E] [ag r]::l)
theorem ZQ(h:ad (UK A a b C q E r [.n r true])):
 ar 187 [.agg (bk A a b),.agg (ba C E G H aj K L F)] [ag false]:=
 h.of
def UL(A:ae)(a b:Int)(C:ae)(q:Bool)(E:ae)(r:Bool)(F:ae)(s:Bool)(l:List O):List O:=UK A a b C q E r (.n r false::.r 189 [.agg (bk A a b),aP 5 F] [ag s]::l)
theorem ZR(h:ad (UL A a b C q E r F s [.n s true])):
 ar 187 [.agg (bk A a b),.agg (ba C E F H aj K L G)] [ag false]:=
 h.of
def LM(A:ae)(a b:Int)(C:ae)(q:Bool)(E:ae)(r:Bool)(F:ae)(s:Bool)(G:ae)(t:Bool)(l:List O):List O:=UL A a b C q E r F s (.n s false::.r 280 [aP 4 G] [ag t]::l)
theorem ZS(h:ad (LM A a b C q E r F s G t [.n t true])):
 ar 187 [.agg (bk A a b),.agg (ba C E F G aj K L H)] [ag false]:=
 h.of
def nd(A:ae)(a:Int)(C E F G H aj K L:ae):aD:=bd 121 [(3,aQ 3),(37,dj 5 A),(38,aW (A.length:Int)),(39,aW a)] [(3,[.J .free 5 C,.J .free 5 E,.J .free 5 F,.J .free 4 G,.J .free 1 H,.J .free 1 aj,.J .free 1 K,.J .free 2 L])]
def zO(q:Bool):aD:=bd 121 [(4,.aF (.one (.a' q)))] []
theorem ZT(h:ad [.i A a (bj b c d e f),.b (b != 0) true]):
 aX (ao Tryz.f187 0) (nd A a C E F G H aj K L) .ret (zO false):=
 h.aV [4] []
theorem ZU(h:ad (tD A a b d c e f [.b (c != 0) true])):
 aX (ao Tryz.f187 0) (nd A a C E F G H aj K L) .ret (zO false):=
 h.aV [4] []
theorem ZV(h:ad (tD C a b c d f g [.b (d != 0) false,.b (decide (a>0)) true,.v (a-1),.p (0<=a-1),.p (a-1<(A.length:Int)),.e A ((a-1).toNat) (bj i e j k l),.b (decide (e>c)) true])):
 aX (ao Tryz.f187 0) (nd C a E F A G H aj K L) .ret (zO false):=
 h.aV [4] []
theorem ZW(h:ad (tD C a b c d f g [.b (d != 0) false,.b (decide (a>0)) true,.v (a-1),.p (0<=a-1),.p (a-1<(A.length:Int)),.e A ((a-1).toNat) (bj i e j k l),.b (decide (e>c)) false,.u a])):
 aX (ao Tryz.f187 0) (nd C a E F A G H aj K L) .normal (nd C (a+1) E F A G H aj K L):=
 h.aV [39,38,37,3] [3]
theorem ZX(h:ad (tD A a b d c e f [.b (c != 0) false,.b (decide (a>0)) false,.u a])):
 aX (ao Tryz.f187 0) (nd A a C E F G H aj K L) .normal (nd A (a+1) C E F G H aj K L):=
 h.aV [39,38,37,3] [3]
def Hp(A C E F G H aj K:ae):aD:=bd 121 [(3,aQ 3)] [(3,[.J .free 5 A,.J .free 5 C,.J .free 5 E,.J .free 4 F,.J .free 1 G,.J .free 1 H,.J .free 1 aj,.J .free 2 K])]
theorem ZY(h:ad [.f L a false]):
 aX (ao Tryz.f187 0) (nd L a A C E F G H aj K) (.exit 0) (Hp A C E F G H aj K):=
 h.aV [3] [3]
theorem ZZ(h:ad (LM A a b E q F r C s G t [.n t false,.l [] [39,38,37,3] [3] (ao Tryz.f187 0) (nd C 0 E F C G aj K L H) .ret (zO u)])):
 ar 187 [.agg (bk A a b),.agg (ba E F C G aj K L H)] [ag u]:=
 h.of
def LN(A:ae)(a b:Int)(C:ae)(q:Bool)(E:ae)(r:Bool)(F:ae)(s:Bool)(G:ae)(t:Bool)(W:Code)(H aj K L M N P Q R S bi V:ae)(l:List O):List O:=LM A a b C q E r F s G t (.n t false::.l [] [39,38,37,3] [3] W (nd F 0 C E F G H aj K L) (.exit 0) (Hp M N P Q R S bi V)::l)
theorem Z0(h:ad (LN A a b E q F r C s G t (ao Tryz.f187 0) K L M H N Q R S aj bi V X [.b ((aj.length:Int) != 4) true])):
 ar 187 [.agg (bk A a b),.agg (ba E F C G K L M H)] [ag false]:=
 h.of
theorem Z1(h:ad (LN A a b E q F r C s G t (ao Tryz.f187 0) L M N H Q R S bi aj K V X [.b ((aj.length:Int) != 4) false,.b ((K.length:Int) != 4) true])):
 ar 187 [.agg (bk A a b),.agg (ba E F C G L M N H)] [ag false]:=
 h.of
def En(A:ae)(a b:Int)(C:ae)(q:Bool)(E:ae)(r:Bool)(F:ae)(s:Bool)(G:ae)(t:Bool)(W:Code)(H aj K L M N P Q R S bi V:ae)(l:List O):List O:=LN A a b C q E r F s G t W H aj K L M N P Q R S bi V (.b ((R.length:Int) != 4) false::.b ((S.length:Int) != 4) false::l)
theorem Z2(h:ad (En A a b E q F r C s G t (ao Tryz.f187 0) M N Q H R S bi V aj K L X [.b ((L.length:Int) != 4) true])):
 ar 187 [.agg (bk A a b),.agg (ba E F C G M N Q H)] [ag false]:=
 h.of
def sL(C E F G A H aj K:ae)(a:Int):aD:=bd 121 [(3,aQ 3),(89,dj 1 A),(90,aW (A.length:Int)),(91,aW a)] [(3,[.J .free 5 C,.J .free 5 E,.J .free 5 F,.J .free 4 G,.J .free 1 A,.J .free 1 H,.J .free 1 aj,.J .free 2 K])]
def Jt(q:Bool):aD:=bd 121 [(4,.aF (.one (.a' q)))] []
theorem Z3(h:ad [.i A a [I b],.r 190 [af b,af (-1000000),af 1000000] [ag q],.n q true]):
 aX (ao Tryz.f187 1) (sL C E F G A H aj K a) .ret (Jt false):=
 h.aV [4] []
theorem Z4(h:ad [.i A a [I b],.r 190 [af b,af (-1000000),af 1000000] [ag q],.n q false,.u a]):
 aX (ao Tryz.f187 1) (sL C E F G A H aj K a) .normal (sL C E F G A H aj K (a+1)):=
 h.aV [91,90,89,3] [3]
def Ju(A C E F G H aj K:ae):aD:=bd 121 [(3,aQ 3)] [(3,[.J .free 5 A,.J .free 5 C,.J .free 5 E,.J .free 4 F,.J .free 1 G,.J .free 1 H,.J .free 1 aj,.J .free 2 K])]
theorem Z5(h:ad [.f A a false]):
 aX (ao Tryz.f187 1) (sL C E F G A H aj K a) (.exit 2) (Ju C E F G A H aj K):=
 h.aV [3] [3]
theorem Z6(h:ad (En A a b H q aj r C s K t (ao Tryz.f187 0) bi V X L M N Q R E F G S [.b ((G.length:Int) != 4) false,.l [] [91,90,89,3] [3] (ao Tryz.f187 1) (sL M N Q R E F G S 0) .ret (Jt u)])):
 ar 187 [.agg (bk A a b),.agg (ba H aj C K bi V X L)] [ag u]:=
 h.of
def ql(A:ae)(a:Int)(C E F G H aj K L:ae):aD:=bd 121 [(3,aQ 3),(100,dj 2 A),(101,aW (A.length:Int)),(102,aW a)] [(3,[.J .free 5 C,.J .free 5 E,.J .free 5 F,.J .free 4 G,.J .free 1 H,.J .free 1 aj,.J .free 1 K,.J .free 2 L])]
def Cv(q:Bool):aD:=bd 121 [(4,.aF (.one (.a' q)))] []
theorem Z7(h:ad [.i A a [I b,B r],.r 190 [af b,af 0,af 3] [ag q],.n q true]):
 aX (ao Tryz.f187 2) (ql A a C E F G H aj K L) .ret (Cv false):=
 h.aV [4] []
def UI(A:ae)(a b:Int)(q r:Bool)(C:ae)(s:Bool)(l:List O):List O:=.i A a [I b,B q]::.r 190 [af b,af 0,af 3] [ag r]::.n r false::.p ((0:Int)<=none.getD 0)::.p (none.getD 0<=(some a).getD (C.length:Int))::.p ((some a).getD (C.length:Int)<=(C.length:Int))::.r 281 [.one (.J 2 (List.take (((some a).getD (C.length:Int)).toNat-0) (List.drop 0 C))),af b] [ag s]::l
theorem Z8(h:ad (UI C a b s q A r [.b r true])):
 aX (ao Tryz.f187 2) (ql C a E F G H aj K L A) .ret (Cv false):=
 h.aV [4] []
theorem Z9(h:ad (UI C a b s q A r [.b r false,.u a])):
 aX (ao Tryz.f187 2) (ql C a E F G H aj K L A) .normal (ql C (a+1) E F G H aj K L A):=
 h.aV [102,101,100,3] [3]
def Jv:aD:=bd 121 [] []
theorem Z'(h:ad [.f A a false]):
 aX (ao Tryz.f187 2) (ql A a C E F G H aj K L) (.exit 4) Jv:=
 h.aV [] []
theorem aab(h:ad (En G a b N q Q r M s R t (ao Tryz.f187 0) bi V X S H aj K L A C E F [.b ((E.length:Int) != 4) false,.l [] [91,90,89,3] [3] (ao Tryz.f187 1) (sL H aj K L A C E F 0) (.exit 2) (Ju H aj K L A C E F),.l [] [102,101,100,3] [3] (ao Tryz.f187 2) (ql F 0 H aj K L A C E F) .ret (Cv u)])):
 ar 187 [.agg (bk G a b),.agg (ba N Q M R bi V X S)] [ag u]:=
 h.of
theorem aac(h:ad (En G a b N q Q r M s R t (ao Tryz.f187 0) bi V X S H aj K L A C E F [.b ((E.length:Int) != 4) false,.l [] [91,90,89,3] [3] (ao Tryz.f187 1) (sL H aj K L A C E F 0) (.exit 2) (Ju H aj K L A C E F),.l [] [102,101,100,3] [3] (ao Tryz.f187 2) (ql F 0 H aj K L A C E F) (.exit 4) Jv])):
 ar 187 [.agg (bk G a b),.agg (ba N Q M R bi V X S)] [ag true]:=
 h.of
def uE(a:Int)(A:ae)(b c d e f:Int):aD:=bd 70 [(1,aQ 1),(3,aW f)] [(1,[au a,.J .free 5 A,au b,au c,au d,au e])]
def Jw(q:Bool):aD:=bd 70 [(2,.aF (.one (.a' q)))] []
theorem aad(h:ad (AJ A c d e f a b q [.n q true])):
 aX (ao Tryz.f191 0) (uE g A i j k l c) .ret (Jw false):=
 h.aV [2] []
theorem Zo(h:ad (AJ A a j k l c d q [.n q false,.u a])):
 aX (ao Tryz.f191 0) (uE b A e f g i a) .normal (uE b A e f g i (a+1)):=
 h.aV [3,1] [1]
def N1(a:Int)(A:ae)(b c d e:Int):aD:=bd 70 [(1,aQ 1)] [(1,[au a,.J .free 5 A,au b,au c,au d,au e])]
theorem Zp(h:ad [.f A f false]):
 aX (ao Tryz.f191 0) (uE a A b c d e f) (.exit 0) (N1 a A b c d e):=
 h.aV [1] [1]
theorem Zq(h:ad [.l [] [3,1] [1] (ao Tryz.f191 0) (uE a A b c d e 0) .ret (Jw q)]):
 ar 191 [.agg (cd a A b c d e)] [ag q]:=
 h.of
def UM(W:Code)(a:Int)(A:ae)(b c d e:Int)(q:Bool)(l:List O):List O:=.l [] [3,1] [1] W (uE a A b c d e 0) (.exit 0) (N1 a A b c d e)::.r 168 [af a,af 1,af 4] [ag q]::l
def UN(W:Code)(a:Int)(A:ae)(b c d e:Int)(q r:Bool)(l:List O):List O:=UM W a A b c d e q (.b q true::.r 168 [af b,af 0,af a] [ag r]::l)
def UO(W:Code)(a:Int)(A:ae)(b c d e:Int)(q r s:Bool)(l:List O):List O:=UN W a A b c d e q r (.b r true::.r 168 [af c,af 0,af a] [ag s]::l)
def UP(W:Code)(a:Int)(A:ae)(b c d e:Int)(q r s:Bool)(l:List O):List O:=UO W a A b c d e q r s (.b s true::.v (b+c)::.v (b+c+(A.length:Int))::l)
def LO(W:Code)(a:Int)(A:ae)(b c d e:Int)(q r s t:Bool)(l:List O):List O:=UP W a A b c d e q r s (.b (b+c+(A.length:Int)==a) true::.r 168 [af d,af 0,af 1000000000] [ag t]::l)
theorem Zr(h:ad (LO (ao Tryz.f191 0) a A b c d e q r s t [.b t true,.v (d-(A.length:Int)),.b (e==d-(A.length:Int)) true])):
 ar 191 [.agg (cd a A b c d e)] [ag (decide (e>=0))]:=
 h.of
theorem Zs(h:ad (LO (ao Tryz.f191 0) a A b c d e q r s t [.b t true,.v (d-(A.length:Int)),.b (e==d-(A.length:Int)) false])):
 ar 191 [.agg (cd a A b c d e)] [ag false]:=
 h.of
theorem Zt(h:ad (LO (ao Tryz.f191 0) a A b c d e q r s t [.b t false])):
 ar 191 [.agg (cd a A b c d e)] [ag false]:=
 h.of
theorem Zu(h:ad (UP (ao Tryz.f191 0) a A b c d e q r s [.b (b+c+(A.length:Int)==a) false])):
 ar 191 [.agg (cd a A b c d e)] [ag false]:=
 h.of
theorem Zv(h:ad (UO (ao Tryz.f191 0) a A b c d e q r s [.b s false])):
 ar 191 [.agg (cd a A b c d e)] [ag false]:=
 h.of
theorem Zw(h:ad (UN (ao Tryz.f191 0) a A b c d e q r [.b r false])):
 ar 191 [.agg (cd a A b c d e)] [ag false]:=
 h.of
theorem Zx(h:ad (UM (ao Tryz.f191 0) a A b c d e q [.b q false])):
 ar 191 [.agg (cd a A b c d e)] [ag false]:=
 h.of
def UQ(a:Int)(q:Bool)(l:List O):List O:=.r 190 [af a,af 1,af 4] [ag q]::l
theorem Zy(h:ad (UQ a q [.n q true])):
 ar 188 [.agg (cd a A b c d e)] [ag false]:=
 h.of
def UR(a:Int)(q:Bool)(b:Int)(r:Bool)(l:List O):List O:=UQ a q (.n q false::.r 190 [af b,af 0,af a] [ag r]::l)
theorem Zz(h:ad (UR a q b r [.n r true])):
 ar 188 [.agg (cd a A b c d e)] [ag false]:=
 h.of
def US(a:Int)(q:Bool)(b:Int)(r:Bool)(c:Int)(s:Bool)(l:List O):List O:=UR a q b r (.n r false::.r 190 [af c,af 0,af a] [ag s]::l)
theorem ZA(h:ad (US a q b r c s [.n s true])):
 ar 188 [.agg (cd a A b c d e)] [ag false]:=
 h.of
def Ev(a:Int)(q:Bool)(b:Int)(r:Bool)(c:Int)(s:Bool)(A:ae)(l:List O):List O:=US a q b r c s (.n s false::.v (b+c)::.v (b+c+(A.length:Int))::l)
theorem ZB(h:ad (Ev a q b r c s A [.b (b+c+(A.length:Int) != a) true])):
 ar 188 [.agg (cd a A b c d e)] [ag false]:=
 h.of
def Ew(a:Int)(q:Bool)(b:Int)(r:Bool)(c:Int)(s:Bool)(A:ae)(d:Int)(t:Bool)(l:List O):List O:=Ev a q b r c s A (.b (b+c+(A.length:Int) != a) false::.r 190 [af d,af 0,af 1000000000] [ag t]::l)
theorem ZC(h:ad (Ew a q b r c s A d t [.n t true])):
 ar 188 [.agg (cd a A b c d e)] [ag false]:=
 h.of
theorem ZD(h:ad (Ew a q b r c s A d t [.n t false,.b (decide (e<0)) true])):
 ar 188 [.agg (cd a A b c d e)] [ag false]:=
 h.of
theorem ZE(h:ad (Ew a q b r c s A d t [.n t false,.b (decide (e<0)) false,.v (d-e),.b (d-e != (A.length:Int)) true])):
 ar 188 [.agg (cd a A b c d e)] [ag false]:=
 h.of
theorem ZF(h:ad (Ew a r b s c t A d u [.n u false,.b (decide (e<0)) false,.v (d-e),.b (d-e != (A.length:Int)) false,.r 282 [aP 5 A] [ag q]])):
 ar 188 [.agg (cd a A b c d e)] [ag q]:=
 h.of
def uN(A:ae)(a:Int):aD:=bd 15 [(5,dj 5 A),(6,aW (A.length:Int)),(7,aW a)] []
def Jx(q:Bool):aD:=bd 15 [(2,.aF (.one (.a' q)))] []
theorem ZG(h:ad (AK A a b c d e f q [.n q true])):
 aX (ao Tryz.f282 0) (uN A a) .ret (Jx false):=
 h.aV [2] []
theorem ZH(h:ad (AK A a b c d e f q [.n q false,.u a])):
 aX (ao Tryz.f282 0) (uN A a) .normal (uN A (a+1)):=
 h.aV [7,6,5] []
def QM:aD:=bd 15 [] []
theorem ZI(h:ad [.f A a false]):
 aX (ao Tryz.f282 0) (uN A a) (.exit 0) QM:=
 h.aV [] []
theorem ZJ(h:ad [.l [] [7,6,5] [] (ao Tryz.f282 0) (uN A 0) .ret (Jx q)]):
 ar 282 [aP 5 A] [ag q]:=
 h.of
theorem ZK(h:ad [.l [] [7,6,5] [] (ao Tryz.f282 0) (uN A 0) (.exit 0) QM]):
 ar 282 [aP 5 A] [ag true]:=
 h.of
def LZ(A:ae)(a b:Int)(q:Bool)(l:List O):List O:=.r 121 [.agg (bk A a b)] [ag q]::l
theorem ZL(h:ad (LZ A a b q [.n q true])):
 ar 56 [.agg (cl A a b C E F G)] [ag false]:=
 h.of
theorem ZM(h:ad (LZ A a b q [.n q false,.b ((C.length:Int) != a) true])):
 ar 56 [.agg (cl A a b C E F G)] [ag false]:=
 h.of
def U3(A:ae)(a b:Int)(q:Bool)(C:ae)(l:List O):List O:=LZ A a b q (.n q false::.b ((C.length:Int) != a) false::.v (a*a)::l)
theorem ZN(h:ad (U3 A a b q C [.b ((E.length:Int) != a*a) true])):
 ar 56 [.agg (cl A a b C E F G)] [ag false]:=
 h.of
def U4(A:ae)(a b:Int)(q:Bool)(C E:ae)(l:List O):List O:=U3 A a b q C (.b ((E.length:Int) != a*a) false::l)
theorem Ze(h:ad (U4 A a b q C E [.b ((F.length:Int) != 4) true])):
 ar 56 [.agg (cl A a b C E F G)] [ag false]:=
 h.of
def rI(A:ae)(a b:Int)(C E F G:ae)(c:Int):aD:=bd 170 [(1,aQ 1),(3,aW a),(4,aW c)] [(1,[.J .free 4 A,au a,au b,.J .free 8 C,.J .free 6 E,.J .free 5 F,.J .free 3 G])]
def Cw(q:Bool):aD:=bd 170 [(2,.aF (.one (.a' q)))] []
theorem Zf(h:ad [.b (decide (b<a)) true,.x L b (ba M C E F G H aj K),.r 175 [.agg (bk A a c),.agg (ba M C E F G H aj K)] [ag q],.n q true]):
 aX (ao Tryz.f56 0) (rI A a c L N Q R b) .ret (Cw false):=
 h.aV [2] []
theorem Zg(h:ad [.b (decide (a<b)) true,.x C a (ba R E F G H aj K L),.r 175 [.agg (bk A b c),.agg (ba R E F G H aj K L)] [ag q],.n q false,.u a]):
 aX (ao Tryz.f56 0) (rI A b c C M N Q a) .normal (rI A b c C M N Q (a+1)):=
 h.aV [4,3,1] [1]
def Hq(A:ae)(a b:Int)(C E F G:ae):aD:=bd 170 [(1,aQ 1),(3,aW a)] [(1,[.J .free 4 A,au a,au b,.J .free 8 C,.J .free 6 E,.J .free 5 F,.J .free 3 G])]
theorem Zh(h:ad [.b (decide (c<a)) false]):
 aX (ao Tryz.f56 0) (rI A a b C E F G c) (.exit 0) (Hq A a b C E F G):=
 h.aV [1,3] [1]
def U5(A:ae)(a b:Int)(q:Bool)(C E F:ae)(l:List O):List O:=U4 A a b q C E (.b ((F.length:Int) != 4) false::l)
theorem Zi(h:ad (U5 A a b q C E F [.l [] [4,3,1] [1] (ao Tryz.f56 0) (rI A a b C E F G 0) .ret (Cw r)])):
 ar 56 [.agg (cl A a b C E F G)] [ag r]:=
 h.of
def k1(a b:Int)(A:ae)(c d:Int)(C E F G:ae):aD:=bd 170 [(1,aQ 1),(3,aW a),(5,aW b)] [(1,[.J .free 4 A,au c,au d,.J .free 8 C,.J .free 6 E,.J .free 5 F,.J .free 3 G])]
def w9(q:Bool):aD:=bd 170 [(2,.aF (.one (.a' q)))] []
def L0(A:ae)(a b:Int)(C:ae)(c d e f:Int)(q:Bool)(l:List O):List O:=.i A a (cd b C c d e f)::.r 191 [.agg (cd b C c d e f)] [ag q]::l
theorem Zj(h:ad (L0 A f a C b c d e q [.n q true])):
 aX (ao Tryz.f56 1) (k1 g f H i j E A F G) .ret (w9 false):=
 h.aV [2] []
theorem Zk(h:ad (L0 A g a C c d e f q [.n q false,.b (a != b) true])):
 aX (ao Tryz.f56 1) (k1 i g H j b E A F G) .ret (w9 false):=
 h.aV [2] []
def Ey(A:ae)(a b:Int)(C:ae)(c d e f:Int)(q:Bool)(g:Int)(E:ae)(i:Int)(r:Bool)(l:List O):List O:=L0 A a b C c d e f q (.n q false::.b (b != g) false::.r 192 [.agg (bk E i g),aP 5 C] [ag r]::l)
theorem Zl(h:ad (Ey C i b A d e f g q a E c r [.n r true])):
 aX (ao Tryz.f56 1) (k1 j i E c a F C G H) .ret (w9 false):=
 h.aV [2] []
theorem Zm(h:ad (Ey C b d A f g i j q c E e r [.n r false,.p (a≠0),.v (b.tdiv a),.p (a≠0),.b (b.tdiv a==b.tmod a) true,.b (decide ((A.length:Int)>0)) true])):
 aX (ao Tryz.f56 1) (k1 a b E e c F C G H) .ret (w9 false):=
 h.aV [2] []
theorem Zn(h:ad (Ey C b e A f g i j q c E d r [.n r false,.p (a≠0),.v (b.tdiv a),.p (a≠0),.b (b.tdiv a==b.tmod a) true,.b (decide ((A.length:Int)>0)) false,.u b])):
 aX (ao Tryz.f56 1) (k1 a b E d c F C G H) .normal (k1 a (b+1) E d c F C G H):=
 h.aV [5,1,3] [1]
theorem aaO(h:ad (Ey A b e C f g i j q c E d r [.n r false,.p (a≠0),.v (b.tdiv a),.p (a≠0),.b (b.tdiv a==b.tmod a) false,.u b])):
 aX (ao Tryz.f56 1) (k1 a b E d c F A G H) .normal (k1 a (b+1) E d c F A G H):=
 h.aV [5,1,3] [1]
def zP(a:Int)(A:ae)(b c:Int)(C E F G:ae):aD:=bd 170 [(1,aQ 1),(3,aW a)] [(1,[.J .free 4 A,au b,au c,.J .free 8 C,.J .free 6 E,.J .free 5 F,.J .free 3 G])]
theorem aaP(h:ad [.f A d false]):
 aX (ao Tryz.f56 1) (k1 a d G b c C A E F) (.exit 2) (zP a G b c C A E F):=
 h.aV [1,3] [1]
def Ex(A:ae)(a b:Int)(q:Bool)(C E F:ae)(W:Code)(G:ae)(l:List O):List O:=U5 A a b q C E F (.l [] [4,3,1] [1] W (rI A a b C E F G 0) (.exit 0) (Hq A a b C E F G)::l)
theorem aaQ(h:ad (Ex A a b q C E F (ao Tryz.f56 0) G [.l [] [5,1,3] [1] (ao Tryz.f56 1) (k1 a 0 A a b C E F G) .ret (w9 r)])):
 ar 56 [.agg (cl A a b C E F G)] [ag r]:=
 h.of
def lE(a:Int)(A:ae)(b c:Int)(C E F G:ae)(d:Int):aD:=bd 170 [(1,aQ 1),(3,aW a),(7,aW d)] [(1,[.J .free 4 A,au b,au c,.J .free 8 C,.J .free 6 E,.J .free 5 F,.J .free 3 G])]
def uO(q:Bool):aD:=bd 170 [(2,.aF (.one (.a' q)))] []
def U8(A:ae)(a:Int)(q:Bool)(b c:Int)(r s:Bool)(d:Int)(l:List O):List O:=.i A a [B q,I b,I c,B r,B s]::.v (d-1)::l
def U9(A:ae)(a:Int)(q:Bool)(b c:Int)(r s:Bool)(d:Int)(t:Bool)(l:List O):List O:=U8 A a q b c r s d (.r 168 [af b,af 0,af (d-1)] [ag t]::l)
theorem aaR(h:ad (U9 A b r c e s t a q [.n q true])):
 aX (ao Tryz.f56 2) (lE a G f d C E A F b) .ret (uO false):=
 h.aV [2] []
def AR(A:ae)(a:Int)(q:Bool)(b c:Int)(r s:Bool)(d:Int)(t u:Bool)(e f:Int)(v w:Bool)(l:List O):List O:=U9 A a q b c r s d t (.n t false::.x A a [B u,I e,I f,B v,B w]::l)
theorem aaS(h:ad (AR A a s c f t u b q r g i v w [.n r true,.x A a [B x,I d,I j,B y,B z],.b (d != 0) true])):
 aX (ao Tryz.f56 2) (lE b G k e C E A F a) .ret (uO false):=
 h.aV [2] []
theorem aaT(h:ad (AR A a t c g u v b q r i j w x [.n r true,.x A a [B y,I d,I k,B z,B hE],.b (d != 0) false,.x A a [B kF,I l,I e,B iU,B t0],.r 168 [af e,af (-1000000),af 1000000] [ag s],.n s true])):
 aX (ao Tryz.f56 2) (lE b G m f C E A F a) .ret (uO false):=
 h.aV [2] []
theorem aaU(h:ad (AR A a t d i u v b q r j k w x [.n r true,.x A a [B y,I e,I l,B z,B hE],.b (e != 0) false,.x A a [B kF,I m,I f,B iU,B t0],.r 168 [af f,af (-1000000),af 1000000] [ag s],.n s false,.u a])):
 aX (ao Tryz.f56 2) (lE b G g c C E A F a) .normal (lE b G g c C E A F (a+1)):=
 h.aV [7,1,3] [1]
theorem aaV(h:ad (AR A a t c f u v b q r g i w x [.n r false,.x A a [B y,I j,I d,B z,B hE],.r 168 [af d,af (-1000000),af 1000000] [ag s],.n s true])):
 aX (ao Tryz.f56 2) (lE b G k e C E A F a) .ret (uO false):=
 h.aV [2] []
theorem aaW(h:ad (AR A a t d g u v b q r i j w x [.n r false,.x A a [B y,I k,I e,B z,B hE],.r 168 [af e,af (-1000000),af 1000000] [ag s],.n s false,.u a])):
 aX (ao Tryz.f56 2) (lE b G f c C E A F a) .normal (lE b G f c C E A F (a+1)):=
 h.aV [7,1,3] [1]
def Cx(a:Int)(A:ae)(b c:Int)(C E F G:ae):aD:=bd 170 [(1,aQ 1),(3,aW a)] [(1,[.J .free 4 A,au b,au c,.J .free 8 C,.J .free 6 E,.J .free 5 F,.J .free 3 G])]
theorem aaX(h:ad [.f A c false]):
 aX (ao Tryz.f56 2) (lE a G d b C E A F c) (.exit 4) (Cx a G d b C E A F):=
 h.aV [1,3] [1]
theorem aaY(h:ad (Ex A a b r C E F (ao Tryz.f56 0) G [.l [] [5,1,3] [1] (ao Tryz.f56 1) (k1 a 0 A a b C E F G) (.exit 2) (zP a M d c H aj K L),.l [] [7,1,3] [1] (ao Tryz.f56 2) (lE a M d c H aj K L 0) .ret (uO q)])):
 ar 56 [.agg (cl A a b C E F G)] [ag q]:=
 h.of
def qm(a:Int)(A:ae)(b c:Int)(C E F G:ae)(d:Int):aD:=bd 170 [(1,aQ 1),(3,aW a),(8,aW d)] [(1,[.J .free 4 A,au b,au c,.J .free 8 C,.J .free 6 E,.J .free 5 F,.J .free 3 G])]
def zQ(q:Bool):aD:=bd 170 [(2,.aF (.one (.a' q)))] []
theorem aaZ(h:ad [.i A b [I c,I e,B r],.v (a-1),.r 168 [af c,af 0,af (a-1)] [ag q],.n q true]):
 aX (ao Tryz.f56 3) (qm a G f d C E F A b) .ret (zQ false):=
 h.aV [2] []
theorem aa0(h:ad [.i A b [I c,I f,B s],.v (a-1),.r 168 [af c,af 0,af (a-1)] [ag q],.n q false,.x A b [I g,I d,B t],.r 168 [af d,af 0,af 3] [ag r],.n r true]):
 aX (ao Tryz.f56 3) (qm a G i e C E F A b) .ret (zQ false):=
 h.aV [2] []
theorem aa1(h:ad [.i A a [I d,I g,B s],.v (b-1),.r 168 [af d,af 0,af (b-1)] [ag q],.n q false,.x A a [I i,I e,B t],.r 168 [af e,af 0,af 3] [ag r],.n r false,.u a]):
 aX (ao Tryz.f56 3) (qm b G f c C E F A a) .normal (qm b G f c C E F A (a+1)):=
 h.aV [8,1,3] [1]
def Jy:aD:=bd 170 [] []
theorem aa2(h:ad [.f A a false]):
 aX (ao Tryz.f56 3) (qm b G d c C E F A a) (.exit 6) Jy:=
 h.aV [] []
theorem aa3(h:ad (Ex A a b r C E F (ao Tryz.f56 0) L [.l [] [5,1,3] [1] (ao Tryz.f56 1) (k1 a 0 A a b C E F L) (.exit 2) (zP a M d c G H aj K),.l [] [7,1,3] [1] (ao Tryz.f56 2) (lE a M d c G H aj K 0) (.exit 4) (Cx a M d c G H aj K),.l [] [8,1,3] [1] (ao Tryz.f56 3) (qm a M d c G H aj K 0) .ret (zQ q)])):
 ar 56 [.agg (cl A a b C E F L)] [ag q]:=
 h.of
theorem aa4(h:ad (Ex A a b q C E F (ao Tryz.f56 0) L [.l [] [5,1,3] [1] (ao Tryz.f56 1) (k1 a 0 A a b C E F L) (.exit 2) (zP a M d c G H aj K),.l [] [7,1,3] [1] (ao Tryz.f56 2) (lE a M d c G H aj K 0) (.exit 4) (Cx a M d c G H aj K),.l [] [8,1,3] [1] (ao Tryz.f56 3) (qm a M d c G H aj K 0) (.exit 6) Jy])):
 ar 56 [.agg (cl A a b C E F L)] [ag true]:=
 h.of
def L7(A:ae)(a b:Int)(q:Bool)(l:List O):List O:=.r 179 [.agg (bk A a b)] [ag q]::l
theorem aa5(h:ad (L7 A a b q [.n q true])):
 ar 55 [.agg (cl A a b C E F G)] [ag false]:=
 h.of
theorem aa6(h:ad (L7 A a b q [.n q false,.b ((C.length:Int) != a) true])):
 ar 55 [.agg (cl A a b C E F G)] [ag false]:=
 h.of
def U'(A:ae)(a b:Int)(q:Bool)(C:ae)(l:List O):List O:=L7 A a b q (.n q false::.b ((C.length:Int) != a) false::.v (a*a)::l)
theorem aa7(h:ad (U' A a b q C [.b ((E.length:Int) != a*a) true])):
 ar 55 [.agg (cl A a b C E F G)] [ag false]:=
 h.of
def Va(A:ae)(a b:Int)(q:Bool)(C E:ae)(l:List O):List O:=U' A a b q C (.b ((E.length:Int) != a*a) false::l)
theorem aa8(h:ad (Va A a b q C E [.b ((F.length:Int) != 4) true])):
 ar 55 [.agg (cl A a b C E F G)] [ag false]:=
 h.of
def rH(a:Int)(A:ae)(b:Int)(C:ae)(c d:Int)(E F G H:ae):aD:=bd 147 [(1,aQ 1),(3,aW a),(42,dj 8 A),(43,aW (A.length:Int)),(44,aW b)] [(1,[.J .free 4 C,au c,au d,.J .free 8 E,.J .free 6 F,.J .free 5 G,.J .free 3 H])]
def Cy(q:Bool):aD:=bd 147 [(2,.aF (.one (.a' q)))] []
theorem aa9(h:ad [.i L c (ba A C E F G H aj K),.r 187 [.agg (bk M a b),.agg (ba A C E F G H aj K)] [ag q],.n q true]):
 aX (ao Tryz.f55 0) (rH d L c M a b N Q R S) .ret (Cy false):=
 h.aV [2] []
theorem aba(h:ad [.i A a (ba aj K L M N Q R S),.r 187 [.agg (bk C b c),.agg (ba aj K L M N Q R S)] [ag q],.n q false,.u a]):
 aX (ao Tryz.f55 0) (rH d A a C b c E F G H) .normal (rH d A (a+1) C b c E F G H):=
 h.aV [44,43,42,1,3] [1]
def Hr(a:Int)(A:ae)(b c:Int)(C E F G:ae):aD:=bd 147 [(1,aQ 1),(3,aW a)] [(1,[.J .free 4 A,au b,au c,.J .free 8 C,.J .free 6 E,.J .free 5 F,.J .free 3 G])]
theorem abb(h:ad [.f G d false]):
 aX (ao Tryz.f55 0) (rH a G d H b c A C E F) (.exit 0) (Hr a H b c A C E F):=
 h.aV [1,3] [1]
def Vb(A:ae)(a b:Int)(q:Bool)(C E F:ae)(l:List O):List O:=Va A a b q C E (.b ((F.length:Int) != 4) false::l)
theorem abd(h:ad (Vb C a b q A E F [.l [] [44,43,42,1,3] [1] (ao Tryz.f55 0) (rH a A 0 C a b A E F G) .ret (Cy r)])):
 ar 55 [.agg (cl C a b A E F G)] [ag r]:=
 h.of
def k2(a:Int)(A:ae)(b:Int)(C:ae)(c d:Int)(E F G H:ae):aD:=bd 147 [(1,aQ 1),(3,aW a),(55,dj 6 A),(56,aW (A.length:Int)),(57,aW b)] [(1,[.J .free 4 C,au c,au d,.J .free 8 E,.J .free 6 F,.J .free 5 G,.J .free 3 H])]
def w'(q:Bool):aD:=bd 147 [(2,.aF (.one (.a' q)))] []
def L1(A:ae)(a b:Int)(C:ae)(c d e f:Int)(q:Bool)(l:List O):List O:=.i A a (cd b C c d e f)::.r 188 [.agg (cd b C c d e f)] [ag q]::l
theorem abe(h:ad (L1 A a b C c d e f q [.n q true])):
 aX (ao Tryz.f55 1) (k2 g A a E i j F G H aj) .ret (w' false):=
 h.aV [2] []
theorem aao(h:ad (L1 A b a C d e f g q [.n q false,.b (a != c) true])):
 aX (ao Tryz.f55 1) (k2 i A b E j c F G H aj) .ret (w' false):=
 h.aV [2] []
def EB(A:ae)(a b:Int)(C:ae)(c d e f:Int)(q:Bool)(g:Int)(E:ae)(i:Int)(r:Bool)(l:List O):List O:=L1 A a b C c d e f q (.n q false::.b (b != g) false::.r 189 [.agg (bk E i g),aP 5 C] [ag r]::l)
theorem aap(h:ad (EB C c b A e f g i q a E d r [.n r true])):
 aX (ao Tryz.f55 1) (k2 j C c E d a F G H aj) .ret (w' false):=
 h.aV [2] []
theorem aaq(h:ad (EB C b d A f g i j q c E e r [.n r false,.p (a≠0),.v (b.tdiv a),.p (a≠0),.b (b.tdiv a==b.tmod a) true,.b (decide ((A.length:Int)>0)) true])):
 aX (ao Tryz.f55 1) (k2 a C b E e c F G H aj) .ret (w' false):=
 h.aV [2] []
theorem aar(h:ad (EB C b e A f g i j q c E d r [.n r false,.p (a≠0),.v (b.tdiv a),.p (a≠0),.b (b.tdiv a==b.tmod a) true,.b (decide ((A.length:Int)>0)) false,.u b])):
 aX (ao Tryz.f55 1) (k2 a C b E d c F G H aj) .normal (k2 a C (b+1) E d c F G H aj):=
 h.aV [57,56,55,1,3] [1]
theorem aas(h:ad (EB A b e E f g i j q c C d r [.n r false,.p (a≠0),.v (b.tdiv a),.p (a≠0),.b (b.tdiv a==b.tmod a) false,.u b])):
 aX (ao Tryz.f55 1) (k2 a A b C d c F G H aj) .normal (k2 a A (b+1) C d c F G H aj):=
 h.aV [57,56,55,1,3] [1]
def zR(a:Int)(A:ae)(b c:Int)(C E F G:ae):aD:=bd 147 [(1,aQ 1),(3,aW a)] [(1,[.J .free 4 A,au b,au c,.J .free 8 C,.J .free 6 E,.J .free 5 F,.J .free 3 G])]
theorem aat(h:ad [.f A b false]):
 aX (ao Tryz.f55 1) (k2 a A b C c d E F G H) (.exit 2) (zR a C c d E F G H):=
 h.aV [1,3] [1]
def EC(A:ae)(a b:Int)(q:Bool)(C E F:ae)(W:Code)(G H:ae)(c d:Int)(aj K L M:ae)(l:List O):List O:=Vb A a b q C E F (.l [] [44,43,42,1,3] [1] W (rH a C 0 A a b C E F G) (.exit 0) (Hr a H c d aj K L M)::l)
theorem aau(h:ad (EC C a b r A F G (ao Tryz.f55 0) L M d c H E aj K [.l [] [57,56,55,1,3] [1] (ao Tryz.f55 1) (k2 a E 0 M d c H E aj K) .ret (w' q)])):
 ar 55 [.agg (cl C a b A F G L)] [ag q]:=
 h.of
def lF(a:Int)(A:ae)(b:Int)(C:ae)(c d:Int)(E F G H:ae):aD:=bd 147 [(1,aQ 1),(3,aW a),(98,dj 5 A),(99,aW (A.length:Int)),(100,aW b)] [(1,[.J .free 4 C,au c,au d,.J .free 8 E,.J .free 6 F,.J .free 5 G,.J .free 3 H])]
def uP(q:Bool):aD:=bd 147 [(2,.aF (.one (.a' q)))] []
def xq(A:ae)(a:Int)(q:Bool)(b c:Int)(r s:Bool)(d:Int)(t:Bool)(l:List O):List O:=U8 A a q b c r s d (.r 190 [af b,af 0,af (d-1)] [ag t]::l)
theorem aav(h:ad (xq A b r c f s t a q [.n q true])):
 aX (ao Tryz.f55 2) (lF a A b C d e E F G H) .ret (uP false):=
 h.aV [2] []
theorem aaw(h:ad (xq A c q b f s t a r [.n r false,.n q true,.b (b != 0) true])):
 aX (ao Tryz.f55 2) (lF a A c C d e E F G H) .ret (uP false):=
 h.aV [2] []
theorem aax(h:ad (xq A c q b d t u a r [.n r false,.n q true,.b (b != 0) false,.r 190 [af d,af (-1000000),af 1000000] [ag s],.n s true])):
 aX (ao Tryz.f55 2) (lF a A c C e f E F G H) .ret (uP false):=
 h.aV [2] []
theorem aay(h:ad (xq A b q c f t u a r [.n r false,.n q true,.b (c != 0) false,.r 190 [af f,af (-1000000),af 1000000] [ag s],.n s false,.u b])):
 aX (ao Tryz.f55 2) (lF a A b C d e E F G H) .normal (lF a A (b+1) C d e E F G H):=
 h.aV [100,99,98,3,1] [1]
theorem aaz(h:ad (xq A b q c d t u a r [.n r false,.n q false,.r 190 [af d,af (-1000000),af 1000000] [ag s],.n s true])):
 aX (ao Tryz.f55 2) (lF a A b C e f E F G H) .ret (uP false):=
 h.aV [2] []
theorem aaA(h:ad (xq A b q e f t u a r [.n r false,.n q false,.r 190 [af f,af (-1000000),af 1000000] [ag s],.n s false,.u b])):
 aX (ao Tryz.f55 2) (lF a A b C c d E F G H) .normal (lF a A (b+1) C c d E F G H):=
 h.aV [100,99,98,3,1] [1]
def Cz(a:Int)(A:ae)(b c:Int)(C E F G:ae):aD:=bd 147 [(1,aQ 1),(3,aW a)] [(1,[.J .free 4 A,au b,au c,.J .free 8 C,.J .free 6 E,.J .free 5 F,.J .free 3 G])]
theorem aaB(h:ad [.f A b false]):
 aX (ao Tryz.f55 2) (lF a A b C c d E F G H) (.exit 4) (Cz a C c d E F G H):=
 h.aV [1,3] [1]
theorem aaC(h:ad (EC C a b r A G H (ao Tryz.f55 0) S bi f c aj E K L [.l [] [57,56,55,1,3] [1] (ao Tryz.f55 1) (k2 a E 0 bi f c aj E K L) (.exit 2) (zR a M d e N Q F R),.l [] [100,99,98,3,1] [1] (ao Tryz.f55 2) (lF a F 0 M d e N Q F R) .ret (uP q)])):
 ar 55 [.agg (cl C a b A G H S)] [ag q]:=
 h.of
def qn(a:Int)(A:ae)(b:Int):aD:=bd 147 [(3,aW a),(128,dj 3 A),(129,aW (A.length:Int)),(130,aW b)] []
def zS(q:Bool):aD:=bd 147 [(2,.aF (.one (.a' q)))] []
theorem aaD(h:ad [.i A b [I c,I d,B r],.v (a-1),.r 190 [af c,af 0,af (a-1)] [ag q],.n q true]):
 aX (ao Tryz.f55 3) (qn a A b) .ret (zS false):=
 h.aV [2] []
theorem aaE(h:ad [.i A b [I c,I d,B s],.v (a-1),.r 190 [af c,af 0,af (a-1)] [ag q],.n q false,.r 190 [af d,af 0,af 3] [ag r],.n r true]):
 aX (ao Tryz.f55 3) (qn a A b) .ret (zS false):=
 h.aV [2] []
theorem aaF(h:ad [.i A b [I c,I d,B s],.v (a-1),.r 190 [af c,af 0,af (a-1)] [ag q],.n q false,.r 190 [af d,af 0,af 3] [ag r],.n r false,.u b]):
 aX (ao Tryz.f55 3) (qn a A b) .normal (qn a A (b+1)):=
 h.aV [130,129,128,3] []
def Jz:aD:=bd 147 [] []
theorem aaG(h:ad [.f A a false]):
 aX (ao Tryz.f55 3) (qn b A a) (.exit 6) Jz:=
 h.aV [] []
theorem aaH(h:ad (EC C a b r A G H (ao Tryz.f55 0) bi V f c aj E K L [.l [] [57,56,55,1,3] [1] (ao Tryz.f55 1) (k2 a E 0 V f c aj E K L) (.exit 2) (zR a M d e N Q F R),.l [] [100,99,98,3,1] [1] (ao Tryz.f55 2) (lF a F 0 M d e N Q F R) (.exit 4) (Cz a X g i Y Z eg S),.l [] [130,129,128,3] [] (ao Tryz.f55 3) (qn a S 0) .ret (zS q)])):
 ar 55 [.agg (cl C a b A G H bi)] [ag q]:=
 h.of
theorem aaI(h:ad (EC C a b q A G H (ao Tryz.f55 0) bi V f c aj E K L [.l [] [57,56,55,1,3] [1] (ao Tryz.f55 1) (k2 a E 0 V f c aj E K L) (.exit 2) (zR a M d e N Q F R),.l [] [100,99,98,3,1] [1] (ao Tryz.f55 2) (lF a F 0 M d e N Q F R) (.exit 4) (Cz a X g i Y Z eg S),.l [] [130,129,128,3] [] (ao Tryz.f55 3) (qn a S 0) (.exit 6) Jz])):
 ar 55 [.agg (cl C a b A G H bi)] [ag true]:=
 h.of
