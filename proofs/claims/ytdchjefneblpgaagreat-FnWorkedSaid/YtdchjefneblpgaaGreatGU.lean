import Derived.Test.YtdchjefneblpgaaGreatGE
namespace Go.Proofs.YtdchjefneblpgaaGreat
open Go.Sx Go.RowKit
variable {a b c d e f g i j k l m n o p a0 cc dk d0 bB f0 : Int} {A C E F G H aj K L M N Q R S bi V X Y Z eg : ae} {q r s t u v w x y z hE kG iU t0 : Bool}
theorem Y4(h:ad [.b (decide (a<1)) true]):
ar 245 [af b,af a] [af 0]:=
h.of
theorem Y5(h:ad [.b (decide (a<1)) false,.p (a≠0),.b (decide (b.tmod a<0)) true,.v (b.tmod a+a)]):
ar 245 [af b,af a] [af (b.tmod a+a)]:=
h.of
theorem Y6(h:ad [.b (decide (a<1)) false,.p (a≠0),.b (decide (b.tmod a<0)) false]):
ar 245 [af b,af a] [af (b.tmod a)]:=
h.of
def th(A:ae)(a:Int):aD:=bd 21 [(0,dj 4 A),(3,aW a)] []
def Kd(q:Bool):aD:=bd 21 [(2,.aF (.one (.a' q)))] []
def Eo(A:ae)(a b c d e f g i j:Int)(l:List O):List O:=.f A a true::.v (a-1)::.p (0<=a-1)::.p (a-1<(A.length:Int))::.e A ((a-1).toNat) [I b,I c,I d,I e]::.x A a [I f,I g,I i,I j]::l
theorem Y7(h:ad (Eo A a c d e f g i j k [.r 307 [.agg [I c,I d,I e,I f],.agg [I g,I i,I j,I k]] [af b],.b (decide (b>=0)) true])):
aY (ao Tryz.f266 0) (th A a) .ret (Kd false):=
h.aV [2] []
theorem Y8(h:ad (Eo A a c d e f g i j k [.r 307 [.agg [I c,I d,I e,I f],.agg [I g,I i,I j,I k]] [af b],.b (decide (b>=0)) false,.u a])):
aY (ao Tryz.f266 0) (th A a) .normal (th A (a+1)):=
h.aV [3,0] []
def QK:aD:=bd 21 [] []
theorem Y9(h:ad [.f A a false]):
aY (ao Tryz.f266 0) (th A a) (.exit 0) QK:=
h.aV [] []
theorem Y'(h:ad [.l [] [3,0] [] (ao Tryz.f266 0) (th A 1) .ret (Kd q)]):
ar 266 [aP 4 A] [ah q]:=
h.of
theorem Za(h:ad [.l [] [3,0] [] (ao Tryz.f266 0) (th A 1) (.exit 0) QK]):
ar 266 [aP 4 A] [ah true]:=
h.of
def ti(A:ae)(a:Int):aD:=bd 21 [(0,dj 4 A),(3,aW a)] []
def Jp(q:Bool):aD:=bd 21 [(2,.aF (.one (.a' q)))] []
theorem Zb(h:ad (Eo A a c d e f g i j k [.r 304 [.agg [I c,I d,I e,I f],.agg [I g,I i,I j,I k]] [af b],.b (decide (b>=0)) true])):
aY (ao Tryz.f280 0) (ti A a) .ret (Jp false):=
h.aV [2] []
theorem Zc(h:ad (Eo A a c d e f g i j k [.r 304 [.agg [I c,I d,I e,I f],.agg [I g,I i,I j,I k]] [af b],.b (decide (b>=0)) false,.u a])):
aY (ao Tryz.f280 0) (ti A a) .normal (ti A (a+1)):=
h.aV [3,0] []
def QL:aD:=bd 21 [] []
theorem Zd(h:ad [.f A a false]):
aY (ao Tryz.f280 0) (ti A a) (.exit 0) QL:=
h.aV [] []
theorem Ze(h:ad [.l [] [3,0] [] (ao Tryz.f280 0) (ti A 1) .ret (Jp q)]):
ar 280 [aP 4 A] [ah q]:=
h.of
theorem Zf(h:ad [.l [] [3,0] [] (ao Tryz.f280 0) (ti A 1) (.exit 0) QL]):
ar 280 [aP 4 A] [ah true]:=
h.of
def tj(A:ae)(a b:Int)(C:ae)(c:Int):aD:=bd 29 [(1,dj 5 C),(2,aQ 2),(5,aW c)] [(2,[.J .free 4 A,au a,au b])]
def C3(q:Bool):aD:=bd 29 [(4,.aF (.one (.a' q)))] []
def AL(A:ae)(a b c d e f:Int)(q:Bool)(l:List O):List O:=.i A a (bj b c d e f)::.r 122 [.agg (bj b c d e f)] [ah q]::l
theorem Zg(h:ad (AL A a b c d e f q [.n q true])):
aY (ao Tryz.f192 0) (tj C g i A a) .ret (C3 false):=
h.aV [4] []
theorem Zh(h:ad (AL A a c d e f g q [.n q false,.x A a (bj b j k l m),.b (decide (b>=(C.length:Int))) true])):
aY (ao Tryz.f192 0) (tj C i n A a) .ret (C3 false):=
h.aV [4] []
theorem Yt(h:ad (AL A a e f g i j q [.n q false,.x A a (bj c k l m n),.b (decide (c>=(C.length:Int))) false,.u a])):
aY (ao Tryz.f192 0) (tj C b d A a) .normal (tj C b d A (a+1)):=
h.aV [5,1,2] [2]
def QM:aD:=bd 29 [] []
theorem Yu(h:ad [.f A a false]):
aY (ao Tryz.f192 0) (tj C b c A a) (.exit 0) QM:=
h.aV [] []
theorem Yv(h:ad [.l [] [5,1,2] [2] (ao Tryz.f192 0) (tj A a b C 0) .ret (C3 q)]):
ar 192 [.agg (bl A a b),aP 5 C] [ah q]:=
h.of
theorem Yw(h:ad [.l [] [5,1,2] [2] (ao Tryz.f192 0) (tj A a b C 0) (.exit 0) QM]):
ar 192 [.agg (bl A a b),aP 5 C] [ah true]:=
h.of
def tk(A:ae)(a:Int)(C:ae)(b c:Int):aD:=bd 24 [(2,aQ 2),(7,dj 5 A),(8,aW (A.length:Int)),(9,aW a)] [(2,[.J .free 4 C,au b,au c])]
def C4(q:Bool):aD:=bd 24 [(4,.aF (.one (.a' q)))] []
def AM(A:ae)(a b c d e f:Int)(q:Bool)(l:List O):List O:=.i A a (bj b c d e f)::.r 180 [.agg (bj b c d e f)] [ah q]::l
theorem Yx(h:ad (AM A d e f a b c q [.n q true])):
aY (ao Tryz.f189 0) (tk A d C g i) .ret (C4 false):=
h.aV [4] []
theorem Yy(h:ad (AM A e a i b c d q [.n q false,.r 250 [.agg (bl C f g),af a] [ah r],.n r true])):
aY (ao Tryz.f189 0) (tk A e C f g) .ret (C4 false):=
h.aV [4] []
theorem Yz(h:ad (AM A a d i e f g q [.n q false,.r 250 [.agg (bl C b c),af d] [ah r],.n r false,.u a])):
aY (ao Tryz.f189 0) (tk A a C b c) .normal (tk A (a+1) C b c):=
h.aV [9,8,7,2] [2]
def QN:aD:=bd 24 [] []
theorem YA(h:ad [.f A a false]):
aY (ao Tryz.f189 0) (tk A a C b c) (.exit 0) QN:=
h.aV [] []
theorem YB(h:ad [.l [] [9,8,7,2] [2] (ao Tryz.f189 0) (tk C 0 A a b) .ret (C4 q)]):
ar 189 [.agg (bl A a b),aP 5 C] [ah q]:=
h.of
theorem YC(h:ad [.l [] [9,8,7,2] [2] (ao Tryz.f189 0) (tk C 0 A a b) (.exit 0) QN]):
ar 189 [.agg (bl A a b),aP 5 C] [ah true]:=
h.of
def UG(A:ae)(a b:Int)(C:ae)(q:Bool)(l:List O):List O:=.r 192 [.agg (bl A a b),aP 5 C] [ah q]::l
theorem YD(h:ad (UG A a b C q [.n q true])):
ar 175 [.agg (bl A a b),.agg (ba C F G H aj K L E)] [ah false]:=
h.of
def UH(A:ae)(a b:Int)(C:ae)(q:Bool)(E:ae)(r:Bool)(l:List O):List O:=UG A a b C q (.n q false::.r 192 [.agg (bl A a b),aP 5 E] [ah r]::l)
theorem YE(h:ad (UH A a b C q E r [.n r true])):
ar 175 [.agg (bl A a b),.agg (ba C E G H aj K L F)] [ah false]:=
h.of
def UI(A:ae)(a b:Int)(C:ae)(q:Bool)(E:ae)(r:Bool)(F:ae)(s:Bool)(l:List O):List O:=UH A a b C q E r (.n r false::.r 192 [.agg (bl A a b),aP 5 F] [ah s]::l)
theorem YF(h:ad (UI A a b C q E r F s [.n s true])):
ar 175 [.agg (bl A a b),.agg (ba C E F H aj K L G)] [ah false]:=
h.of
def LK(A:ae)(a b:Int)(C:ae)(q:Bool)(E:ae)(r:Bool)(F:ae)(s:Bool)(G:ae)(t:Bool)(l:List O):List O:=UI A a b C q E r F s (.n s false::.r 266 [aP 4 G] [ah t]::l)
theorem YG(h:ad (LK A a b C q E r F s G t [.n t true])):
ar 175 [.agg (bl A a b),.agg (ba C E F G aj K L H)] [ah false]:=
h.of
theorem YH(h:ad (LK A a b C q E r F s G t [.n t false,.b ((H.length:Int) != 4) true])):
ar 175 [.agg (bl A a b),.agg (ba C E F G H K L aj)] [ah false]:=
h.of
def UJ(A:ae)(a b:Int)(C:ae)(q:Bool)(E:ae)(r:Bool)(F:ae)(s:Bool)(G:ae)(t:Bool)(H:ae)(l:List O):List O:=LK A a b C q E r F s G t (.n t false::.b ((H.length:Int) != 4) false::l)
theorem YI(h:ad (UJ A a b C q E r F s G t H [.b ((aj.length:Int) != 4) true])):
ar 175 [.agg (bl A a b),.agg (ba C E F G H aj L K)] [ah false]:=
h.of
def LL(A:ae)(a b:Int)(C:ae)(q:Bool)(E:ae)(r:Bool)(F:ae)(s:Bool)(G:ae)(t:Bool)(H aj:ae)(l:List O):List O:=UJ A a b C q E r F s G t H (.b ((aj.length:Int) != 4) false::l)
theorem YJ(h:ad (LL A a b C q E r F s G t H aj [.b ((K.length:Int) != 4) true])):
ar 175 [.agg (bl A a b),.agg (ba C E F G H aj K L)] [ah false]:=
h.of
def ng(A C E F G H aj K:ae)(a:Int):aD:=bd 147 [(3,aQ 3),(5,aW 4),(6,aW a)] [(3,[.J .free 5 A,.J .free 5 C,.J .free 5 E,.J .free 4 F,.J .free 1 G,.J .free 1 H,.J .free 1 aj,.J .free 2 K])]
def zP(q:Bool):aD:=bd 147 [(4,.aF (.one (.a' q)))] []
theorem YK(h:ad [.i A a (bj b c d e f),.b (b != 0) true]):
aY (ao Tryz.f175 0) (ng E F A G H aj K C a) .ret (zP false):=
h.aV [4] []
def tF(A:ae)(a b c d e f:Int)(l:List O):List O:=.i A a (bj b c d e f)::.b (b != 0) false::l
theorem YL(h:ad (tF A a b d e f g [.x A a (bj i j c k l),.b (c != 0) true])):
aY (ao Tryz.f175 0) (ng E F A G H aj K C a) .ret (zP false):=
h.aV [4] []
theorem YM(h:ad (tF A a b f g i j [.x A a (bj k l c m n),.b (c != 0) false,.b (decide (a>0)) true,.v (a-1),.p (0<=a-1),.p (a-1<(A.length:Int)),.e A ((a-1).toNat) (bj o d p a0 cc),.x A a (bj dk e d0 bB f0),.b (decide (d>e)) true])):
aY (ao Tryz.f175 0) (ng E F A G H aj K C a) .ret (zP false):=
h.aV [4] []
theorem YN(h:ad (tF A a b f g i j [.x A a (bj k l c m n),.b (c != 0) false,.b (decide (a>0)) true,.v (a-1),.p (0<=a-1),.p (a-1<(A.length:Int)),.e A ((a-1).toNat) (bj o d p a0 cc),.x A a (bj dk e d0 bB f0),.b (decide (d>e)) false,.u a])):
aY (ao Tryz.f175 0) (ng E F A G H aj K C a) .normal (ng E F A G H aj K C (a+1)):=
h.aV [6,3,5] [3]
theorem YO(h:ad (tF A a b d e f g [.x A a (bj i j c k l),.b (c != 0) false,.b (decide (a>0)) false,.u a])):
aY (ao Tryz.f175 0) (ng E F A G H aj K C a) .normal (ng E F A G H aj K C (a+1)):=
h.aV [6,3,5] [3]
def Ht(A C E F G H aj K:ae):aD:=bd 147 [(3,aQ 3),(5,aW 4)] [(3,[.J .free 5 A,.J .free 5 C,.J .free 5 E,.J .free 4 F,.J .free 1 G,.J .free 1 H,.J .free 1 aj,.J .free 2 K])]
theorem YP(h:ad [.f A a false]):
aY (ao Tryz.f175 0) (ng E F A G H aj K C a) (.exit 0) (Ht E F A G H aj K C):=
h.aV [5,3] [3]
theorem YQ(h:ad (LL A a b C q E r F s G t H aj [.b ((K.length:Int) != 4) false,.l [] [6,3,5] [3] (ao Tryz.f175 0) (ng C E F G H aj K L 0) .ret (zP u)])):
ar 175 [.agg (bl A a b),.agg (ba C E F G H aj K L)] [ah u]:=
h.of
def tm(A C E F G H aj K:ae)(a:Int):aD:=bd 147 [(3,aQ 3),(5,aW 4),(7,aW a)] [(3,[.J .free 5 A,.J .free 5 C,.J .free 5 E,.J .free 4 F,.J .free 1 G,.J .free 1 H,.J .free 1 aj,.J .free 2 K])]
def Jq(q:Bool):aD:=bd 147 [(4,.aF (.one (.a' q)))] []
theorem YR(h:ad [.b (decide (a<4)) true,.x A a [I b],.r 168 [af b,af (-1000000),af 1000000] [ah q],.n q true]):
aY (ao Tryz.f175 1) (tm E F G H A aj K C a) .ret (Jq false):=
h.aV [4] []
theorem YS(h:ad [.b (decide (a<4)) true,.x A a [I b],.r 168 [af b,af (-1000000),af 1000000] [ah q],.n q false,.u a]):
aY (ao Tryz.f175 1) (tm E F G H A aj K C a) .normal (tm E F G H A aj K C (a+1)):=
h.aV [7,5,3] [3]
def Jr(A C E F G H aj K:ae):aD:=bd 147 [(3,aQ 3)] [(3,[.J .free 5 A,.J .free 5 C,.J .free 5 E,.J .free 4 F,.J .free 1 G,.J .free 1 H,.J .free 1 aj,.J .free 2 K])]
theorem Yj(h:ad [.b (decide (a<4)) false]):
aY (ao Tryz.f175 1) (tm C E F G H aj K A a) (.exit 2) (Jr C E F G H aj K A):=
h.aV [3] [3]
def LM(A:ae)(a b:Int)(C:ae)(q:Bool)(E:ae)(r:Bool)(F:ae)(s:Bool)(G:ae)(t:Bool)(H aj K:ae)(W:Code)(L:ae)(l:List O):List O:=LL A a b C q E r F s G t H aj (.b ((K.length:Int) != 4) false::.l [] [6,3,5] [3] W (ng C E F G H aj K L 0) (.exit 0) (Ht C E F G H aj K L)::l)
theorem Yk(h:ad (LM K a b A q C r E s F t G H aj (ao Tryz.f175 0) L [.l [] [7,5,3] [3] (ao Tryz.f175 1) (tm A C E F G H aj L 0) .ret (Jq u)])):
ar 175 [.agg (bl K a b),.agg (ba A C E F G H aj L)] [ah u]:=
h.of
def qk(A C E F G H aj K:ae)(a:Int):aD:=bd 147 [(3,aQ 3),(8,aW a)] [(3,[.J .free 5 A,.J .free 5 C,.J .free 5 E,.J .free 4 F,.J .free 1 G,.J .free 1 H,.J .free 1 aj,.J .free 2 K])]
def Cv(q:Bool):aD:=bd 147 [(4,.aF (.one (.a' q)))] []
theorem Yl(h:ad [.i A a [I b,B r],.r 168 [af b,af 0,af 3] [ah q],.n q true]):
aY (ao Tryz.f175 2) (qk C E F G H aj K A a) .ret (Cv false):=
h.aV [4] []
def rU(A C E F G H aj K:ae)(a b:Int):aD:=bd 147 [(3,aQ 3),(8,aW a),(9,aW b)] [(3,[.J .free 5 A,.J .free 5 C,.J .free 5 E,.J .free 4 F,.J .free 1 G,.J .free 1 H,.J .free 1 aj,.J .free 2 K])]
def Cw(q:Bool):aD:=bd 147 [(4,.aF (.one (.a' q)))] []
theorem Ym(h:ad [.b (decide (b<a)) true,.x A b [I c,B q],.x A a [I d,B r],.b (c==d) true]):
aY (ao Tryz.f175 3) (rU C E F G H aj K A a b) .ret (Cw false):=
h.aV [4] []
theorem Yn(h:ad [.b (decide (a<b)) true,.x A a [I c,B q],.x A b [I d,B r],.b (c==d) false,.u a]):
aY (ao Tryz.f175 3) (rU C E F G H aj K A b a) .normal (rU C E F G H aj K A b (a+1)):=
h.aV [9,8,3] [3]
def Js(A C E F G H aj K:ae)(a:Int):aD:=bd 147 [(3,aQ 3),(8,aW a)] [(3,[.J .free 5 A,.J .free 5 C,.J .free 5 E,.J .free 4 F,.J .free 1 G,.J .free 1 H,.J .free 1 aj,.J .free 2 K])]
theorem Yo(h:ad [.b (decide (b<a)) false]):
aY (ao Tryz.f175 3) (rU C E F G H aj K A a b) (.exit 6) (Js C E F G H aj K A a):=
h.aV [8,3] [3]
theorem Yp(h:ad [.i A a [I b,B s],.r 168 [af b,af 0,af 3] [ah q],.n q false,.l [] [9,8,3] [3] (ao Tryz.f175 3) (rU C E F G H aj K A a 0) .ret (Cw r)]):
aY (ao Tryz.f175 2) (qk C E F G H aj K A a) .ret (Cv r):=
h.aV [4] []
theorem Yq(h:ad [.i A a [I b,B r],.r 168 [af b,af 0,af 3] [ah q],.n q false,.l [] [9,8,3] [3] (ao Tryz.f175 3) (rU C E F G H aj K A a 0) (.exit 6) (Js C E F G H aj K A a),.u a]):
aY (ao Tryz.f175 2) (qk C E F G H aj K A a) .normal (qk C E F G H aj K A (a+1)):=
h.aV [8,3] [3]
def Jt:aD:=bd 147 [] []
theorem Yr(h:ad [.f A a false]):
aY (ao Tryz.f175 2) (qk C E F G H aj K A a) (.exit 4) Jt:=
h.aV [] []
theorem Ys(h:ad (LM L a b A q C r E s F t G H aj (ao Tryz.f175 0) K [.l [] [7,5,3] [3] (ao Tryz.f175 1) (tm A C E F G H aj K 0) (.exit 2) (Jr A C E F G H aj K),.l [] [8,3] [3] (ao Tryz.f175 2) (qk A C E F G H aj K 0) .ret (Cv u)])):
ar 175 [.agg (bl L a b),.agg (ba A C E F G H aj K)] [ah u]:=
h.of
theorem ZS(h:ad (LM L a b A q C r E s F t G H aj (ao Tryz.f175 0) K [.l [] [7,5,3] [3] (ao Tryz.f175 1) (tm A C E F G H aj K 0) (.exit 2) (Jr A C E F G H aj K),.l [] [8,3] [3] (ao Tryz.f175 2) (qk A C E F G H aj K 0) (.exit 4) Jt])):
ar 175 [.agg (bl L a b),.agg (ba A C E F G H aj K)] [ah true]:=
h.of
def UL(A:ae)(a b:Int)(C:ae)(q:Bool)(l:List O):List O:=.r 189 [.agg (bl A a b),aP 5 C] [ah q]::l
theorem ZT(h:ad (UL A a b C q [.n q true])):
ar 187 [.agg (bl A a b),.agg (ba C F G H aj K L E)] [ah false]:=
h.of
def UM(A:ae)(a b:Int)(C:ae)(q:Bool)(E:ae)(r:Bool)(l:List O):List O:=UL A a b C q (.n q false::.r 189 [.agg (bl A a b),aP 5 E] [ah r]::l)
theorem ZU(h:ad (UM A a b C q E r [.n r true])):
ar 187 [.agg (bl A a b),.agg (ba C E G H aj K L F)] [ah false]:=
h.of
def UN(A:ae)(a b:Int)(C:ae)(q:Bool)(E:ae)(r:Bool)(F:ae)(s:Bool)(l:List O):List O:=UM A a b C q E r (.n r false::.r 189 [.agg (bl A a b),aP 5 F] [ah s]::l)
theorem ZV(h:ad (UN A a b C q E r F s [.n s true])):
ar 187 [.agg (bl A a b),.agg (ba C E F H aj K L G)] [ah false]:=
h.of
def LN(A:ae)(a b:Int)(C:ae)(q:Bool)(E:ae)(r:Bool)(F:ae)(s:Bool)(G:ae)(t:Bool)(l:List O):List O:=UN A a b C q E r F s (.n s false::.r 280 [aP 4 G] [ah t]::l)
theorem ZW(h:ad (LN A a b C q E r F s G t [.n t true])):
ar 187 [.agg (bl A a b),.agg (ba C E F G aj K L H)] [ah false]:=
h.of
def nf(A:ae)(a:Int)(C E F G H aj K L:ae):aD:=bd 121 [(3,aQ 3),(37,dj 5 A),(38,aW (A.length:Int)),(39,aW a)] [(3,[.J .free 5 C,.J .free 5 E,.J .free 5 F,.J .free 4 G,.J .free 1 H,.J .free 1 aj,.J .free 1 K,.J .free 2 L])]
def zQ(q:Bool):aD:=bd 121 [(4,.aF (.one (.a' q)))] []
theorem ZX(h:ad [.i A a (bj b c d e f),.b (b != 0) true]):
aY (ao Tryz.f187 0) (nf A a C E F G H aj K L) .ret (zQ false):=
h.aV [4] []
theorem ZY(h:ad (tF A a b d c e f [.b (c != 0) true])):
aY (ao Tryz.f187 0) (nf A a C E F G H aj K L) .ret (zQ false):=
h.aV [4] []
theorem ZZ(h:ad (tF C a b c d f g [.b (d != 0) false,.b (decide (a>0)) true,.v (a-1),.p (0<=a-1),.p (a-1<(A.length:Int)),.e A ((a-1).toNat) (bj i e j k l),.b (decide (e>c)) true])):
aY (ao Tryz.f187 0) (nf C a E F A G H aj K L) .ret (zQ false):=
h.aV [4] []
theorem Z0(h:ad (tF C a b c d f g [.b (d != 0) false,.b (decide (a>0)) true,.v (a-1),.p (0<=a-1),.p (a-1<(A.length:Int)),.e A ((a-1).toNat) (bj i e j k l),.b (decide (e>c)) false,.u a])):
aY (ao Tryz.f187 0) (nf C a E F A G H aj K L) .normal (nf C (a+1) E F A G H aj K L):=
h.aV [39,38,37,3] [3]
theorem Z1(h:ad (tF A a b d c e f [.b (c != 0) false,.b (decide (a>0)) false,.u a])):
aY (ao Tryz.f187 0) (nf A a C E F G H aj K L) .normal (nf A (a+1) C E F G H aj K L):=
h.aV [39,38,37,3] [3]
def Hq(A C E F G H aj K:ae):aD:=bd 121 [(3,aQ 3)] [(3,[.J .free 5 A,.J .free 5 C,.J .free 5 E,.J .free 4 F,.J .free 1 G,.J .free 1 H,.J .free 1 aj,.J .free 2 K])]
theorem Z2(h:ad [.f L a false]):
aY (ao Tryz.f187 0) (nf L a A C E F G H aj K) (.exit 0) (Hq A C E F G H aj K):=
h.aV [3] [3]
theorem Z3(h:ad (LN A a b E q F r C s G t [.n t false,.l [] [39,38,37,3] [3] (ao Tryz.f187 0) (nf C 0 E F C G aj K L H) .ret (zQ u)])):
ar 187 [.agg (bl A a b),.agg (ba E F C G aj K L H)] [ah u]:=
h.of
def LO(A:ae)(a b:Int)(C:ae)(q:Bool)(E:ae)(r:Bool)(F:ae)(s:Bool)(G:ae)(t:Bool)(W:Code)(H aj K L M N P Q R S bi V:ae)(l:List O):List O:=LN A a b C q E r F s G t (.n t false::.l [] [39,38,37,3] [3] W (nf F 0 C E F G H aj K L) (.exit 0) (Hq M N P Q R S bi V)::l)
theorem Z4(h:ad (LO A a b E q F r C s G t (ao Tryz.f187 0) K L M H N Q R S aj bi V X [.b ((aj.length:Int) != 4) true])):
ar 187 [.agg (bl A a b),.agg (ba E F C G K L M H)] [ah false]:=
h.of
theorem Z5(h:ad (LO A a b E q F r C s G t (ao Tryz.f187 0) L M N H Q R S bi aj K V X [.b ((aj.length:Int) != 4) false,.b ((K.length:Int) != 4) true])):
ar 187 [.agg (bl A a b),.agg (ba E F C G L M N H)] [ah false]:=
h.of
def Ep(A:ae)(a b:Int)(C:ae)(q:Bool)(E:ae)(r:Bool)(F:ae)(s:Bool)(G:ae)(t:Bool)(W:Code)(H aj K L M N P Q R S bi V:ae)(l:List O):List O:=LO A a b C q E r F s G t W H aj K L M N P Q R S bi V (.b ((R.length:Int) != 4) false::.b ((S.length:Int) != 4) false::l)
theorem Z6(h:ad (Ep A a b E q F r C s G t (ao Tryz.f187 0) M N Q H R S bi V aj K L X [.b ((L.length:Int) != 4) true])):
ar 187 [.agg (bl A a b),.agg (ba E F C G M N Q H)] [ah false]:=
h.of
def sM(C E F G A H aj K:ae)(a:Int):aD:=bd 121 [(3,aQ 3),(89,dj 1 A),(90,aW (A.length:Int)),(91,aW a)] [(3,[.J .free 5 C,.J .free 5 E,.J .free 5 F,.J .free 4 G,.J .free 1 A,.J .free 1 H,.J .free 1 aj,.J .free 2 K])]
def Ju(q:Bool):aD:=bd 121 [(4,.aF (.one (.a' q)))] []
theorem Z7(h:ad [.i A a [I b],.r 190 [af b,af (-1000000),af 1000000] [ah q],.n q true]):
aY (ao Tryz.f187 1) (sM C E F G A H aj K a) .ret (Ju false):=
h.aV [4] []
theorem Z8(h:ad [.i A a [I b],.r 190 [af b,af (-1000000),af 1000000] [ah q],.n q false,.u a]):
aY (ao Tryz.f187 1) (sM C E F G A H aj K a) .normal (sM C E F G A H aj K (a+1)):=
h.aV [91,90,89,3] [3]
def Jv(A C E F G H aj K:ae):aD:=bd 121 [(3,aQ 3)] [(3,[.J .free 5 A,.J .free 5 C,.J .free 5 E,.J .free 4 F,.J .free 1 G,.J .free 1 H,.J .free 1 aj,.J .free 2 K])]
theorem Z9(h:ad [.f A a false]):
aY (ao Tryz.f187 1) (sM C E F G A H aj K a) (.exit 2) (Jv C E F G A H aj K):=
h.aV [3] [3]
theorem Z'(h:ad (Ep A a b H q aj r C s K t (ao Tryz.f187 0) bi V X L M N Q R E F G S [.b ((G.length:Int) != 4) false,.l [] [91,90,89,3] [3] (ao Tryz.f187 1) (sM M N Q R E F G S 0) .ret (Ju u)])):
ar 187 [.agg (bl A a b),.agg (ba H aj C K bi V X L)] [ah u]:=
h.of
def ql(A:ae)(a:Int)(C E F G H aj K L:ae):aD:=bd 121 [(3,aQ 3),(100,dj 2 A),(101,aW (A.length:Int)),(102,aW a)] [(3,[.J .free 5 C,.J .free 5 E,.J .free 5 F,.J .free 4 G,.J .free 1 H,.J .free 1 aj,.J .free 1 K,.J .free 2 L])]
def Cx(q:Bool):aD:=bd 121 [(4,.aF (.one (.a' q)))] []
theorem aab(h:ad [.i A a [I b,B r],.r 190 [af b,af 0,af 3] [ah q],.n q true]):
aY (ao Tryz.f187 2) (ql A a C E F G H aj K L) .ret (Cx false):=
h.aV [4] []
def UK(A:ae)(a b:Int)(q r:Bool)(C:ae)(s:Bool)(l:List O):List O:=.i A a [I b,B q]::.r 190 [af b,af 0,af 3] [ah r]::.n r false::.p ((0:Int)<=none.getD 0)::.p (none.getD 0<=(some a).getD (C.length:Int))::.p ((some a).getD (C.length:Int)<=(C.length:Int))::.r 281 [.one (.J 2 (List.take (((some a).getD (C.length:Int)).toNat-0) (List.drop 0 C))),af b] [ah s]::l
theorem aac(h:ad (UK C a b s q A r [.b r true])):
aY (ao Tryz.f187 2) (ql C a E F G H aj K L A) .ret (Cx false):=
h.aV [4] []
theorem aad(h:ad (UK C a b s q A r [.b r false,.u a])):
aY (ao Tryz.f187 2) (ql C a E F G H aj K L A) .normal (ql C (a+1) E F G H aj K L A):=
h.aV [102,101,100,3] [3]
def Jw:aD:=bd 121 [] []
theorem aae(h:ad [.f A a false]):
aY (ao Tryz.f187 2) (ql A a C E F G H aj K L) (.exit 4) Jw:=
h.aV [] []
theorem aaf(h:ad (Ep G a b N q Q r M s R t (ao Tryz.f187 0) bi V X S H aj K L A C E F [.b ((E.length:Int) != 4) false,.l [] [91,90,89,3] [3] (ao Tryz.f187 1) (sM H aj K L A C E F 0) (.exit 2) (Jv H aj K L A C E F),.l [] [102,101,100,3] [3] (ao Tryz.f187 2) (ql F 0 H aj K L A C E F) .ret (Cx u)])):
ar 187 [.agg (bl G a b),.agg (ba N Q M R bi V X S)] [ah u]:=
h.of
theorem aag(h:ad (Ep G a b N q Q r M s R t (ao Tryz.f187 0) bi V X S H aj K L A C E F [.b ((E.length:Int) != 4) false,.l [] [91,90,89,3] [3] (ao Tryz.f187 1) (sM H aj K L A C E F 0) (.exit 2) (Jv H aj K L A C E F),.l [] [102,101,100,3] [3] (ao Tryz.f187 2) (ql F 0 H aj K L A C E F) (.exit 4) Jw])):
ar 187 [.agg (bl G a b),.agg (ba N Q M R bi V X S)] [ah true]:=
h.of
def uG(a:Int)(A:ae)(b c d e f:Int):aD:=bd 70 [(1,aQ 1),(3,aW f)] [(1,[au a,.J .free 5 A,au b,au c,au d,au e])]
def Jx(q:Bool):aD:=bd 70 [(2,.aF (.one (.a' q)))] []
theorem aah(h:ad (AL A c d e f a b q [.n q true])):
aY (ao Tryz.f191 0) (uG g A i j k l c) .ret (Jx false):=
h.aV [2] []
theorem Zs(h:ad (AL A a j k l c d q [.n q false,.u a])):
aY (ao Tryz.f191 0) (uG b A e f g i a) .normal (uG b A e f g i (a+1)):=
h.aV [3,1] [1]
def N3(a:Int)(A:ae)(b c d e:Int):aD:=bd 70 [(1,aQ 1)] [(1,[au a,.J .free 5 A,au b,au c,au d,au e])]
theorem Zt(h:ad [.f A f false]):
aY (ao Tryz.f191 0) (uG a A b c d e f) (.exit 0) (N3 a A b c d e):=
h.aV [1] [1]
theorem Zu(h:ad [.l [] [3,1] [1] (ao Tryz.f191 0) (uG a A b c d e 0) .ret (Jx q)]):
ar 191 [.agg (cd a A b c d e)] [ah q]:=
h.of
def UO(W:Code)(a:Int)(A:ae)(b c d e:Int)(q:Bool)(l:List O):List O:=.l [] [3,1] [1] W (uG a A b c d e 0) (.exit 0) (N3 a A b c d e)::.r 168 [af a,af 1,af 4] [ah q]::l
def UP(W:Code)(a:Int)(A:ae)(b c d e:Int)(q r:Bool)(l:List O):List O:=UO W a A b c d e q (.b q true::.r 168 [af b,af 0,af a] [ah r]::l)
def UQ(W:Code)(a:Int)(A:ae)(b c d e:Int)(q r s:Bool)(l:List O):List O:=UP W a A b c d e q r (.b r true::.r 168 [af c,af 0,af a] [ah s]::l)
def UR(W:Code)(a:Int)(A:ae)(b c d e:Int)(q r s:Bool)(l:List O):List O:=UQ W a A b c d e q r s (.b s true::.v (b+c)::.v (b+c+(A.length:Int))::l)
def LP(W:Code)(a:Int)(A:ae)(b c d e:Int)(q r s t:Bool)(l:List O):List O:=UR W a A b c d e q r s (.b (b+c+(A.length:Int)==a) true::.r 168 [af d,af 0,af 1000000000] [ah t]::l)
theorem Zv(h:ad (LP (ao Tryz.f191 0) a A b c d e q r s t [.b t true,.v (d-(A.length:Int)),.b (e==d-(A.length:Int)) true])):
ar 191 [.agg (cd a A b c d e)] [ah (decide (e>=0))]:=
h.of
theorem Zw(h:ad (LP (ao Tryz.f191 0) a A b c d e q r s t [.b t true,.v (d-(A.length:Int)),.b (e==d-(A.length:Int)) false])):
ar 191 [.agg (cd a A b c d e)] [ah false]:=
h.of
theorem Zx(h:ad (LP (ao Tryz.f191 0) a A b c d e q r s t [.b t false])):
ar 191 [.agg (cd a A b c d e)] [ah false]:=
h.of
theorem Zy(h:ad (UR (ao Tryz.f191 0) a A b c d e q r s [.b (b+c+(A.length:Int)==a) false])):
ar 191 [.agg (cd a A b c d e)] [ah false]:=
h.of
theorem Zz(h:ad (UQ (ao Tryz.f191 0) a A b c d e q r s [.b s false])):
ar 191 [.agg (cd a A b c d e)] [ah false]:=
h.of
theorem ZA(h:ad (UP (ao Tryz.f191 0) a A b c d e q r [.b r false])):
ar 191 [.agg (cd a A b c d e)] [ah false]:=
h.of
theorem ZB(h:ad (UO (ao Tryz.f191 0) a A b c d e q [.b q false])):
ar 191 [.agg (cd a A b c d e)] [ah false]:=
h.of
def US(a:Int)(q:Bool)(l:List O):List O:=.r 190 [af a,af 1,af 4] [ah q]::l
theorem ZC(h:ad (US a q [.n q true])):
ar 188 [.agg (cd a A b c d e)] [ah false]:=
h.of
def UT(a:Int)(q:Bool)(b:Int)(r:Bool)(l:List O):List O:=US a q (.n q false::.r 190 [af b,af 0,af a] [ah r]::l)
theorem ZD(h:ad (UT a q b r [.n r true])):
ar 188 [.agg (cd a A b c d e)] [ah false]:=
h.of
def UU(a:Int)(q:Bool)(b:Int)(r:Bool)(c:Int)(s:Bool)(l:List O):List O:=UT a q b r (.n r false::.r 190 [af c,af 0,af a] [ah s]::l)
theorem ZE(h:ad (UU a q b r c s [.n s true])):
ar 188 [.agg (cd a A b c d e)] [ah false]:=
h.of
def Ex(a:Int)(q:Bool)(b:Int)(r:Bool)(c:Int)(s:Bool)(A:ae)(l:List O):List O:=UU a q b r c s (.n s false::.v (b+c)::.v (b+c+(A.length:Int))::l)
theorem ZF(h:ad (Ex a q b r c s A [.b (b+c+(A.length:Int) != a) true])):
ar 188 [.agg (cd a A b c d e)] [ah false]:=
h.of
def Ey(a:Int)(q:Bool)(b:Int)(r:Bool)(c:Int)(s:Bool)(A:ae)(d:Int)(t:Bool)(l:List O):List O:=Ex a q b r c s A (.b (b+c+(A.length:Int) != a) false::.r 190 [af d,af 0,af 1000000000] [ah t]::l)
theorem ZG(h:ad (Ey a q b r c s A d t [.n t true])):
ar 188 [.agg (cd a A b c d e)] [ah false]:=
h.of
theorem ZH(h:ad (Ey a q b r c s A d t [.n t false,.b (decide (e<0)) true])):
ar 188 [.agg (cd a A b c d e)] [ah false]:=
h.of
theorem ZI(h:ad (Ey a q b r c s A d t [.n t false,.b (decide (e<0)) false,.v (d-e),.b (d-e != (A.length:Int)) true])):
ar 188 [.agg (cd a A b c d e)] [ah false]:=
h.of
theorem ZJ(h:ad (Ey a r b s c t A d u [.n u false,.b (decide (e<0)) false,.v (d-e),.b (d-e != (A.length:Int)) false,.r 282 [aP 5 A] [ah q]])):
ar 188 [.agg (cd a A b c d e)] [ah q]:=
h.of
def uQ(A:ae)(a:Int):aD:=bd 15 [(5,dj 5 A),(6,aW (A.length:Int)),(7,aW a)] []
def Jy(q:Bool):aD:=bd 15 [(2,.aF (.one (.a' q)))] []
theorem ZK(h:ad (AM A a b c d e f q [.n q true])):
aY (ao Tryz.f282 0) (uQ A a) .ret (Jy false):=
h.aV [2] []
theorem ZL(h:ad (AM A a b c d e f q [.n q false,.u a])):
aY (ao Tryz.f282 0) (uQ A a) .normal (uQ A (a+1)):=
h.aV [7,6,5] []
def QO:aD:=bd 15 [] []
theorem ZM(h:ad [.f A a false]):
aY (ao Tryz.f282 0) (uQ A a) (.exit 0) QO:=
h.aV [] []
theorem ZN(h:ad [.l [] [7,6,5] [] (ao Tryz.f282 0) (uQ A 0) .ret (Jy q)]):
ar 282 [aP 5 A] [ah q]:=
h.of
theorem ZO(h:ad [.l [] [7,6,5] [] (ao Tryz.f282 0) (uQ A 0) (.exit 0) QO]):
ar 282 [aP 5 A] [ah true]:=
h.of
def L0(A:ae)(a b:Int)(q:Bool)(l:List O):List O:=.r 121 [.agg (bl A a b)] [ah q]::l
theorem ZP(h:ad (L0 A a b q [.n q true])):
ar 56 [.agg (cl A a b C E F G)] [ah false]:=
h.of
theorem ZQ(h:ad (L0 A a b q [.n q false,.b ((C.length:Int) != a) true])):
ar 56 [.agg (cl A a b C E F G)] [ah false]:=
h.of
def U5(A:ae)(a b:Int)(q:Bool)(C:ae)(l:List O):List O:=L0 A a b q (.n q false::.b ((C.length:Int) != a) false::.v (a*a)::l)
theorem ZR(h:ad (U5 A a b q C [.b ((E.length:Int) != a*a) true])):
ar 56 [.agg (cl A a b C E F G)] [ah false]:=
h.of
def U6(A:ae)(a b:Int)(q:Bool)(C E:ae)(l:List O):List O:=U5 A a b q C (.b ((E.length:Int) != a*a) false::l)
theorem Zi(h:ad (U6 A a b q C E [.b ((F.length:Int) != 4) true])):
ar 56 [.agg (cl A a b C E F G)] [ah false]:=
h.of
def rI(A:ae)(a b:Int)(C E F G:ae)(c:Int):aD:=bd 170 [(1,aQ 1),(3,aW a),(4,aW c)] [(1,[.J .free 4 A,au a,au b,.J .free 8 C,.J .free 6 E,.J .free 5 F,.J .free 3 G])]
def Cy(q:Bool):aD:=bd 170 [(2,.aF (.one (.a' q)))] []
theorem Zj(h:ad [.b (decide (b<a)) true,.x L b (ba M C E F G H aj K),.r 175 [.agg (bl A a c),.agg (ba M C E F G H aj K)] [ah q],.n q true]):
aY (ao Tryz.f56 0) (rI A a c L N Q R b) .ret (Cy false):=
h.aV [2] []
theorem Zk(h:ad [.b (decide (a<b)) true,.x C a (ba R E F G H aj K L),.r 175 [.agg (bl A b c),.agg (ba R E F G H aj K L)] [ah q],.n q false,.u a]):
aY (ao Tryz.f56 0) (rI A b c C M N Q a) .normal (rI A b c C M N Q (a+1)):=
h.aV [4,3,1] [1]
def Hr(A:ae)(a b:Int)(C E F G:ae):aD:=bd 170 [(1,aQ 1),(3,aW a)] [(1,[.J .free 4 A,au a,au b,.J .free 8 C,.J .free 6 E,.J .free 5 F,.J .free 3 G])]
theorem Zl(h:ad [.b (decide (c<a)) false]):
aY (ao Tryz.f56 0) (rI A a b C E F G c) (.exit 0) (Hr A a b C E F G):=
h.aV [1,3] [1]
def U7(A:ae)(a b:Int)(q:Bool)(C E F:ae)(l:List O):List O:=U6 A a b q C E (.b ((F.length:Int) != 4) false::l)
theorem Zm(h:ad (U7 A a b q C E F [.l [] [4,3,1] [1] (ao Tryz.f56 0) (rI A a b C E F G 0) .ret (Cy r)])):
ar 56 [.agg (cl A a b C E F G)] [ah r]:=
h.of
def k4(a b:Int)(A:ae)(c d:Int)(C E F G:ae):aD:=bd 170 [(1,aQ 1),(3,aW a),(5,aW b)] [(1,[.J .free 4 A,au c,au d,.J .free 8 C,.J .free 6 E,.J .free 5 F,.J .free 3 G])]
def w'(q:Bool):aD:=bd 170 [(2,.aF (.one (.a' q)))] []
def L1(A:ae)(a b:Int)(C:ae)(c d e f:Int)(q:Bool)(l:List O):List O:=.i A a (cd b C c d e f)::.r 191 [.agg (cd b C c d e f)] [ah q]::l
theorem Zn(h:ad (L1 A f a C b c d e q [.n q true])):
aY (ao Tryz.f56 1) (k4 g f H i j E A F G) .ret (w' false):=
h.aV [2] []
theorem Zo(h:ad (L1 A g a C c d e f q [.n q false,.b (a != b) true])):
aY (ao Tryz.f56 1) (k4 i g H j b E A F G) .ret (w' false):=
h.aV [2] []
def EA(A:ae)(a b:Int)(C:ae)(c d e f:Int)(q:Bool)(g:Int)(E:ae)(i:Int)(r:Bool)(l:List O):List O:=L1 A a b C c d e f q (.n q false::.b (b != g) false::.r 192 [.agg (bl E i g),aP 5 C] [ah r]::l)
theorem Zp(h:ad (EA C i b A d e f g q a E c r [.n r true])):
aY (ao Tryz.f56 1) (k4 j i E c a F C G H) .ret (w' false):=
h.aV [2] []
theorem Zq(h:ad (EA C b d A f g i j q c E e r [.n r false,.p (a≠0),.v (b.tdiv a),.p (a≠0),.b (b.tdiv a==b.tmod a) true,.b (decide ((A.length:Int)>0)) true])):
aY (ao Tryz.f56 1) (k4 a b E e c F C G H) .ret (w' false):=
h.aV [2] []
theorem Zr(h:ad (EA C b e A f g i j q c E d r [.n r false,.p (a≠0),.v (b.tdiv a),.p (a≠0),.b (b.tdiv a==b.tmod a) true,.b (decide ((A.length:Int)>0)) false,.u b])):
aY (ao Tryz.f56 1) (k4 a b E d c F C G H) .normal (k4 a (b+1) E d c F C G H):=
h.aV [5,1,3] [1]
theorem aaS(h:ad (EA A b e C f g i j q c E d r [.n r false,.p (a≠0),.v (b.tdiv a),.p (a≠0),.b (b.tdiv a==b.tmod a) false,.u b])):
aY (ao Tryz.f56 1) (k4 a b E d c F A G H) .normal (k4 a (b+1) E d c F A G H):=
h.aV [5,1,3] [1]
def zR(a:Int)(A:ae)(b c:Int)(C E F G:ae):aD:=bd 170 [(1,aQ 1),(3,aW a)] [(1,[.J .free 4 A,au b,au c,.J .free 8 C,.J .free 6 E,.J .free 5 F,.J .free 3 G])]
theorem aaT(h:ad [.f A d false]):
aY (ao Tryz.f56 1) (k4 a d G b c C A E F) (.exit 2) (zR a G b c C A E F):=
h.aV [1,3] [1]
def Ez(A:ae)(a b:Int)(q:Bool)(C E F:ae)(W:Code)(G:ae)(l:List O):List O:=U7 A a b q C E F (.l [] [4,3,1] [1] W (rI A a b C E F G 0) (.exit 0) (Hr A a b C E F G)::l)
theorem aaU(h:ad (Ez A a b q C E F (ao Tryz.f56 0) G [.l [] [5,1,3] [1] (ao Tryz.f56 1) (k4 a 0 A a b C E F G) .ret (w' r)])):
ar 56 [.agg (cl A a b C E F G)] [ah r]:=
h.of
def lH(a:Int)(A:ae)(b c:Int)(C E F G:ae)(d:Int):aD:=bd 170 [(1,aQ 1),(3,aW a),(7,aW d)] [(1,[.J .free 4 A,au b,au c,.J .free 8 C,.J .free 6 E,.J .free 5 F,.J .free 3 G])]
def uR(q:Bool):aD:=bd 170 [(2,.aF (.one (.a' q)))] []
def U'(A:ae)(a:Int)(q:Bool)(b c:Int)(r s:Bool)(d:Int)(l:List O):List O:=.i A a [B q,I b,I c,B r,B s]::.v (d-1)::l
def Va(A:ae)(a:Int)(q:Bool)(b c:Int)(r s:Bool)(d:Int)(t:Bool)(l:List O):List O:=U' A a q b c r s d (.r 168 [af b,af 0,af (d-1)] [ah t]::l)
theorem aaV(h:ad (Va A b r c e s t a q [.n q true])):
aY (ao Tryz.f56 2) (lH a G f d C E A F b) .ret (uR false):=
h.aV [2] []
def AT(A:ae)(a:Int)(q:Bool)(b c:Int)(r s:Bool)(d:Int)(t u:Bool)(e f:Int)(v w:Bool)(l:List O):List O:=Va A a q b c r s d t (.n t false::.x A a [B u,I e,I f,B v,B w]::l)
theorem aaW(h:ad (AT A a s c f t u b q r g i v w [.n r true,.x A a [B x,I d,I j,B y,B z],.b (d != 0) true])):
aY (ao Tryz.f56 2) (lH b G k e C E A F a) .ret (uR false):=
h.aV [2] []
theorem aaX(h:ad (AT A a t c g u v b q r i j w x [.n r true,.x A a [B y,I d,I k,B z,B hE],.b (d != 0) false,.x A a [B kG,I l,I e,B iU,B t0],.r 168 [af e,af (-1000000),af 1000000] [ah s],.n s true])):
aY (ao Tryz.f56 2) (lH b G m f C E A F a) .ret (uR false):=
h.aV [2] []
theorem aaY(h:ad (AT A a t d i u v b q r j k w x [.n r true,.x A a [B y,I e,I l,B z,B hE],.b (e != 0) false,.x A a [B kG,I m,I f,B iU,B t0],.r 168 [af f,af (-1000000),af 1000000] [ah s],.n s false,.u a])):
aY (ao Tryz.f56 2) (lH b G g c C E A F a) .normal (lH b G g c C E A F (a+1)):=
h.aV [7,1,3] [1]
theorem aaZ(h:ad (AT A a t c f u v b q r g i w x [.n r false,.x A a [B y,I j,I d,B z,B hE],.r 168 [af d,af (-1000000),af 1000000] [ah s],.n s true])):
aY (ao Tryz.f56 2) (lH b G k e C E A F a) .ret (uR false):=
h.aV [2] []
theorem aa0(h:ad (AT A a t d g u v b q r i j w x [.n r false,.x A a [B y,I k,I e,B z,B hE],.r 168 [af e,af (-1000000),af 1000000] [ah s],.n s false,.u a])):
aY (ao Tryz.f56 2) (lH b G f c C E A F a) .normal (lH b G f c C E A F (a+1)):=
h.aV [7,1,3] [1]
def Cz(a:Int)(A:ae)(b c:Int)(C E F G:ae):aD:=bd 170 [(1,aQ 1),(3,aW a)] [(1,[.J .free 4 A,au b,au c,.J .free 8 C,.J .free 6 E,.J .free 5 F,.J .free 3 G])]
theorem aa1(h:ad [.f A c false]):
aY (ao Tryz.f56 2) (lH a G d b C E A F c) (.exit 4) (Cz a G d b C E A F):=
h.aV [1,3] [1]
theorem aa2(h:ad (Ez A a b r C E F (ao Tryz.f56 0) G [.l [] [5,1,3] [1] (ao Tryz.f56 1) (k4 a 0 A a b C E F G) (.exit 2) (zR a M d c H aj K L),.l [] [7,1,3] [1] (ao Tryz.f56 2) (lH a M d c H aj K L 0) .ret (uR q)])):
ar 56 [.agg (cl A a b C E F G)] [ah q]:=
h.of
def qm(a:Int)(A:ae)(b c:Int)(C E F G:ae)(d:Int):aD:=bd 170 [(1,aQ 1),(3,aW a),(8,aW d)] [(1,[.J .free 4 A,au b,au c,.J .free 8 C,.J .free 6 E,.J .free 5 F,.J .free 3 G])]
def zS(q:Bool):aD:=bd 170 [(2,.aF (.one (.a' q)))] []
theorem aa3(h:ad [.i A b [I c,I e,B r],.v (a-1),.r 168 [af c,af 0,af (a-1)] [ah q],.n q true]):
aY (ao Tryz.f56 3) (qm a G f d C E F A b) .ret (zS false):=
h.aV [2] []
theorem aa4(h:ad [.i A b [I c,I f,B s],.v (a-1),.r 168 [af c,af 0,af (a-1)] [ah q],.n q false,.x A b [I g,I d,B t],.r 168 [af d,af 0,af 3] [ah r],.n r true]):
aY (ao Tryz.f56 3) (qm a G i e C E F A b) .ret (zS false):=
h.aV [2] []
theorem aa5(h:ad [.i A a [I d,I g,B s],.v (b-1),.r 168 [af d,af 0,af (b-1)] [ah q],.n q false,.x A a [I i,I e,B t],.r 168 [af e,af 0,af 3] [ah r],.n r false,.u a]):
aY (ao Tryz.f56 3) (qm b G f c C E F A a) .normal (qm b G f c C E F A (a+1)):=
h.aV [8,1,3] [1]
def Jz:aD:=bd 170 [] []
theorem aa6(h:ad [.f A a false]):
aY (ao Tryz.f56 3) (qm b G d c C E F A a) (.exit 6) Jz:=
h.aV [] []
theorem aa7(h:ad (Ez A a b r C E F (ao Tryz.f56 0) L [.l [] [5,1,3] [1] (ao Tryz.f56 1) (k4 a 0 A a b C E F L) (.exit 2) (zR a M d c G H aj K),.l [] [7,1,3] [1] (ao Tryz.f56 2) (lH a M d c G H aj K 0) (.exit 4) (Cz a M d c G H aj K),.l [] [8,1,3] [1] (ao Tryz.f56 3) (qm a M d c G H aj K 0) .ret (zS q)])):
ar 56 [.agg (cl A a b C E F L)] [ah q]:=
h.of
theorem aa8(h:ad (Ez A a b q C E F (ao Tryz.f56 0) L [.l [] [5,1,3] [1] (ao Tryz.f56 1) (k4 a 0 A a b C E F L) (.exit 2) (zR a M d c G H aj K),.l [] [7,1,3] [1] (ao Tryz.f56 2) (lH a M d c G H aj K 0) (.exit 4) (Cz a M d c G H aj K),.l [] [8,1,3] [1] (ao Tryz.f56 3) (qm a M d c G H aj K 0) (.exit 6) Jz])):
ar 56 [.agg (cl A a b C E F L)] [ah true]:=
h.of
def L8(A:ae)(a b:Int)(q:Bool)(l:List O):List O:=.r 179 [.agg (bl A a b)] [ah q]::l
theorem aa9(h:ad (L8 A a b q [.n q true])):
ar 55 [.agg (cl A a b C E F G)] [ah false]:=
h.of
theorem aba(h:ad (L8 A a b q [.n q false,.b ((C.length:Int) != a) true])):
ar 55 [.agg (cl A a b C E F G)] [ah false]:=
h.of
def Vb(A:ae)(a b:Int)(q:Bool)(C:ae)(l:List O):List O:=L8 A a b q (.n q false::.b ((C.length:Int) != a) false::.v (a*a)::l)
theorem abb(h:ad (Vb A a b q C [.b ((E.length:Int) != a*a) true])):
ar 55 [.agg (cl A a b C E F G)] [ah false]:=
h.of
def Vc(A:ae)(a b:Int)(q:Bool)(C E:ae)(l:List O):List O:=Vb A a b q C (.b ((E.length:Int) != a*a) false::l)
theorem abd(h:ad (Vc A a b q C E [.b ((F.length:Int) != 4) true])):
ar 55 [.agg (cl A a b C E F G)] [ah false]:=
h.of
def rH(a:Int)(A:ae)(b:Int)(C:ae)(c d:Int)(E F G H:ae):aD:=bd 147 [(1,aQ 1),(3,aW a),(42,dj 8 A),(43,aW (A.length:Int)),(44,aW b)] [(1,[.J .free 4 C,au c,au d,.J .free 8 E,.J .free 6 F,.J .free 5 G,.J .free 3 H])]
def CA(q:Bool):aD:=bd 147 [(2,.aF (.one (.a' q)))] []
theorem abe(h:ad [.i L c (ba A C E F G H aj K),.r 187 [.agg (bl M a b),.agg (ba A C E F G H aj K)] [ah q],.n q true]):
aY (ao Tryz.f55 0) (rH d L c M a b N Q R S) .ret (CA false):=
h.aV [2] []
theorem abf(h:ad [.i A a (ba aj K L M N Q R S),.r 187 [.agg (bl C b c),.agg (ba aj K L M N Q R S)] [ah q],.n q false,.u a]):
aY (ao Tryz.f55 0) (rH d A a C b c E F G H) .normal (rH d A (a+1) C b c E F G H):=
h.aV [44,43,42,1,3] [1]
def Hs(a:Int)(A:ae)(b c:Int)(C E F G:ae):aD:=bd 147 [(1,aQ 1),(3,aW a)] [(1,[.J .free 4 A,au b,au c,.J .free 8 C,.J .free 6 E,.J .free 5 F,.J .free 3 G])]
theorem abg(h:ad [.f G d false]):
aY (ao Tryz.f55 0) (rH a G d H b c A C E F) (.exit 0) (Hs a H b c A C E F):=
h.aV [1,3] [1]
def Vd(A:ae)(a b:Int)(q:Bool)(C E F:ae)(l:List O):List O:=Vc A a b q C E (.b ((F.length:Int) != 4) false::l)
theorem abh(h:ad (Vd C a b q A E F [.l [] [44,43,42,1,3] [1] (ao Tryz.f55 0) (rH a A 0 C a b A E F G) .ret (CA r)])):
ar 55 [.agg (cl C a b A E F G)] [ah r]:=
h.of
def k5(a:Int)(A:ae)(b:Int)(C:ae)(c d:Int)(E F G H:ae):aD:=bd 147 [(1,aQ 1),(3,aW a),(55,dj 6 A),(56,aW (A.length:Int)),(57,aW b)] [(1,[.J .free 4 C,au c,au d,.J .free 8 E,.J .free 6 F,.J .free 5 G,.J .free 3 H])]
def xa(q:Bool):aD:=bd 147 [(2,.aF (.one (.a' q)))] []
def L2(A:ae)(a b:Int)(C:ae)(c d e f:Int)(q:Bool)(l:List O):List O:=.i A a (cd b C c d e f)::.r 188 [.agg (cd b C c d e f)] [ah q]::l
theorem abi(h:ad (L2 A a b C c d e f q [.n q true])):
aY (ao Tryz.f55 1) (k5 g A a E i j F G H aj) .ret (xa false):=
h.aV [2] []
theorem aas(h:ad (L2 A b a C d e f g q [.n q false,.b (a != c) true])):
aY (ao Tryz.f55 1) (k5 i A b E j c F G H aj) .ret (xa false):=
h.aV [2] []
def ED(A:ae)(a b:Int)(C:ae)(c d e f:Int)(q:Bool)(g:Int)(E:ae)(i:Int)(r:Bool)(l:List O):List O:=L2 A a b C c d e f q (.n q false::.b (b != g) false::.r 189 [.agg (bl E i g),aP 5 C] [ah r]::l)
theorem aat(h:ad (ED C c b A e f g i q a E d r [.n r true])):
aY (ao Tryz.f55 1) (k5 j C c E d a F G H aj) .ret (xa false):=
h.aV [2] []
theorem aau(h:ad (ED C b d A f g i j q c E e r [.n r false,.p (a≠0),.v (b.tdiv a),.p (a≠0),.b (b.tdiv a==b.tmod a) true,.b (decide ((A.length:Int)>0)) true])):
aY (ao Tryz.f55 1) (k5 a C b E e c F G H aj) .ret (xa false):=
h.aV [2] []
theorem aav(h:ad (ED C b e A f g i j q c E d r [.n r false,.p (a≠0),.v (b.tdiv a),.p (a≠0),.b (b.tdiv a==b.tmod a) true,.b (decide ((A.length:Int)>0)) false,.u b])):
aY (ao Tryz.f55 1) (k5 a C b E d c F G H aj) .normal (k5 a C (b+1) E d c F G H aj):=
h.aV [57,56,55,1,3] [1]
theorem aaw(h:ad (ED A b e E f g i j q c C d r [.n r false,.p (a≠0),.v (b.tdiv a),.p (a≠0),.b (b.tdiv a==b.tmod a) false,.u b])):
aY (ao Tryz.f55 1) (k5 a A b C d c F G H aj) .normal (k5 a A (b+1) C d c F G H aj):=
h.aV [57,56,55,1,3] [1]
def zT(a:Int)(A:ae)(b c:Int)(C E F G:ae):aD:=bd 147 [(1,aQ 1),(3,aW a)] [(1,[.J .free 4 A,au b,au c,.J .free 8 C,.J .free 6 E,.J .free 5 F,.J .free 3 G])]
theorem aax(h:ad [.f A b false]):
aY (ao Tryz.f55 1) (k5 a A b C c d E F G H) (.exit 2) (zT a C c d E F G H):=
h.aV [1,3] [1]
def EE(A:ae)(a b:Int)(q:Bool)(C E F:ae)(W:Code)(G H:ae)(c d:Int)(aj K L M:ae)(l:List O):List O:=Vd A a b q C E F (.l [] [44,43,42,1,3] [1] W (rH a C 0 A a b C E F G) (.exit 0) (Hs a H c d aj K L M)::l)
theorem aay(h:ad (EE C a b r A F G (ao Tryz.f55 0) L M d c H E aj K [.l [] [57,56,55,1,3] [1] (ao Tryz.f55 1) (k5 a E 0 M d c H E aj K) .ret (xa q)])):
ar 55 [.agg (cl C a b A F G L)] [ah q]:=
h.of
def lI(a:Int)(A:ae)(b:Int)(C:ae)(c d:Int)(E F G H:ae):aD:=bd 147 [(1,aQ 1),(3,aW a),(98,dj 5 A),(99,aW (A.length:Int)),(100,aW b)] [(1,[.J .free 4 C,au c,au d,.J .free 8 E,.J .free 6 F,.J .free 5 G,.J .free 3 H])]
def uS(q:Bool):aD:=bd 147 [(2,.aF (.one (.a' q)))] []
def xq(A:ae)(a:Int)(q:Bool)(b c:Int)(r s:Bool)(d:Int)(t:Bool)(l:List O):List O:=U' A a q b c r s d (.r 190 [af b,af 0,af (d-1)] [ah t]::l)
theorem aaz(h:ad (xq A b r c f s t a q [.n q true])):
aY (ao Tryz.f55 2) (lI a A b C d e E F G H) .ret (uS false):=
h.aV [2] []
theorem aaA(h:ad (xq A c q b f s t a r [.n r false,.n q true,.b (b != 0) true])):
aY (ao Tryz.f55 2) (lI a A c C d e E F G H) .ret (uS false):=
h.aV [2] []
theorem aaB(h:ad (xq A c q b d t u a r [.n r false,.n q true,.b (b != 0) false,.r 190 [af d,af (-1000000),af 1000000] [ah s],.n s true])):
aY (ao Tryz.f55 2) (lI a A c C e f E F G H) .ret (uS false):=
h.aV [2] []
theorem aaC(h:ad (xq A b q c f t u a r [.n r false,.n q true,.b (c != 0) false,.r 190 [af f,af (-1000000),af 1000000] [ah s],.n s false,.u b])):
aY (ao Tryz.f55 2) (lI a A b C d e E F G H) .normal (lI a A (b+1) C d e E F G H):=
h.aV [100,99,98,3,1] [1]
theorem aaD(h:ad (xq A b q c d t u a r [.n r false,.n q false,.r 190 [af d,af (-1000000),af 1000000] [ah s],.n s true])):
aY (ao Tryz.f55 2) (lI a A b C e f E F G H) .ret (uS false):=
h.aV [2] []
theorem aaE(h:ad (xq A b q e f t u a r [.n r false,.n q false,.r 190 [af f,af (-1000000),af 1000000] [ah s],.n s false,.u b])):
aY (ao Tryz.f55 2) (lI a A b C c d E F G H) .normal (lI a A (b+1) C c d E F G H):=
h.aV [100,99,98,3,1] [1]
def CB(a:Int)(A:ae)(b c:Int)(C E F G:ae):aD:=bd 147 [(1,aQ 1),(3,aW a)] [(1,[.J .free 4 A,au b,au c,.J .free 8 C,.J .free 6 E,.J .free 5 F,.J .free 3 G])]
theorem aaF(h:ad [.f A b false]):
aY (ao Tryz.f55 2) (lI a A b C c d E F G H) (.exit 4) (CB a C c d E F G H):=
h.aV [1,3] [1]
theorem aaG(h:ad (EE C a b r A G H (ao Tryz.f55 0) S bi f c aj E K L [.l [] [57,56,55,1,3] [1] (ao Tryz.f55 1) (k5 a E 0 bi f c aj E K L) (.exit 2) (zT a M d e N Q F R),.l [] [100,99,98,3,1] [1] (ao Tryz.f55 2) (lI a F 0 M d e N Q F R) .ret (uS q)])):
ar 55 [.agg (cl C a b A G H S)] [ah q]:=
h.of
def qn(a:Int)(A:ae)(b:Int):aD:=bd 147 [(3,aW a),(128,dj 3 A),(129,aW (A.length:Int)),(130,aW b)] []
def zU(q:Bool):aD:=bd 147 [(2,.aF (.one (.a' q)))] []
theorem aaH(h:ad [.i A b [I c,I d,B r],.v (a-1),.r 190 [af c,af 0,af (a-1)] [ah q],.n q true]):
aY (ao Tryz.f55 3) (qn a A b) .ret (zU false):=
h.aV [2] []
theorem aaI(h:ad [.i A b [I c,I d,B s],.v (a-1),.r 190 [af c,af 0,af (a-1)] [ah q],.n q false,.r 190 [af d,af 0,af 3] [ah r],.n r true]):
aY (ao Tryz.f55 3) (qn a A b) .ret (zU false):=
h.aV [2] []
theorem aaJ(h:ad [.i A b [I c,I d,B s],.v (a-1),.r 190 [af c,af 0,af (a-1)] [ah q],.n q false,.r 190 [af d,af 0,af 3] [ah r],.n r false,.u b]):
aY (ao Tryz.f55 3) (qn a A b) .normal (qn a A (b+1)):=
h.aV [130,129,128,3] []
def JA:aD:=bd 147 [] []
theorem aaK(h:ad [.f A a false]):
aY (ao Tryz.f55 3) (qn b A a) (.exit 6) JA:=
h.aV [] []
theorem aaL(h:ad (EE C a b r A G H (ao Tryz.f55 0) bi V f c aj E K L [.l [] [57,56,55,1,3] [1] (ao Tryz.f55 1) (k5 a E 0 V f c aj E K L) (.exit 2) (zT a M d e N Q F R),.l [] [100,99,98,3,1] [1] (ao Tryz.f55 2) (lI a F 0 M d e N Q F R) (.exit 4) (CB a X g i Y Z eg S),.l [] [130,129,128,3] [] (ao Tryz.f55 3) (qn a S 0) .ret (zU q)])):
ar 55 [.agg (cl C a b A G H bi)] [ah q]:=
h.of
theorem aaM(h:ad (EE C a b q A G H (ao Tryz.f55 0) bi V f c aj E K L [.l [] [57,56,55,1,3] [1] (ao Tryz.f55 1) (k5 a E 0 V f c aj E K L) (.exit 2) (zT a M d e N Q F R),.l [] [100,99,98,3,1] [1] (ao Tryz.f55 2) (lI a F 0 M d e N Q F R) (.exit 4) (CB a X g i Y Z eg S),.l [] [130,129,128,3] [] (ao Tryz.f55 3) (qn a S 0) (.exit 6) JA])):
ar 55 [.agg (cl C a b A G H bi)] [ah true]:=
h.of
