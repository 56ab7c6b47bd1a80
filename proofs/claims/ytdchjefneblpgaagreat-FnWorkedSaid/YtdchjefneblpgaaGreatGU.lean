import Derived.Test.YtdchjefneblpgaaGreatGE
namespace Go.Proofs.YtdchjefneblpgaaGreat
open Go.Sx Go.RowKit
variable {a b c d e f g i j k l m n o p a0 cg dx d0 bE f0 : Int} {A C E F G H ao K L M N Q R S bm V X Y Z ew : ae} {q r s t u v w x y z h' k2 jr t0 : Bool}
theorem ZI(h:ad [.b (decide (a<1)) true]):
av 245 [af b,af a] [af 0]:=
h.of
theorem ZJ(h:ad [.b (decide (a<1)) false,.p (a≠0),.b (decide (b.tmod a<0)) true,.v (b.tmod a+a)]):
av 245 [af b,af a] [af (b.tmod a+a)]:=
h.of
theorem ZK(h:ad [.b (decide (a<1)) false,.p (a≠0),.b (decide (b.tmod a<0)) false]):
av 245 [af b,af a] [af (b.tmod a)]:=
h.of
def tE(A:ae)(a:Int):aI:=bg 21 [(0,dw 4 A),(3,aY a)] []
def JN(q:Bool):aI:=bg 21 [(2,.aK (.one (.ba q)))] []
def EQ(A:ae)(a b c d e f g i j:Int)(l:List O):List O:=.f A a true::.v (a-1)::.p (0<=a-1)::.p (a-1<(A.length:Int))::.e A ((a-1).toNat) [I b,I c,I d,I e]::.x A a [I f,I g,I i,I j]::l
theorem ZL(h:ad (EQ A a c d e f g i j k [.r 307 [.agg [I c,I d,I e,I f],.agg [I g,I i,I j,I k]] [af b],.b (decide (b>=0)) true])):
a7 (aq Tryz.f266 0) (tE A a) .ret (JN false):=
h.aX [2] []
theorem ZM(h:ad (EQ A a c d e f g i j k [.r 307 [.agg [I c,I d,I e,I f],.agg [I g,I i,I j,I k]] [af b],.b (decide (b>=0)) false,.u a])):
a7 (aq Tryz.f266 0) (tE A a) .normal (tE A (a+1)):=
h.aX [3,0] []
def Re:aI:=bg 21 [] []
theorem ZN(h:ad [.f A a false]):
a7 (aq Tryz.f266 0) (tE A a) (.exit 0) Re:=
h.aX [] []
theorem ZO(h:ad [.l [] [3,0] [] (aq Tryz.f266 0) (tE A 1) .ret (JN q)]):
av 266 [aP 4 A] [ak q]:=
h.of
theorem ZP(h:ad [.l [] [3,0] [] (aq Tryz.f266 0) (tE A 1) (.exit 0) Re]):
av 266 [aP 4 A] [ak true]:=
h.of
def tF(A:ae)(a:Int):aI:=bg 21 [(0,dw 4 A),(3,aY a)] []
def JO(q:Bool):aI:=bg 21 [(2,.aK (.one (.ba q)))] []
theorem ZQ(h:ad (EQ A a c d e f g i j k [.r 304 [.agg [I c,I d,I e,I f],.agg [I g,I i,I j,I k]] [af b],.b (decide (b>=0)) true])):
a7 (aq Tryz.f280 0) (tF A a) .ret (JO false):=
h.aX [2] []
theorem ZR(h:ad (EQ A a c d e f g i j k [.r 304 [.agg [I c,I d,I e,I f],.agg [I g,I i,I j,I k]] [af b],.b (decide (b>=0)) false,.u a])):
a7 (aq Tryz.f280 0) (tF A a) .normal (tF A (a+1)):=
h.aX [3,0] []
def Rf:aI:=bg 21 [] []
theorem Y3(h:ad [.f A a false]):
a7 (aq Tryz.f280 0) (tF A a) (.exit 0) Rf:=
h.aX [] []
theorem Y4(h:ad [.l [] [3,0] [] (aq Tryz.f280 0) (tF A 1) .ret (JO q)]):
av 280 [aP 4 A] [ak q]:=
h.of
theorem Y5(h:ad [.l [] [3,0] [] (aq Tryz.f280 0) (tF A 1) (.exit 0) Rf]):
av 280 [aP 4 A] [ak true]:=
h.of
def tG(A:ae)(a b:Int)(C:ae)(c:Int):aI:=bg 29 [(1,dw 5 C),(2,aQ 2),(5,aY c)] [(2,[.J .free 4 A,ax a,ax b])]
def CS(q:Bool):aI:=bg 29 [(4,.aK (.one (.ba q)))] []
def Bc(A:ae)(a b c d e f:Int)(q:Bool)(l:List O):List O:=.i A a (bn b c d e f)::.r 122 [.agg (bn b c d e f)] [ak q]::l
theorem Y6(h:ad (Bc A a b c d e f q [.n q true])):
a7 (aq Tryz.f192 0) (tG C g i A a) .ret (CS false):=
h.aX [4] []
theorem Y7(h:ad (Bc A a c d e f g q [.n q false,.x A a (bn b j k l m),.b (decide (b>=(C.length:Int))) true])):
a7 (aq Tryz.f192 0) (tG C i n A a) .ret (CS false):=
h.aX [4] []
theorem Y8(h:ad (Bc A a e f g i j q [.n q false,.x A a (bn c k l m n),.b (decide (c>=(C.length:Int))) false,.u a])):
a7 (aq Tryz.f192 0) (tG C b d A a) .normal (tG C b d A (a+1)):=
h.aX [5,1,2] [2]
def Rg:aI:=bg 29 [] []
theorem Y9(h:ad [.f A a false]):
a7 (aq Tryz.f192 0) (tG C b c A a) (.exit 0) Rg:=
h.aX [] []
theorem Y'(h:ad [.l [] [5,1,2] [2] (aq Tryz.f192 0) (tG A a b C 0) .ret (CS q)]):
av 192 [.agg (bq A a b),aP 5 C] [ak q]:=
h.of
theorem Za(h:ad [.l [] [5,1,2] [2] (aq Tryz.f192 0) (tG A a b C 0) (.exit 0) Rg]):
av 192 [.agg (bq A a b),aP 5 C] [ak true]:=
h.of
def tH(A:ae)(a:Int)(C:ae)(b c:Int):aI:=bg 24 [(2,aQ 2),(7,dw 5 A),(8,aY (A.length:Int)),(9,aY a)] [(2,[.J .free 4 C,ax b,ax c])]
def CT(q:Bool):aI:=bg 24 [(4,.aK (.one (.ba q)))] []
def Bd(A:ae)(a b c d e f:Int)(q:Bool)(l:List O):List O:=.i A a (bn b c d e f)::.r 180 [.agg (bn b c d e f)] [ak q]::l
theorem Zb(h:ad (Bd A d e f a b c q [.n q true])):
a7 (aq Tryz.f189 0) (tH A d C g i) .ret (CT false):=
h.aX [4] []
theorem Zc(h:ad (Bd A e a i b c d q [.n q false,.r 250 [.agg (bq C f g),af a] [ak r],.n r true])):
a7 (aq Tryz.f189 0) (tH A e C f g) .ret (CT false):=
h.aX [4] []
theorem Zd(h:ad (Bd A a d i e f g q [.n q false,.r 250 [.agg (bq C b c),af d] [ak r],.n r false,.u a])):
a7 (aq Tryz.f189 0) (tH A a C b c) .normal (tH A (a+1) C b c):=
h.aX [9,8,7,2] [2]
def Rh:aI:=bg 24 [] []
theorem Ze(h:ad [.f A a false]):
a7 (aq Tryz.f189 0) (tH A a C b c) (.exit 0) Rh:=
h.aX [] []
theorem Zf(h:ad [.l [] [9,8,7,2] [2] (aq Tryz.f189 0) (tH C 0 A a b) .ret (CT q)]):
av 189 [.agg (bq A a b),aP 5 C] [ak q]:=
h.of
theorem Zg(h:ad [.l [] [9,8,7,2] [2] (aq Tryz.f189 0) (tH C 0 A a b) (.exit 0) Rh]):
av 189 [.agg (bq A a b),aP 5 C] [ak true]:=
h.of
def U9(A:ae)(a b:Int)(C:ae)(q:Bool)(l:List O):List O:=.r 192 [.agg (bq A a b),aP 5 C] [ak q]::l
theorem Zh(h:ad (U9 A a b C q [.n q true])):
av 175 [.agg (bq A a b),.agg (bb C F G H ao K L E)] [ak false]:=
h.of
def U'(A:ae)(a b:Int)(C:ae)(q:Bool)(E:ae)(r:Bool)(l:List O):List O:=U9 A a b C q (.n q false::.r 192 [.agg (bq A a b),aP 5 E] [ak r]::l)
theorem Zi(h:ad (U' A a b C q E r [.n r true])):
av 175 [.agg (bq A a b),.agg (bb C E G H ao K L F)] [ak false]:=
h.of
def Va(A:ae)(a b:Int)(C:ae)(q:Bool)(E:ae)(r:Bool)(F:ae)(s:Bool)(l:List O):List O:=U' A a b C q E r (.n r false::.r 192 [.agg (bq A a b),aP 5 F] [ak s]::l)
theorem Zj(h:ad (Va A a b C q E r F s [.n s true])):
av 175 [.agg (bq A a b),.agg (bb C E F H ao K L G)] [ak false]:=
h.of
def Md(A:ae)(a b:Int)(C:ae)(q:Bool)(E:ae)(r:Bool)(F:ae)(s:Bool)(G:ae)(t:Bool)(l:List O):List O:=Va A a b C q E r F s (.n s false::.r 266 [aP 4 G] [ak t]::l)
theorem Zk(h:ad (Md A a b C q E r F s G t [.n t true])):
av 175 [.agg (bq A a b),.agg (bb C E F G ao K L H)] [ak false]:=
h.of
theorem Zl(h:ad (Md A a b C q E r F s G t [.n t false,.b ((H.length:Int) != 4) true])):
av 175 [.agg (bq A a b),.agg (bb C E F G H K L ao)] [ak false]:=
h.of
def Vb(A:ae)(a b:Int)(C:ae)(q:Bool)(E:ae)(r:Bool)(F:ae)(s:Bool)(G:ae)(t:Bool)(H:ae)(l:List O):List O:=Md A a b C q E r F s G t (.n t false::.b ((H.length:Int) != 4) false::l)
theorem Zm(h:ad (Vb A a b C q E r F s G t H [.b ((ao.length:Int) != 4) true])):
av 175 [.agg (bq A a b),.agg (bb C E F G H ao L K)] [ak false]:=
h.of
def Me(A:ae)(a b:Int)(C:ae)(q:Bool)(E:ae)(r:Bool)(F:ae)(s:Bool)(G:ae)(t:Bool)(H ao:ae)(l:List O):List O:=Vb A a b C q E r F s G t H (.b ((ao.length:Int) != 4) false::l)
theorem Zn(h:ad (Me A a b C q E r F s G t H ao [.b ((K.length:Int) != 4) true])):
av 175 [.agg (bq A a b),.agg (bb C E F G H ao K L)] [ak false]:=
h.of
def nL(A C E F G H ao K:ae)(a:Int):aI:=bg 147 [(3,aQ 3),(5,aY 4),(6,aY a)] [(3,[.J .free 5 A,.J .free 5 C,.J .free 5 E,.J .free 4 F,.J .free 1 G,.J .free 1 H,.J .free 1 ao,.J .free 2 K])]
def Am(q:Bool):aI:=bg 147 [(4,.aK (.one (.ba q)))] []
theorem Zo(h:ad [.i A a (bn b c d e f),.b (b != 0) true]):
a7 (aq Tryz.f175 0) (nL E F A G H ao K C a) .ret (Am false):=
h.aX [4] []
def tY(A:ae)(a b c d e f:Int)(l:List O):List O:=.i A a (bn b c d e f)::.b (b != 0) false::l
theorem Zp(h:ad (tY A a b d e f g [.x A a (bn i j c k l),.b (c != 0) true])):
a7 (aq Tryz.f175 0) (nL E F A G H ao K C a) .ret (Am false):=
h.aX [4] []
theorem Zq(h:ad (tY A a b f g i j [.x A a (bn k l c m n),.b (c != 0) false,.b (decide (a>0)) true,.v (a-1),.p (0<=a-1),.p (a-1<(A.length:Int)),.e A ((a-1).toNat) (bn o d p a0 cg),.x A a (bn dx e d0 bE f0),.b (decide (d>e)) true])):
a7 (aq Tryz.f175 0) (nL E F A G H ao K C a) .ret (Am false):=
h.aX [4] []
theorem Zr(h:ad (tY A a b f g i j [.x A a (bn k l c m n),.b (c != 0) false,.b (decide (a>0)) true,.v (a-1),.p (0<=a-1),.p (a-1<(A.length:Int)),.e A ((a-1).toNat) (bn o d p a0 cg),.x A a (bn dx e d0 bE f0),.b (decide (d>e)) false,.u a])):
a7 (aq Tryz.f175 0) (nL E F A G H ao K C a) .normal (nL E F A G H ao K C (a+1)):=
h.aX [6,3,5] [3]
theorem YT(h:ad (tY A a b d e f g [.x A a (bn i j c k l),.b (c != 0) false,.b (decide (a>0)) false,.u a])):
a7 (aq Tryz.f175 0) (nL E F A G H ao K C a) .normal (nL E F A G H ao K C (a+1)):=
h.aX [6,3,5] [3]
def HT(A C E F G H ao K:ae):aI:=bg 147 [(3,aQ 3),(5,aY 4)] [(3,[.J .free 5 A,.J .free 5 C,.J .free 5 E,.J .free 4 F,.J .free 1 G,.J .free 1 H,.J .free 1 ao,.J .free 2 K])]
theorem YU(h:ad [.f A a false]):
a7 (aq Tryz.f175 0) (nL E F A G H ao K C a) (.exit 0) (HT E F A G H ao K C):=
h.aX [5,3] [3]
theorem YV(h:ad (Me A a b C q E r F s G t H ao [.b ((K.length:Int) != 4) false,.l [] [6,3,5] [3] (aq Tryz.f175 0) (nL C E F G H ao K L 0) .ret (Am u)])):
av 175 [.agg (bq A a b),.agg (bb C E F G H ao K L)] [ak u]:=
h.of
def tI(A C E F G H ao K:ae)(a:Int):aI:=bg 147 [(3,aQ 3),(5,aY 4),(7,aY a)] [(3,[.J .free 5 A,.J .free 5 C,.J .free 5 E,.J .free 4 F,.J .free 1 G,.J .free 1 H,.J .free 1 ao,.J .free 2 K])]
def JP(q:Bool):aI:=bg 147 [(4,.aK (.one (.ba q)))] []
theorem YW(h:ad [.b (decide (a<4)) true,.x A a [I b],.r 168 [af b,af (-1000000),af 1000000] [ak q],.n q true]):
a7 (aq Tryz.f175 1) (tI E F G H A ao K C a) .ret (JP false):=
h.aX [4] []
theorem YX(h:ad [.b (decide (a<4)) true,.x A a [I b],.r 168 [af b,af (-1000000),af 1000000] [ak q],.n q false,.u a]):
a7 (aq Tryz.f175 1) (tI E F G H A ao K C a) .normal (tI E F G H A ao K C (a+1)):=
h.aX [7,5,3] [3]
def JQ(A C E F G H ao K:ae):aI:=bg 147 [(3,aQ 3)] [(3,[.J .free 5 A,.J .free 5 C,.J .free 5 E,.J .free 4 F,.J .free 1 G,.J .free 1 H,.J .free 1 ao,.J .free 2 K])]
theorem YY(h:ad [.b (decide (a<4)) false]):
a7 (aq Tryz.f175 1) (tI C E F G H ao K A a) (.exit 2) (JQ C E F G H ao K A):=
h.aX [3] [3]
def Mf(A:ae)(a b:Int)(C:ae)(q:Bool)(E:ae)(r:Bool)(F:ae)(s:Bool)(G:ae)(t:Bool)(H ao K:ae)(W:Code)(L:ae)(l:List O):List O:=Me A a b C q E r F s G t H ao (.b ((K.length:Int) != 4) false::.l [] [6,3,5] [3] W (nL C E F G H ao K L 0) (.exit 0) (HT C E F G H ao K L)::l)
theorem YZ(h:ad (Mf K a b A q C r E s F t G H ao (aq Tryz.f175 0) L [.l [] [7,5,3] [3] (aq Tryz.f175 1) (tI A C E F G H ao L 0) .ret (JP u)])):
av 175 [.agg (bq K a b),.agg (bb A C E F G H ao L)] [ak u]:=
h.of
def qC(A C E F G H ao K:ae)(a:Int):aI:=bg 147 [(3,aQ 3),(8,aY a)] [(3,[.J .free 5 A,.J .free 5 C,.J .free 5 E,.J .free 4 F,.J .free 1 G,.J .free 1 H,.J .free 1 ao,.J .free 2 K])]
def CU(q:Bool):aI:=bg 147 [(4,.aK (.one (.ba q)))] []
theorem Y0(h:ad [.i A a [I b,B r],.r 168 [af b,af 0,af 3] [ak q],.n q true]):
a7 (aq Tryz.f175 2) (qC C E F G H ao K A a) .ret (CU false):=
h.aX [4] []
def r'(A C E F G H ao K:ae)(a b:Int):aI:=bg 147 [(3,aQ 3),(8,aY a),(9,aY b)] [(3,[.J .free 5 A,.J .free 5 C,.J .free 5 E,.J .free 4 F,.J .free 1 G,.J .free 1 H,.J .free 1 ao,.J .free 2 K])]
def CV(q:Bool):aI:=bg 147 [(4,.aK (.one (.ba q)))] []
theorem Y1(h:ad [.b (decide (b<a)) true,.x A b [I c,B q],.x A a [I d,B r],.b (c==d) true]):
a7 (aq Tryz.f175 3) (r' C E F G H ao K A a b) .ret (CV false):=
h.aX [4] []
theorem Y2(h:ad [.b (decide (a<b)) true,.x A a [I c,B q],.x A b [I d,B r],.b (c==d) false,.u a]):
a7 (aq Tryz.f175 3) (r' C E F G H ao K A b a) .normal (r' C E F G H ao K A b (a+1)):=
h.aX [9,8,3] [3]
def JR(A C E F G H ao K:ae)(a:Int):aI:=bg 147 [(3,aQ 3),(8,aY a)] [(3,[.J .free 5 A,.J .free 5 C,.J .free 5 E,.J .free 4 F,.J .free 1 G,.J .free 1 H,.J .free 1 ao,.J .free 2 K])]
theorem aas(h:ad [.b (decide (b<a)) false]):
a7 (aq Tryz.f175 3) (r' C E F G H ao K A a b) (.exit 6) (JR C E F G H ao K A a):=
h.aX [8,3] [3]
theorem aat(h:ad [.i A a [I b,B s],.r 168 [af b,af 0,af 3] [ak q],.n q false,.l [] [9,8,3] [3] (aq Tryz.f175 3) (r' C E F G H ao K A a 0) .ret (CV r)]):
a7 (aq Tryz.f175 2) (qC C E F G H ao K A a) .ret (CU r):=
h.aX [4] []
theorem aau(h:ad [.i A a [I b,B r],.r 168 [af b,af 0,af 3] [ak q],.n q false,.l [] [9,8,3] [3] (aq Tryz.f175 3) (r' C E F G H ao K A a 0) (.exit 6) (JR C E F G H ao K A a),.u a]):
a7 (aq Tryz.f175 2) (qC C E F G H ao K A a) .normal (qC C E F G H ao K A (a+1)):=
h.aX [8,3] [3]
def JS:aI:=bg 147 [] []
theorem aav(h:ad [.f A a false]):
a7 (aq Tryz.f175 2) (qC C E F G H ao K A a) (.exit 4) JS:=
h.aX [] []
theorem aaw(h:ad (Mf L a b A q C r E s F t G H ao (aq Tryz.f175 0) K [.l [] [7,5,3] [3] (aq Tryz.f175 1) (tI A C E F G H ao K 0) (.exit 2) (JQ A C E F G H ao K),.l [] [8,3] [3] (aq Tryz.f175 2) (qC A C E F G H ao K 0) .ret (CU u)])):
av 175 [.agg (bq L a b),.agg (bb A C E F G H ao K)] [ak u]:=
h.of
theorem aax(h:ad (Mf L a b A q C r E s F t G H ao (aq Tryz.f175 0) K [.l [] [7,5,3] [3] (aq Tryz.f175 1) (tI A C E F G H ao K 0) (.exit 2) (JQ A C E F G H ao K),.l [] [8,3] [3] (aq Tryz.f175 2) (qC A C E F G H ao K 0) (.exit 4) JS])):
av 175 [.agg (bq L a b),.agg (bb A C E F G H ao K)] [ak true]:=
h.of
def Vd(A:ae)(a b:Int)(C:ae)(q:Bool)(l:List O):List O:=.r 189 [.agg (bq A a b),aP 5 C] [ak q]::l
theorem aay(h:ad (Vd A a b C q [.n q true])):
av 187 [.agg (bq A a b),.agg (bb C F G H ao K L E)] [ak false]:=
h.of
def Ve(A:ae)(a b:Int)(C:ae)(q:Bool)(E:ae)(r:Bool)(l:List O):List O:=Vd A a b C q (.n q false::.r 189 [.agg (bq A a b),aP 5 E] [ak r]::l)
theorem aaz(h:ad (Ve A a b C q E r [.n r true])):
av 187 [.agg (bq A a b),.agg (bb C E G H ao K L F)] [ak false]:=
h.of
def Vf(A:ae)(a b:Int)(C:ae)(q:Bool)(E:ae)(r:Bool)(F:ae)(s:Bool)(l:List O):List O:=Ve A a b C q E r (.n r false::.r 189 [.agg (bq A a b),aP 5 F] [ak s]::l)
theorem aaA(h:ad (Vf A a b C q E r F s [.n s true])):
av 187 [.agg (bq A a b),.agg (bb C E F H ao K L G)] [ak false]:=
h.of
def Mg(A:ae)(a b:Int)(C:ae)(q:Bool)(E:ae)(r:Bool)(F:ae)(s:Bool)(G:ae)(t:Bool)(l:List O):List O:=Vf A a b C q E r F s (.n s false::.r 280 [aP 4 G] [ak t]::l)
theorem aaB(h:ad (Mg A a b C q E r F s G t [.n t true])):
av 187 [.agg (bq A a b),.agg (bb C E F G ao K L H)] [ak false]:=
h.of
def nK(A:ae)(a:Int)(C E F G H ao K L:ae):aI:=bg 121 [(3,aQ 3),(37,dw 5 A),(38,aY (A.length:Int)),(39,aY a)] [(3,[.J .free 5 C,.J .free 5 E,.J .free 5 F,.J .free 4 G,.J .free 1 H,.J .free 1 ao,.J .free 1 K,.J .free 2 L])]
def An(q:Bool):aI:=bg 121 [(4,.aK (.one (.ba q)))] []
theorem aaC(h:ad [.i A a (bn b c d e f),.b (b != 0) true]):
a7 (aq Tryz.f187 0) (nK A a C E F G H ao K L) .ret (An false):=
h.aX [4] []
theorem aaD(h:ad (tY A a b d c e f [.b (c != 0) true])):
a7 (aq Tryz.f187 0) (nK A a C E F G H ao K L) .ret (An false):=
h.aX [4] []
theorem aaE(h:ad (tY C a b c d f g [.b (d != 0) false,.b (decide (a>0)) true,.v (a-1),.p (0<=a-1),.p (a-1<(A.length:Int)),.e A ((a-1).toNat) (bn i e j k l),.b (decide (e>c)) true])):
a7 (aq Tryz.f187 0) (nK C a E F A G H ao K L) .ret (An false):=
h.aX [4] []
theorem aaF(h:ad (tY C a b c d f g [.b (d != 0) false,.b (decide (a>0)) true,.v (a-1),.p (0<=a-1),.p (a-1<(A.length:Int)),.e A ((a-1).toNat) (bn i e j k l),.b (decide (e>c)) false,.u a])):
a7 (aq Tryz.f187 0) (nK C a E F A G H ao K L) .normal (nK C (a+1) E F A G H ao K L):=
h.aX [39,38,37,3] [3]
theorem aaG(h:ad (tY A a b d c e f [.b (c != 0) false,.b (decide (a>0)) false,.u a])):
a7 (aq Tryz.f187 0) (nK A a C E F G H ao K L) .normal (nK A (a+1) C E F G H ao K L):=
h.aX [39,38,37,3] [3]
def HQ(A C E F G H ao K:ae):aI:=bg 121 [(3,aQ 3)] [(3,[.J .free 5 A,.J .free 5 C,.J .free 5 E,.J .free 4 F,.J .free 1 G,.J .free 1 H,.J .free 1 ao,.J .free 2 K])]
theorem aaH(h:ad [.f L a false]):
a7 (aq Tryz.f187 0) (nK L a A C E F G H ao K) (.exit 0) (HQ A C E F G H ao K):=
h.aX [3] [3]
theorem aaI(h:ad (Mg A a b E q F r C s G t [.n t false,.l [] [39,38,37,3] [3] (aq Tryz.f187 0) (nK C 0 E F C G ao K L H) .ret (An u)])):
av 187 [.agg (bq A a b),.agg (bb E F C G ao K L H)] [ak u]:=
h.of
def Mh(A:ae)(a b:Int)(C:ae)(q:Bool)(E:ae)(r:Bool)(F:ae)(s:Bool)(G:ae)(t:Bool)(W:Code)(H ao K L M N P Q R S bm V:ae)(l:List O):List O:=Mg A a b C q E r F s G t (.n t false::.l [] [39,38,37,3] [3] W (nK F 0 C E F G H ao K L) (.exit 0) (HQ M N P Q R S bm V)::l)
theorem aaJ(h:ad (Mh A a b E q F r C s G t (aq Tryz.f187 0) K L M H N Q R S ao bm V X [.b ((ao.length:Int) != 4) true])):
av 187 [.agg (bq A a b),.agg (bb E F C G K L M H)] [ak false]:=
h.of
theorem aaK(h:ad (Mh A a b E q F r C s G t (aq Tryz.f187 0) L M N H Q R S bm ao K V X [.b ((ao.length:Int) != 4) false,.b ((K.length:Int) != 4) true])):
av 187 [.agg (bq A a b),.agg (bb E F C G L M N H)] [ak false]:=
h.of
def ER(A:ae)(a b:Int)(C:ae)(q:Bool)(E:ae)(r:Bool)(F:ae)(s:Bool)(G:ae)(t:Bool)(W:Code)(H ao K L M N P Q R S bm V:ae)(l:List O):List O:=Mh A a b C q E r F s G t W H ao K L M N P Q R S bm V (.b ((R.length:Int) != 4) false::.b ((S.length:Int) != 4) false::l)
theorem aaL(h:ad (ER A a b E q F r C s G t (aq Tryz.f187 0) M N Q H R S bm V ao K L X [.b ((L.length:Int) != 4) true])):
av 187 [.agg (bq A a b),.agg (bb E F C G M N Q H)] [ak false]:=
h.of
def s7(C E F G A H ao K:ae)(a:Int):aI:=bg 121 [(3,aQ 3),(89,dw 1 A),(90,aY (A.length:Int)),(91,aY a)] [(3,[.J .free 5 C,.J .free 5 E,.J .free 5 F,.J .free 4 G,.J .free 1 A,.J .free 1 H,.J .free 1 ao,.J .free 2 K])]
def JT(q:Bool):aI:=bg 121 [(4,.aK (.one (.ba q)))] []
theorem aaM(h:ad [.i A a [I b],.r 190 [af b,af (-1000000),af 1000000] [ak q],.n q true]):
a7 (aq Tryz.f187 1) (s7 C E F G A H ao K a) .ret (JT false):=
h.aX [4] []
theorem aaN(h:ad [.i A a [I b],.r 190 [af b,af (-1000000),af 1000000] [ak q],.n q false,.u a]):
a7 (aq Tryz.f187 1) (s7 C E F G A H ao K a) .normal (s7 C E F G A H ao K (a+1)):=
h.aX [91,90,89,3] [3]
def JU(A C E F G H ao K:ae):aI:=bg 121 [(3,aQ 3)] [(3,[.J .free 5 A,.J .free 5 C,.J .free 5 E,.J .free 4 F,.J .free 1 G,.J .free 1 H,.J .free 1 ao,.J .free 2 K])]
theorem aaO(h:ad [.f A a false]):
a7 (aq Tryz.f187 1) (s7 C E F G A H ao K a) (.exit 2) (JU C E F G A H ao K):=
h.aX [3] [3]
theorem aaP(h:ad (ER A a b H q ao r C s K t (aq Tryz.f187 0) bm V X L M N Q R E F G S [.b ((G.length:Int) != 4) false,.l [] [91,90,89,3] [3] (aq Tryz.f187 1) (s7 M N Q R E F G S 0) .ret (JT u)])):
av 187 [.agg (bq A a b),.agg (bb H ao C K bm V X L)] [ak u]:=
h.of
def qD(A:ae)(a:Int)(C E F G H ao K L:ae):aI:=bg 121 [(3,aQ 3),(100,dw 2 A),(101,aY (A.length:Int)),(102,aY a)] [(3,[.J .free 5 C,.J .free 5 E,.J .free 5 F,.J .free 4 G,.J .free 1 H,.J .free 1 ao,.J .free 1 K,.J .free 2 L])]
def CW(q:Bool):aI:=bg 121 [(4,.aK (.one (.ba q)))] []
theorem aaQ(h:ad [.i A a [I b,B r],.r 190 [af b,af 0,af 3] [ak q],.n q true]):
a7 (aq Tryz.f187 2) (qD A a C E F G H ao K L) .ret (CW false):=
h.aX [4] []
def Vc(A:ae)(a b:Int)(q r:Bool)(C:ae)(s:Bool)(l:List O):List O:=.i A a [I b,B q]::.r 190 [af b,af 0,af 3] [ak r]::.n r false::.p ((0:Int)<=none.getD 0)::.p (none.getD 0<=(some a).getD (C.length:Int))::.p ((some a).getD (C.length:Int)<=(C.length:Int))::.r 281 [.one (.J 2 (List.take (((some a).getD (C.length:Int)).toNat-0) (List.drop 0 C))),af b] [ak s]::l
theorem aaR(h:ad (Vc C a b s q A r [.b r true])):
a7 (aq Tryz.f187 2) (qD C a E F G H ao K L A) .ret (CW false):=
h.aX [4] []
theorem Z2(h:ad (Vc C a b s q A r [.b r false,.u a])):
a7 (aq Tryz.f187 2) (qD C a E F G H ao K L A) .normal (qD C (a+1) E F G H ao K L A):=
h.aX [102,101,100,3] [3]
def JV:aI:=bg 121 [] []
theorem Z3(h:ad [.f A a false]):
a7 (aq Tryz.f187 2) (qD A a C E F G H ao K L) (.exit 4) JV:=
h.aX [] []
theorem Z4(h:ad (ER G a b N q Q r M s R t (aq Tryz.f187 0) bm V X S H ao K L A C E F [.b ((E.length:Int) != 4) false,.l [] [91,90,89,3] [3] (aq Tryz.f187 1) (s7 H ao K L A C E F 0) (.exit 2) (JU H ao K L A C E F),.l [] [102,101,100,3] [3] (aq Tryz.f187 2) (qD F 0 H ao K L A C E F) .ret (CW u)])):
av 187 [.agg (bq G a b),.agg (bb N Q M R bm V X S)] [ak u]:=
h.of
theorem Z5(h:ad (ER G a b N q Q r M s R t (aq Tryz.f187 0) bm V X S H ao K L A C E F [.b ((E.length:Int) != 4) false,.l [] [91,90,89,3] [3] (aq Tryz.f187 1) (s7 H ao K L A C E F 0) (.exit 2) (JU H ao K L A C E F),.l [] [102,101,100,3] [3] (aq Tryz.f187 2) (qD F 0 H ao K L A C E F) (.exit 4) JV])):
av 187 [.agg (bq G a b),.agg (bb N Q M R bm V X S)] [ak true]:=
h.of
def u2(a:Int)(A:ae)(b c d e f:Int):aI:=bg 70 [(1,aQ 1),(3,aY f)] [(1,[ax a,.J .free 5 A,ax b,ax c,ax d,ax e])]
def JW(q:Bool):aI:=bg 70 [(2,.aK (.one (.ba q)))] []
theorem Z6(h:ad (Bc A c d e f a b q [.n q true])):
a7 (aq Tryz.f191 0) (u2 g A i j k l c) .ret (JW false):=
h.aX [2] []
theorem Z7(h:ad (Bc A a j k l c d q [.n q false,.u a])):
a7 (aq Tryz.f191 0) (u2 b A e f g i a) .normal (u2 b A e f g i (a+1)):=
h.aX [3,1] [1]
def OA(a:Int)(A:ae)(b c d e:Int):aI:=bg 70 [(1,aQ 1)] [(1,[ax a,.J .free 5 A,ax b,ax c,ax d,ax e])]
theorem Z8(h:ad [.f A f false]):
a7 (aq Tryz.f191 0) (u2 a A b c d e f) (.exit 0) (OA a A b c d e):=
h.aX [1] [1]
theorem Z9(h:ad [.l [] [3,1] [1] (aq Tryz.f191 0) (u2 a A b c d e 0) .ret (JW q)]):
av 191 [.agg (ch a A b c d e)] [ak q]:=
h.of
def Vg(W:Code)(a:Int)(A:ae)(b c d e:Int)(q:Bool)(l:List O):List O:=.l [] [3,1] [1] W (u2 a A b c d e 0) (.exit 0) (OA a A b c d e)::.r 168 [af a,af 1,af 4] [ak q]::l
def Vh(W:Code)(a:Int)(A:ae)(b c d e:Int)(q r:Bool)(l:List O):List O:=Vg W a A b c d e q (.b q true::.r 168 [af b,af 0,af a] [ak r]::l)
def Vi(W:Code)(a:Int)(A:ae)(b c d e:Int)(q r s:Bool)(l:List O):List O:=Vh W a A b c d e q r (.b r true::.r 168 [af c,af 0,af a] [ak s]::l)
def Vj(W:Code)(a:Int)(A:ae)(b c d e:Int)(q r s:Bool)(l:List O):List O:=Vi W a A b c d e q r s (.b s true::.v (b+c)::.v (b+c+(A.length:Int))::l)
def Mi(W:Code)(a:Int)(A:ae)(b c d e:Int)(q r s t:Bool)(l:List O):List O:=Vj W a A b c d e q r s (.b (b+c+(A.length:Int)==a) true::.r 168 [af d,af 0,af 1000000000] [ak t]::l)
theorem Z'(h:ad (Mi (aq Tryz.f191 0) a A b c d e q r s t [.b t true,.v (d-(A.length:Int)),.b (e==d-(A.length:Int)) true])):
av 191 [.agg (ch a A b c d e)] [ak (decide (e>=0))]:=
h.of
theorem aab(h:ad (Mi (aq Tryz.f191 0) a A b c d e q r s t [.b t true,.v (d-(A.length:Int)),.b (e==d-(A.length:Int)) false])):
av 191 [.agg (ch a A b c d e)] [ak false]:=
h.of
theorem aac(h:ad (Mi (aq Tryz.f191 0) a A b c d e q r s t [.b t false])):
av 191 [.agg (ch a A b c d e)] [ak false]:=
h.of
theorem aad(h:ad (Vj (aq Tryz.f191 0) a A b c d e q r s [.b (b+c+(A.length:Int)==a) false])):
av 191 [.agg (ch a A b c d e)] [ak false]:=
h.of
theorem aae(h:ad (Vi (aq Tryz.f191 0) a A b c d e q r s [.b s false])):
av 191 [.agg (ch a A b c d e)] [ak false]:=
h.of
theorem aaf(h:ad (Vh (aq Tryz.f191 0) a A b c d e q r [.b r false])):
av 191 [.agg (ch a A b c d e)] [ak false]:=
h.of
theorem aag(h:ad (Vg (aq Tryz.f191 0) a A b c d e q [.b q false])):
av 191 [.agg (ch a A b c d e)] [ak false]:=
h.of
def Vk(a:Int)(q:Bool)(l:List O):List O:=.r 190 [af a,af 1,af 4] [ak q]::l
theorem aah(h:ad (Vk a q [.n q true])):
av 188 [.agg (ch a A b c d e)] [ak false]:=
h.of
def Vl(a:Int)(q:Bool)(b:Int)(r:Bool)(l:List O):List O:=Vk a q (.n q false::.r 190 [af b,af 0,af a] [ak r]::l)
theorem aai(h:ad (Vl a q b r [.n r true])):
av 188 [.agg (ch a A b c d e)] [ak false]:=
h.of
def Vm(a:Int)(q:Bool)(b:Int)(r:Bool)(c:Int)(s:Bool)(l:List O):List O:=Vl a q b r (.n r false::.r 190 [af c,af 0,af a] [ak s]::l)
theorem aaj(h:ad (Vm a q b r c s [.n s true])):
av 188 [.agg (ch a A b c d e)] [ak false]:=
h.of
def EY(a:Int)(q:Bool)(b:Int)(r:Bool)(c:Int)(s:Bool)(A:ae)(l:List O):List O:=Vm a q b r c s (.n s false::.v (b+c)::.v (b+c+(A.length:Int))::l)
theorem aak(h:ad (EY a q b r c s A [.b (b+c+(A.length:Int) != a) true])):
av 188 [.agg (ch a A b c d e)] [ak false]:=
h.of
def EZ(a:Int)(q:Bool)(b:Int)(r:Bool)(c:Int)(s:Bool)(A:ae)(d:Int)(t:Bool)(l:List O):List O:=EY a q b r c s A (.b (b+c+(A.length:Int) != a) false::.r 190 [af d,af 0,af 1000000000] [ak t]::l)
theorem aal(h:ad (EZ a q b r c s A d t [.n t true])):
av 188 [.agg (ch a A b c d e)] [ak false]:=
h.of
theorem aam(h:ad (EZ a q b r c s A d t [.n t false,.b (decide (e<0)) true])):
av 188 [.agg (ch a A b c d e)] [ak false]:=
h.of
theorem aan(h:ad (EZ a q b r c s A d t [.n t false,.b (decide (e<0)) false,.v (d-e),.b (d-e != (A.length:Int)) true])):
av 188 [.agg (ch a A b c d e)] [ak false]:=
h.of
theorem aao(h:ad (EZ a r b s c t A d u [.n u false,.b (decide (e<0)) false,.v (d-e),.b (d-e != (A.length:Int)) false,.r 282 [aP 5 A] [ak q]])):
av 188 [.agg (ch a A b c d e)] [ak q]:=
h.of
def ve(A:ae)(a:Int):aI:=bg 15 [(5,dw 5 A),(6,aY (A.length:Int)),(7,aY a)] []
def JX(q:Bool):aI:=bg 15 [(2,.aK (.one (.ba q)))] []
theorem aap(h:ad (Bd A a b c d e f q [.n q true])):
a7 (aq Tryz.f282 0) (ve A a) .ret (JX false):=
h.aX [2] []
theorem aaq(h:ad (Bd A a b c d e f q [.n q false,.u a])):
a7 (aq Tryz.f282 0) (ve A a) .normal (ve A (a+1)):=
h.aX [7,6,5] []
def QI:aI:=bg 15 [] []
theorem aar(h:ad [.f A a false]):
a7 (aq Tryz.f282 0) (ve A a) (.exit 0) QI:=
h.aX [] []
theorem ZS(h:ad [.l [] [7,6,5] [] (aq Tryz.f282 0) (ve A 0) .ret (JX q)]):
av 282 [aP 5 A] [ak q]:=
h.of
theorem ZT(h:ad [.l [] [7,6,5] [] (aq Tryz.f282 0) (ve A 0) (.exit 0) QI]):
av 282 [aP 5 A] [ak true]:=
h.of
def Ms(A:ae)(a b:Int)(q:Bool)(l:List O):List O:=.r 121 [.agg (bq A a b)] [ak q]::l
theorem ZU(h:ad (Ms A a b q [.n q true])):
av 56 [.agg (cl A a b C E F G)] [ak false]:=
h.of
theorem ZV(h:ad (Ms A a b q [.n q false,.b ((C.length:Int) != a) true])):
av 56 [.agg (cl A a b C E F G)] [ak false]:=
h.of
def Vw(A:ae)(a b:Int)(q:Bool)(C:ae)(l:List O):List O:=Ms A a b q (.n q false::.b ((C.length:Int) != a) false::.v (a*a)::l)
theorem ZW(h:ad (Vw A a b q C [.b ((E.length:Int) != a*a) true])):
av 56 [.agg (cl A a b C E F G)] [ak false]:=
h.of
def Vx(A:ae)(a b:Int)(q:Bool)(C E:ae)(l:List O):List O:=Vw A a b q C (.b ((E.length:Int) != a*a) false::l)
theorem ZX(h:ad (Vx A a b q C E [.b ((F.length:Int) != 4) true])):
av 56 [.agg (cl A a b C E F G)] [ak false]:=
h.of
def rX(A:ae)(a b:Int)(C E F G:ae)(c:Int):aI:=bg 170 [(1,aQ 1),(3,aY a),(4,aY c)] [(1,[.J .free 4 A,ax a,ax b,.J .free 8 C,.J .free 6 E,.J .free 5 F,.J .free 3 G])]
def CX(q:Bool):aI:=bg 170 [(2,.aK (.one (.ba q)))] []
theorem ZY(h:ad [.b (decide (b<a)) true,.x L b (bb M C E F G H ao K),.r 175 [.agg (bq A a c),.agg (bb M C E F G H ao K)] [ak q],.n q true]):
a7 (aq Tryz.f56 0) (rX A a c L N Q R b) .ret (CX false):=
h.aX [2] []
theorem ZZ(h:ad [.b (decide (a<b)) true,.x C a (bb R E F G H ao K L),.r 175 [.agg (bq A b c),.agg (bb R E F G H ao K L)] [ak q],.n q false,.u a]):
a7 (aq Tryz.f56 0) (rX A b c C M N Q a) .normal (rX A b c C M N Q (a+1)):=
h.aX [4,3,1] [1]
def HR(A:ae)(a b:Int)(C E F G:ae):aI:=bg 170 [(1,aQ 1),(3,aY a)] [(1,[.J .free 4 A,ax a,ax b,.J .free 8 C,.J .free 6 E,.J .free 5 F,.J .free 3 G])]
theorem Z0(h:ad [.b (decide (c<a)) false]):
a7 (aq Tryz.f56 0) (rX A a b C E F G c) (.exit 0) (HR A a b C E F G):=
h.aX [1,3] [1]
def Vy(A:ae)(a b:Int)(q:Bool)(C E F:ae)(l:List O):List O:=Vx A a b q C E (.b ((F.length:Int) != 4) false::l)
theorem Z1(h:ad (Vy A a b q C E F [.l [] [4,3,1] [1] (aq Tryz.f56 0) (rX A a b C E F G 0) .ret (CX r)])):
av 56 [.agg (cl A a b C E F G)] [ak r]:=
h.of
def lq(a b:Int)(A:ae)(c d:Int)(C E F G:ae):aI:=bg 170 [(1,aQ 1),(3,aY a),(5,aY b)] [(1,[.J .free 4 A,ax c,ax d,.J .free 8 C,.J .free 6 E,.J .free 5 F,.J .free 3 G])]
def xD(q:Bool):aI:=bg 170 [(2,.aK (.one (.ba q)))] []
def Mt(A:ae)(a b:Int)(C:ae)(c d e f:Int)(q:Bool)(l:List O):List O:=.i A a (ch b C c d e f)::.r 191 [.agg (ch b C c d e f)] [ak q]::l
theorem abu(h:ad (Mt A f a C b c d e q [.n q true])):
a7 (aq Tryz.f56 1) (lq g f H i j E A F G) .ret (xD false):=
h.aX [2] []
theorem abv(h:ad (Mt A g a C c d e f q [.n q false,.b (a != b) true])):
a7 (aq Tryz.f56 1) (lq i g H j b E A F G) .ret (xD false):=
h.aX [2] []
def E1(A:ae)(a b:Int)(C:ae)(c d e f:Int)(q:Bool)(g:Int)(E:ae)(i:Int)(r:Bool)(l:List O):List O:=Mt A a b C c d e f q (.n q false::.b (b != g) false::.r 192 [.agg (bq E i g),aP 5 C] [ak r]::l)
theorem abw(h:ad (E1 C i b A d e f g q a E c r [.n r true])):
a7 (aq Tryz.f56 1) (lq j i E c a F C G H) .ret (xD false):=
h.aX [2] []
theorem abx(h:ad (E1 C b d A f g i j q c E e r [.n r false,.p (a≠0),.v (b.tdiv a),.p (a≠0),.b (b.tdiv a==b.tmod a) true,.b (decide ((A.length:Int)>0)) true])):
a7 (aq Tryz.f56 1) (lq a b E e c F C G H) .ret (xD false):=
h.aX [2] []
theorem aby(h:ad (E1 C b e A f g i j q c E d r [.n r false,.p (a≠0),.v (b.tdiv a),.p (a≠0),.b (b.tdiv a==b.tmod a) true,.b (decide ((A.length:Int)>0)) false,.u b])):
a7 (aq Tryz.f56 1) (lq a b E d c F C G H) .normal (lq a (b+1) E d c F C G H):=
h.aX [5,1,3] [1]
theorem abz(h:ad (E1 A b e C f g i j q c E d r [.n r false,.p (a≠0),.v (b.tdiv a),.p (a≠0),.b (b.tdiv a==b.tmod a) false,.u b])):
a7 (aq Tryz.f56 1) (lq a b E d c F A G H) .normal (lq a (b+1) E d c F A G H):=
h.aX [5,1,3] [1]
def Ao(a:Int)(A:ae)(b c:Int)(C E F G:ae):aI:=bg 170 [(1,aQ 1),(3,aY a)] [(1,[.J .free 4 A,ax b,ax c,.J .free 8 C,.J .free 6 E,.J .free 5 F,.J .free 3 G])]
theorem abA(h:ad [.f A d false]):
a7 (aq Tryz.f56 1) (lq a d G b c C A E F) (.exit 2) (Ao a G b c C A E F):=
h.aX [1,3] [1]
def E0(A:ae)(a b:Int)(q:Bool)(C E F:ae)(W:Code)(G:ae)(l:List O):List O:=Vy A a b q C E F (.l [] [4,3,1] [1] W (rX A a b C E F G 0) (.exit 0) (HR A a b C E F G)::l)
theorem abB(h:ad (E0 A a b q C E F (aq Tryz.f56 0) G [.l [] [5,1,3] [1] (aq Tryz.f56 1) (lq a 0 A a b C E F G) .ret (xD r)])):
av 56 [.agg (cl A a b C E F G)] [ak r]:=
h.of
def l6(a:Int)(A:ae)(b c:Int)(C E F G:ae)(d:Int):aI:=bg 170 [(1,aQ 1),(3,aY a),(7,aY d)] [(1,[.J .free 4 A,ax b,ax c,.J .free 8 C,.J .free 6 E,.J .free 5 F,.J .free 3 G])]
def vf(q:Bool):aI:=bg 170 [(2,.aK (.one (.ba q)))] []
def VB(A:ae)(a:Int)(q:Bool)(b c:Int)(r s:Bool)(d:Int)(l:List O):List O:=.i A a [B q,I b,I c,B r,B s]::.v (d-1)::l
def VC(A:ae)(a:Int)(q:Bool)(b c:Int)(r s:Bool)(d:Int)(t:Bool)(l:List O):List O:=VB A a q b c r s d (.r 168 [af b,af 0,af (d-1)] [ak t]::l)
theorem abC(h:ad (VC A b r c e s t a q [.n q true])):
a7 (aq Tryz.f56 2) (l6 a G f d C E A F b) .ret (vf false):=
h.aX [2] []
def Bk(A:ae)(a:Int)(q:Bool)(b c:Int)(r s:Bool)(d:Int)(t u:Bool)(e f:Int)(v w:Bool)(l:List O):List O:=VC A a q b c r s d t (.n t false::.x A a [B u,I e,I f,B v,B w]::l)
theorem abD(h:ad (Bk A a s c f t u b q r g i v w [.n r true,.x A a [B x,I d,I j,B y,B z],.b (d != 0) true])):
a7 (aq Tryz.f56 2) (l6 b G k e C E A F a) .ret (vf false):=
h.aX [2] []
theorem abE(h:ad (Bk A a t c g u v b q r i j w x [.n r true,.x A a [B y,I d,I k,B z,B h'],.b (d != 0) false,.x A a [B k2,I l,I e,B jr,B t0],.r 168 [af e,af (-1000000),af 1000000] [ak s],.n s true])):
a7 (aq Tryz.f56 2) (l6 b G m f C E A F a) .ret (vf false):=
h.aX [2] []
theorem abF(h:ad (Bk A a t d i u v b q r j k w x [.n r true,.x A a [B y,I e,I l,B z,B h'],.b (e != 0) false,.x A a [B k2,I m,I f,B jr,B t0],.r 168 [af f,af (-1000000),af 1000000] [ak s],.n s false,.u a])):
a7 (aq Tryz.f56 2) (l6 b G g c C E A F a) .normal (l6 b G g c C E A F (a+1)):=
h.aX [7,1,3] [1]
theorem abG(h:ad (Bk A a t c f u v b q r g i w x [.n r false,.x A a [B y,I j,I d,B z,B h'],.r 168 [af d,af (-1000000),af 1000000] [ak s],.n s true])):
a7 (aq Tryz.f56 2) (l6 b G k e C E A F a) .ret (vf false):=
h.aX [2] []
theorem abH(h:ad (Bk A a t d g u v b q r i j w x [.n r false,.x A a [B y,I k,I e,B z,B h'],.r 168 [af e,af (-1000000),af 1000000] [ak s],.n s false,.u a])):
a7 (aq Tryz.f56 2) (l6 b G f c C E A F a) .normal (l6 b G f c C E A F (a+1)):=
h.aX [7,1,3] [1]
def CY(a:Int)(A:ae)(b c:Int)(C E F G:ae):aI:=bg 170 [(1,aQ 1),(3,aY a)] [(1,[.J .free 4 A,ax b,ax c,.J .free 8 C,.J .free 6 E,.J .free 5 F,.J .free 3 G])]
theorem abI(h:ad [.f A c false]):
a7 (aq Tryz.f56 2) (l6 a G d b C E A F c) (.exit 4) (CY a G d b C E A F):=
h.aX [1,3] [1]
theorem abJ(h:ad (E0 A a b r C E F (aq Tryz.f56 0) G [.l [] [5,1,3] [1] (aq Tryz.f56 1) (lq a 0 A a b C E F G) (.exit 2) (Ao a M d c H ao K L),.l [] [7,1,3] [1] (aq Tryz.f56 2) (l6 a M d c H ao K L 0) .ret (vf q)])):
av 56 [.agg (cl A a b C E F G)] [ak q]:=
h.of
def qE(a:Int)(A:ae)(b c:Int)(C E F G:ae)(d:Int):aI:=bg 170 [(1,aQ 1),(3,aY a),(8,aY d)] [(1,[.J .free 4 A,ax b,ax c,.J .free 8 C,.J .free 6 E,.J .free 5 F,.J .free 3 G])]
def Ap(q:Bool):aI:=bg 170 [(2,.aK (.one (.ba q)))] []
theorem abK(h:ad [.i A b [I c,I e,B r],.v (a-1),.r 168 [af c,af 0,af (a-1)] [ak q],.n q true]):
a7 (aq Tryz.f56 3) (qE a G f d C E F A b) .ret (Ap false):=
h.aX [2] []
theorem abL(h:ad [.i A b [I c,I f,B s],.v (a-1),.r 168 [af c,af 0,af (a-1)] [ak q],.n q false,.x A b [I g,I d,B t],.r 168 [af d,af 0,af 3] [ak r],.n r true]):
a7 (aq Tryz.f56 3) (qE a G i e C E F A b) .ret (Ap false):=
h.aX [2] []
theorem abM(h:ad [.i A a [I d,I g,B s],.v (b-1),.r 168 [af d,af 0,af (b-1)] [ak q],.n q false,.x A a [I i,I e,B t],.r 168 [af e,af 0,af 3] [ak r],.n r false,.u a]):
a7 (aq Tryz.f56 3) (qE b G f c C E F A a) .normal (qE b G f c C E F A (a+1)):=
h.aX [8,1,3] [1]
def JY:aI:=bg 170 [] []
theorem abN(h:ad [.f A a false]):
a7 (aq Tryz.f56 3) (qE b G d c C E F A a) (.exit 6) JY:=
h.aX [] []
theorem abO(h:ad (E0 A a b r C E F (aq Tryz.f56 0) L [.l [] [5,1,3] [1] (aq Tryz.f56 1) (lq a 0 A a b C E F L) (.exit 2) (Ao a M d c G H ao K),.l [] [7,1,3] [1] (aq Tryz.f56 2) (l6 a M d c G H ao K 0) (.exit 4) (CY a M d c G H ao K),.l [] [8,1,3] [1] (aq Tryz.f56 3) (qE a M d c G H ao K 0) .ret (Ap q)])):
av 56 [.agg (cl A a b C E F L)] [ak q]:=
h.of
theorem abP(h:ad (E0 A a b q C E F (aq Tryz.f56 0) L [.l [] [5,1,3] [1] (aq Tryz.f56 1) (lq a 0 A a b C E F L) (.exit 2) (Ao a M d c G H ao K),.l [] [7,1,3] [1] (aq Tryz.f56 2) (l6 a M d c G H ao K 0) (.exit 4) (CY a M d c G H ao K),.l [] [8,1,3] [1] (aq Tryz.f56 3) (qE a M d c G H ao K 0) (.exit 6) JY])):
av 56 [.agg (cl A a b C E F L)] [ak true]:=
h.of
def MA(A:ae)(a b:Int)(q:Bool)(l:List O):List O:=.r 179 [.agg (bq A a b)] [ak q]::l
theorem abQ(h:ad (MA A a b q [.n q true])):
av 55 [.agg (cl A a b C E F G)] [ak false]:=
h.of
theorem abR(h:ad (MA A a b q [.n q false,.b ((C.length:Int) != a) true])):
av 55 [.agg (cl A a b C E F G)] [ak false]:=
h.of
def VD(A:ae)(a b:Int)(q:Bool)(C:ae)(l:List O):List O:=MA A a b q (.n q false::.b ((C.length:Int) != a) false::.v (a*a)::l)
theorem abS(h:ad (VD A a b q C [.b ((E.length:Int) != a*a) true])):
av 55 [.agg (cl A a b C E F G)] [ak false]:=
h.of
def VE(A:ae)(a b:Int)(q:Bool)(C E:ae)(l:List O):List O:=VD A a b q C (.b ((E.length:Int) != a*a) false::l)
theorem abT(h:ad (VE A a b q C E [.b ((F.length:Int) != 4) true])):
av 55 [.agg (cl A a b C E F G)] [ak false]:=
h.of
def rY(a:Int)(A:ae)(b:Int)(C:ae)(c d:Int)(E F G H:ae):aI:=bg 147 [(1,aQ 1),(3,aY a),(42,dw 8 A),(43,aY (A.length:Int)),(44,aY b)] [(1,[.J .free 4 C,ax c,ax d,.J .free 8 E,.J .free 6 F,.J .free 5 G,.J .free 3 H])]
def CZ(q:Bool):aI:=bg 147 [(2,.aK (.one (.ba q)))] []
theorem aa2(h:ad [.i L c (bb A C E F G H ao K),.r 187 [.agg (bq M a b),.agg (bb A C E F G H ao K)] [ak q],.n q true]):
a7 (aq Tryz.f55 0) (rY d L c M a b N Q R S) .ret (CZ false):=
h.aX [2] []
theorem aa3(h:ad [.i A a (bb ao K L M N Q R S),.r 187 [.agg (bq C b c),.agg (bb ao K L M N Q R S)] [ak q],.n q false,.u a]):
a7 (aq Tryz.f55 0) (rY d A a C b c E F G H) .normal (rY d A (a+1) C b c E F G H):=
h.aX [44,43,42,1,3] [1]
def HS(a:Int)(A:ae)(b c:Int)(C E F G:ae):aI:=bg 147 [(1,aQ 1),(3,aY a)] [(1,[.J .free 4 A,ax b,ax c,.J .free 8 C,.J .free 6 E,.J .free 5 F,.J .free 3 G])]
theorem aa4(h:ad [.f G d false]):
a7 (aq Tryz.f55 0) (rY a G d H b c A C E F) (.exit 0) (HS a H b c A C E F):=
h.aX [1,3] [1]
def VF(A:ae)(a b:Int)(q:Bool)(C E F:ae)(l:List O):List O:=VE A a b q C E (.b ((F.length:Int) != 4) false::l)
theorem aa5(h:ad (VF C a b q A E F [.l [] [44,43,42,1,3] [1] (aq Tryz.f55 0) (rY a A 0 C a b A E F G) .ret (CZ r)])):
av 55 [.agg (cl C a b A E F G)] [ak r]:=
h.of
def lr(a:Int)(A:ae)(b:Int)(C:ae)(c d:Int)(E F G H:ae):aI:=bg 147 [(1,aQ 1),(3,aY a),(55,dw 6 A),(56,aY (A.length:Int)),(57,aY b)] [(1,[.J .free 4 C,ax c,ax d,.J .free 8 E,.J .free 6 F,.J .free 5 G,.J .free 3 H])]
def xE(q:Bool):aI:=bg 147 [(2,.aK (.one (.ba q)))] []
def Mu(A:ae)(a b:Int)(C:ae)(c d e f:Int)(q:Bool)(l:List O):List O:=.i A a (ch b C c d e f)::.r 188 [.agg (ch b C c d e f)] [ak q]::l
theorem aa6(h:ad (Mu A a b C c d e f q [.n q true])):
a7 (aq Tryz.f55 1) (lr g A a E i j F G H ao) .ret (xE false):=
h.aX [2] []
theorem aa7(h:ad (Mu A b a C d e f g q [.n q false,.b (a != c) true])):
a7 (aq Tryz.f55 1) (lr i A b E j c F G H ao) .ret (xE false):=
h.aX [2] []
def E4(A:ae)(a b:Int)(C:ae)(c d e f:Int)(q:Bool)(g:Int)(E:ae)(i:Int)(r:Bool)(l:List O):List O:=Mu A a b C c d e f q (.n q false::.b (b != g) false::.r 189 [.agg (bq E i g),aP 5 C] [ak r]::l)
theorem aa8(h:ad (E4 C c b A e f g i q a E d r [.n r true])):
a7 (aq Tryz.f55 1) (lr j C c E d a F G H ao) .ret (xE false):=
h.aX [2] []
theorem aa9(h:ad (E4 C b d A f g i j q c E e r [.n r false,.p (a≠0),.v (b.tdiv a),.p (a≠0),.b (b.tdiv a==b.tmod a) true,.b (decide ((A.length:Int)>0)) true])):
a7 (aq Tryz.f55 1) (lr a C b E e c F G H ao) .ret (xE false):=
h.aX [2] []
theorem aba(h:ad (E4 C b e A f g i j q c E d r [.n r false,.p (a≠0),.v (b.tdiv a),.p (a≠0),.b (b.tdiv a==b.tmod a) true,.b (decide ((A.length:Int)>0)) false,.u b])):
a7 (aq Tryz.f55 1) (lr a C b E d c F G H ao) .normal (lr a C (b+1) E d c F G H ao):=
h.aX [57,56,55,1,3] [1]
theorem abb(h:ad (E4 A b e E f g i j q c C d r [.n r false,.p (a≠0),.v (b.tdiv a),.p (a≠0),.b (b.tdiv a==b.tmod a) false,.u b])):
a7 (aq Tryz.f55 1) (lr a A b C d c F G H ao) .normal (lr a A (b+1) C d c F G H ao):=
h.aX [57,56,55,1,3] [1]
def Aq(a:Int)(A:ae)(b c:Int)(C E F G:ae):aI:=bg 147 [(1,aQ 1),(3,aY a)] [(1,[.J .free 4 A,ax b,ax c,.J .free 8 C,.J .free 6 E,.J .free 5 F,.J .free 3 G])]
theorem abd(h:ad [.f A b false]):
a7 (aq Tryz.f55 1) (lr a A b C c d E F G H) (.exit 2) (Aq a C c d E F G H):=
h.aX [1,3] [1]
def E5(A:ae)(a b:Int)(q:Bool)(C E F:ae)(W:Code)(G H:ae)(c d:Int)(ao K L M:ae)(l:List O):List O:=VF A a b q C E F (.l [] [44,43,42,1,3] [1] W (rY a C 0 A a b C E F G) (.exit 0) (HS a H c d ao K L M)::l)
theorem abe(h:ad (E5 C a b r A F G (aq Tryz.f55 0) L M d c H E ao K [.l [] [57,56,55,1,3] [1] (aq Tryz.f55 1) (lr a E 0 M d c H E ao K) .ret (xE q)])):
av 55 [.agg (cl C a b A F G L)] [ak q]:=
h.of
def l7(a:Int)(A:ae)(b:Int)(C:ae)(c d:Int)(E F G H:ae):aI:=bg 147 [(1,aQ 1),(3,aY a),(98,dw 5 A),(99,aY (A.length:Int)),(100,aY b)] [(1,[.J .free 4 C,ax c,ax d,.J .free 8 E,.J .free 6 F,.J .free 5 G,.J .free 3 H])]
def vg(q:Bool):aI:=bg 147 [(2,.aK (.one (.ba q)))] []
def xT(A:ae)(a:Int)(q:Bool)(b c:Int)(r s:Bool)(d:Int)(t:Bool)(l:List O):List O:=VB A a q b c r s d (.r 190 [af b,af 0,af (d-1)] [ak t]::l)
theorem abf(h:ad (xT A b r c f s t a q [.n q true])):
a7 (aq Tryz.f55 2) (l7 a A b C d e E F G H) .ret (vg false):=
h.aX [2] []
theorem abg(h:ad (xT A c q b f s t a r [.n r false,.n q true,.b (b != 0) true])):
a7 (aq Tryz.f55 2) (l7 a A c C d e E F G H) .ret (vg false):=
h.aX [2] []
theorem abh(h:ad (xT A c q b d t u a r [.n r false,.n q true,.b (b != 0) false,.r 190 [af d,af (-1000000),af 1000000] [ak s],.n s true])):
a7 (aq Tryz.f55 2) (l7 a A c C e f E F G H) .ret (vg false):=
h.aX [2] []
theorem abi(h:ad (xT A b q c f t u a r [.n r false,.n q true,.b (c != 0) false,.r 190 [af f,af (-1000000),af 1000000] [ak s],.n s false,.u b])):
a7 (aq Tryz.f55 2) (l7 a A b C d e E F G H) .normal (l7 a A (b+1) C d e E F G H):=
h.aX [100,99,98,3,1] [1]
theorem abj(h:ad (xT A b q c d t u a r [.n r false,.n q false,.r 190 [af d,af (-1000000),af 1000000] [ak s],.n s true])):
a7 (aq Tryz.f55 2) (l7 a A b C e f E F G H) .ret (vg false):=
h.aX [2] []
theorem abk(h:ad (xT A b q e f t u a r [.n r false,.n q false,.r 190 [af f,af (-1000000),af 1000000] [ak s],.n s false,.u b])):
a7 (aq Tryz.f55 2) (l7 a A b C c d E F G H) .normal (l7 a A (b+1) C c d E F G H):=
h.aX [100,99,98,3,1] [1]
def C0(a:Int)(A:ae)(b c:Int)(C E F G:ae):aI:=bg 147 [(1,aQ 1),(3,aY a)] [(1,[.J .free 4 A,ax b,ax c,.J .free 8 C,.J .free 6 E,.J .free 5 F,.J .free 3 G])]
theorem abl(h:ad [.f A b false]):
a7 (aq Tryz.f55 2) (l7 a A b C c d E F G H) (.exit 4) (C0 a C c d E F G H):=
h.aX [1,3] [1]
theorem abm(h:ad (E5 C a b r A G H (aq Tryz.f55 0) S bm f c ao E K L [.l [] [57,56,55,1,3] [1] (aq Tryz.f55 1) (lr a E 0 bm f c ao E K L) (.exit 2) (Aq a M d e N Q F R),.l [] [100,99,98,3,1] [1] (aq Tryz.f55 2) (l7 a F 0 M d e N Q F R) .ret (vg q)])):
av 55 [.agg (cl C a b A G H S)] [ak q]:=
h.of
def qF(a:Int)(A:ae)(b:Int):aI:=bg 147 [(3,aY a),(128,dw 3 A),(129,aY (A.length:Int)),(130,aY b)] []
def Ar(q:Bool):aI:=bg 147 [(2,.aK (.one (.ba q)))] []
theorem abn(h:ad [.i A b [I c,I d,B r],.v (a-1),.r 190 [af c,af 0,af (a-1)] [ak q],.n q true]):
a7 (aq Tryz.f55 3) (qF a A b) .ret (Ar false):=
h.aX [2] []
theorem abo(h:ad [.i A b [I c,I d,B s],.v (a-1),.r 190 [af c,af 0,af (a-1)] [ak q],.n q false,.r 190 [af d,af 0,af 3] [ak r],.n r true]):
a7 (aq Tryz.f55 3) (qF a A b) .ret (Ar false):=
h.aX [2] []
theorem abp(h:ad [.i A b [I c,I d,B s],.v (a-1),.r 190 [af c,af 0,af (a-1)] [ak q],.n q false,.r 190 [af d,af 0,af 3] [ak r],.n r false,.u b]):
a7 (aq Tryz.f55 3) (qF a A b) .normal (qF a A (b+1)):=
h.aX [130,129,128,3] []
def JZ:aI:=bg 147 [] []
theorem abq(h:ad [.f A a false]):
a7 (aq Tryz.f55 3) (qF b A a) (.exit 6) JZ:=
h.aX [] []
theorem abr(h:ad (E5 C a b r A G H (aq Tryz.f55 0) bm V f c ao E K L [.l [] [57,56,55,1,3] [1] (aq Tryz.f55 1) (lr a E 0 V f c ao E K L) (.exit 2) (Aq a M d e N Q F R),.l [] [100,99,98,3,1] [1] (aq Tryz.f55 2) (l7 a F 0 M d e N Q F R) (.exit 4) (C0 a X g i Y Z ew S),.l [] [130,129,128,3] [] (aq Tryz.f55 3) (qF a S 0) .ret (Ar q)])):
av 55 [.agg (cl C a b A G H bm)] [ak q]:=
h.of
theorem abt(h:ad (E5 C a b q A G H (aq Tryz.f55 0) bm V f c ao E K L [.l [] [57,56,55,1,3] [1] (aq Tryz.f55 1) (lr a E 0 V f c ao E K L) (.exit 2) (Aq a M d e N Q F R),.l [] [100,99,98,3,1] [1] (aq Tryz.f55 2) (l7 a F 0 M d e N Q F R) (.exit 4) (C0 a X g i Y Z ew S),.l [] [130,129,128,3] [] (aq Tryz.f55 3) (qF a S 0) (.exit 6) JZ])):
av 55 [.agg (cl C a b A G H bm)] [ak true]:=
h.of
