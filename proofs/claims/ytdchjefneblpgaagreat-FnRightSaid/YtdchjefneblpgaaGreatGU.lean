import Derived.Test.YtdchjefneblpgaaGreatGE
set_option linter.unusedVariables false
set_option linter.unusedSimpArgs false
namespace Go.Proofs.YtdchjefneblpgaaGreat
open Go.Sx Go.RowKit
variable {a b c d e f g i j k l m n o p a0 ch de d0 cd f0 : Int} {A C E F G H au K L M N Q R S bn V X Y Z dK : ah} {q r s t u v w x y z gJ hh hj t0 : Bool}
theorem aja(h:af [.b (decide (a<1)) true]):
 av 245 [ag b,ag a] [ag 0]:=
 h.of
def Je(a:Int)(l:List O):List O:=.b (decide (a<1)) false::.p (a≠0)::l
theorem ajb(h:af (Je a [.b (decide (b.tmod a<0)) true,.v (b.tmod a+a)])):
 av 245 [ag b,ag a] [ag (b.tmod a+a)]:=
 h.of
theorem ajc(h:af (Je a [.b (decide (b.tmod a<0)) false])):
 av 245 [ag b,ag a] [ag (b.tmod a)]:=
 h.of
theorem ajd(h:af [.b (decide (a<1)) true]):
 av 147 [ag b,ag a] [ag 0]:=
 h.of
theorem aje(h:af (Je a [.b (decide (b.tmod a<0)) true,.v (b.tmod a+a)])):
 av 147 [ag b,ag a] [ag (b.tmod a+a)]:=
 h.of
theorem ajf(h:af (Je a [.b (decide (b.tmod a<0)) false])):
 av 147 [ag b,ag a] [ag (b.tmod a)]:=
 h.of
def wJ(A:ah)(a:Int):aD:=ba 21 [(0,c6 4 A),(3,aY a)] []
def N2(q:Bool):aD:=ba 21 [(2,.aR (.one (.bR q)))] []
def Jf(A:ah)(a b c d e f g i j:Int)(l:List O):List O:=.f A a true::.v (a-1)::.p (0<=a-1)::.p (a-1<(A.length:Int))::.e A ((a-1).toNat) [I b,I c,I d,I e]::.x A a [I f,I g,I i,I j]::l
theorem ajg(h:af (Jf A a c d e f g i j k [.r 307 [.agg [I c,I d,I e,I f],.agg [I g,I i,I j,I k]] [ag b],.b (decide (b>=0)) true])):
 aT (ap Tryz.f266 0) (wJ A a) .ret (N2 false):=
 h.aQ [2] []
theorem akH(h:af (Jf A a c d e f g i j k [.r 307 [.agg [I c,I d,I e,I f],.agg [I g,I i,I j,I k]] [ag b],.b (decide (b>=0)) false,.u a])):
 aT (ap Tryz.f266 0) (wJ A a) .normal (wJ A (a+1)):=
 h.aQ [3,0] []
def V7:aD:=ba 21 [] []
theorem akI(h:af [.f A a false]):
 aT (ap Tryz.f266 0) (wJ A a) (.exit 0) V7:=
 h.aQ [] []
theorem akJ(h:af [.l [] [3,0] [] (ap Tryz.f266 0) (wJ A 1) .ret (N2 q)]):
 av 266 [aE 4 A] [ak q]:=
 h.of
theorem akK(h:af [.l [] [3,0] [] (ap Tryz.f266 0) (wJ A 1) (.exit 0) V7]):
 av 266 [aE 4 A] [ak true]:=
 h.of
def vO(A:ah)(a:Int):aD:=ba 21 [(0,c6 4 A),(3,aY a)] []
def N3(q:Bool):aD:=ba 21 [(2,.aR (.one (.bR q)))] []
theorem akL(h:af (Jf A a c d e f g i j k [.r 304 [.agg [I c,I d,I e,I f],.agg [I g,I i,I j,I k]] [ag b],.b (decide (b>=0)) true])):
 aT (ap Tryz.f280 0) (vO A a) .ret (N3 false):=
 h.aQ [2] []
theorem akM(h:af (Jf A a c d e f g i j k [.r 304 [.agg [I c,I d,I e,I f],.agg [I g,I i,I j,I k]] [ag b],.b (decide (b>=0)) false,.u a])):
 aT (ap Tryz.f280 0) (vO A a) .normal (vO A (a+1)):=
 h.aQ [3,0] []
def V8:aD:=ba 21 [] []
theorem akN(h:af [.f A a false]):
 aT (ap Tryz.f280 0) (vO A a) (.exit 0) V8:=
 h.aQ [] []
theorem akO(h:af [.l [] [3,0] [] (ap Tryz.f280 0) (vO A 1) .ret (N3 q)]):
 av 280 [aE 4 A] [ak q]:=
 h.of
theorem akP(h:af [.l [] [3,0] [] (ap Tryz.f280 0) (vO A 1) (.exit 0) V8]):
 av 280 [aE 4 A] [ak true]:=
 h.of
def vP(A:ah)(a b:Int)(C:ah)(c:Int):aD:=ba 29 [(1,c6 5 C),(2,a1 2),(5,aY c)] [(2,[.J .free 4 A,az a,az b])]
def Hs(q:Bool):aD:=ba 29 [(4,.aR (.one (.bR q)))] []
def EJ(A:ah)(a b c d e f:Int)(q:Bool)(l:List O):List O:=.i A a (bz b c d e f)::.r 122 [.agg (bz b c d e f)] [ak q]::l
theorem akQ(h:af (EJ A a b c d e f q [.n q true])):
 aT (ap Tryz.f192 0) (vP C g i A a) .ret (Hs false):=
 h.aQ [4] []
theorem akR(h:af (EJ A a c d e f g q [.n q false,.x A a (bz b j k l m),.b (decide (b>=(C.length:Int))) true])):
 aT (ap Tryz.f192 0) (vP C i n A a) .ret (Hs false):=
 h.aQ [4] []
theorem akS(h:af (EJ A a e f g i j q [.n q false,.x A a (bz c k l m n),.b (decide (c>=(C.length:Int))) false,.u a])):
 aT (ap Tryz.f192 0) (vP C b d A a) .normal (vP C b d A (a+1)):=
 h.aQ [5,1,2] [2]
def V9:aD:=ba 29 [] []
theorem akT(h:af [.f A a false]):
 aT (ap Tryz.f192 0) (vP C b c A a) (.exit 0) V9:=
 h.aQ [] []
theorem akU(h:af [.l [] [5,1,2] [2] (ap Tryz.f192 0) (vP A a b C 0) .ret (Hs q)]):
 av 192 [.agg (bg A a b),aE 5 C] [ak q]:=
 h.of
theorem akV(h:af [.l [] [5,1,2] [2] (ap Tryz.f192 0) (vP A a b C 0) (.exit 0) V9]):
 av 192 [.agg (bg A a b),aE 5 C] [ak true]:=
 h.of
def vQ(A:ah)(a:Int)(C:ah)(b c:Int):aD:=ba 24 [(2,a1 2),(7,c6 5 A),(8,aY (A.length:Int)),(9,aY a)] [(2,[.J .free 4 C,az b,az c])]
def Ht(q:Bool):aD:=ba 24 [(4,.aR (.one (.bR q)))] []
def EK(A:ah)(a b c d e f:Int)(q:Bool)(l:List O):List O:=.i A a (bz b c d e f)::.r 180 [.agg (bz b c d e f)] [ak q]::l
theorem akW(h:af (EK A d e f a b c q [.n q true])):
 aT (ap Tryz.f189 0) (vQ A d C g i) .ret (Ht false):=
 h.aQ [4] []
theorem akX(h:af (EK A e a i b c d q [.n q false,.r 250 [.agg (bg C f g),ag a] [ak r],.n r true])):
 aT (ap Tryz.f189 0) (vQ A e C f g) .ret (Ht false):=
 h.aQ [4] []
theorem akY(h:af (EK A a d i e f g q [.n q false,.r 250 [.agg (bg C b c),ag d] [ak r],.n r false,.u a])):
 aT (ap Tryz.f189 0) (vQ A a C b c) .normal (vQ A (a+1) C b c):=
 h.aQ [9,8,7,2] [2]
def V':aD:=ba 24 [] []
theorem akZ(h:af [.f A a false]):
 aT (ap Tryz.f189 0) (vQ A a C b c) (.exit 0) V':=
 h.aQ [] []
theorem ak0(h:af [.l [] [9,8,7,2] [2] (ap Tryz.f189 0) (vQ C 0 A a b) .ret (Ht q)]):
 av 189 [.agg (bg A a b),aE 5 C] [ak q]:=
 h.of
theorem ak1(h:af [.l [] [9,8,7,2] [2] (ap Tryz.f189 0) (vQ C 0 A a b) (.exit 0) V']):
 av 189 [.agg (bg A a b),aE 5 C] [ak true]:=
 h.of
def abw(A:ah)(a b:Int)(C:ah)(q:Bool)(l:List O):List O:=.r 192 [.agg (bg A a b),aE 5 C] [ak q]::l
theorem ak2(h:af (abw A a b C q [.n q true])):
 av 175 [.agg (bg A a b),.agg (bb C F G H au K L E)] [ak false]:=
 h.of
def aa8(A:ah)(a b:Int)(C:ah)(q:Bool)(E:ah)(r:Bool)(l:List O):List O:=abw A a b C q (.n q false::.r 192 [.agg (bg A a b),aE 5 E] [ak r]::l)
theorem ak3(h:af (aa8 A a b C q E r [.n r true])):
 av 175 [.agg (bg A a b),.agg (bb C E G H au K L F)] [ak false]:=
 h.of
def aa9(A:ah)(a b:Int)(C:ah)(q:Bool)(E:ah)(r:Bool)(F:ah)(s:Bool)(l:List O):List O:=aa8 A a b C q E r (.n r false::.r 192 [.agg (bg A a b),aE 5 F] [ak s]::l)
theorem ak4(h:af (aa9 A a b C q E r F s [.n s true])):
 av 175 [.agg (bg A a b),.agg (bb C E F H au K L G)] [ak false]:=
 h.of
def QU(A:ah)(a b:Int)(C:ah)(q:Bool)(E:ah)(r:Bool)(F:ah)(s:Bool)(G:ah)(t:Bool)(l:List O):List O:=aa9 A a b C q E r F s (.n s false::.r 266 [aE 4 G] [ak t]::l)
theorem ak5(h:af (QU A a b C q E r F s G t [.n t true])):
 av 175 [.agg (bg A a b),.agg (bb C E F G au K L H)] [ak false]:=
 h.of
theorem ak6(h:af (QU A a b C q E r F s G t [.n t false,.b ((H.length:Int) != 4) true])):
 av 175 [.agg (bg A a b),.agg (bb C E F G H K L au)] [ak false]:=
 h.of
def aba(A:ah)(a b:Int)(C:ah)(q:Bool)(E:ah)(r:Bool)(F:ah)(s:Bool)(G:ah)(t:Bool)(H:ah)(l:List O):List O:=QU A a b C q E r F s G t (.n t false::.b ((H.length:Int) != 4) false::l)
theorem akh(h:af (aba A a b C q E r F s G t H [.b ((au.length:Int) != 4) true])):
 av 175 [.agg (bg A a b),.agg (bb C E F G H au L K)] [ak false]:=
 h.of
def QV(A:ah)(a b:Int)(C:ah)(q:Bool)(E:ah)(r:Bool)(F:ah)(s:Bool)(G:ah)(t:Bool)(H au:ah)(l:List O):List O:=aba A a b C q E r F s G t H (.b ((au.length:Int) != 4) false::l)
theorem aki(h:af (QV A a b C q E r F s G t H au [.b ((K.length:Int) != 4) true])):
 av 175 [.agg (bg A a b),.agg (bb C E F G H au K L)] [ak false]:=
 h.of
def pW(A C E F G H au K:ah)(a:Int):aD:=ba 147 [(3,a1 3),(5,aY 4),(6,aY a)] [(3,[.J .free 5 A,.J .free 5 C,.J .free 5 E,.J .free 4 F,.J .free 1 G,.J .free 1 H,.J .free 1 au,.J .free 2 K])]
def CU(q:Bool):aD:=ba 147 [(4,.aR (.one (.bR q)))] []
theorem akj(h:af [.i A a (bz b c d e f),.b (b != 0) true]):
 aT (ap Tryz.f175 0) (pW E F A G H au K C a) .ret (CU false):=
 h.aQ [4] []
def wU(A:ah)(a b c d e f:Int)(l:List O):List O:=.i A a (bz b c d e f)::.b (b != 0) false::l
theorem akk(h:af (wU A a b d e f g [.x A a (bz i j c k l),.b (c != 0) true])):
 aT (ap Tryz.f175 0) (pW E F A G H au K C a) .ret (CU false):=
 h.aQ [4] []
theorem akl(h:af (wU A a b f g i j [.x A a (bz k l c m n),.b (c != 0) false,.b (decide (a>0)) true,.v (a-1),.p (0<=a-1),.p (a-1<(A.length:Int)),.e A ((a-1).toNat) (bz o d p a0 ch),.x A a (bz de e d0 cd f0),.b (decide (d>e)) true])):
 aT (ap Tryz.f175 0) (pW E F A G H au K C a) .ret (CU false):=
 h.aQ [4] []
theorem akm(h:af (wU A a b f g i j [.x A a (bz k l c m n),.b (c != 0) false,.b (decide (a>0)) true,.v (a-1),.p (0<=a-1),.p (a-1<(A.length:Int)),.e A ((a-1).toNat) (bz o d p a0 ch),.x A a (bz de e d0 cd f0),.b (decide (d>e)) false,.u a])):
 aT (ap Tryz.f175 0) (pW E F A G H au K C a) .normal (pW E F A G H au K C (a+1)):=
 h.aQ [6,3,5] [3]
theorem akn(h:af (wU A a b d e f g [.x A a (bz i j c k l),.b (c != 0) false,.b (decide (a>0)) false,.u a])):
 aT (ap Tryz.f175 0) (pW E F A G H au K C a) .normal (pW E F A G H au K C (a+1)):=
 h.aQ [6,3,5] [3]
def L5(A C E F G H au K:ah):aD:=ba 147 [(3,a1 3),(5,aY 4)] [(3,[.J .free 5 A,.J .free 5 C,.J .free 5 E,.J .free 4 F,.J .free 1 G,.J .free 1 H,.J .free 1 au,.J .free 2 K])]
theorem ako(h:af [.f A a false]):
 aT (ap Tryz.f175 0) (pW E F A G H au K C a) (.exit 0) (L5 E F A G H au K C):=
 h.aQ [5,3] [3]
theorem akp(h:af (QV A a b C q E r F s G t H au [.b ((K.length:Int) != 4) false,.l [] [6,3,5] [3] (ap Tryz.f175 0) (pW C E F G H au K L 0) .ret (CU u)])):
 av 175 [.agg (bg A a b),.agg (bb C E F G H au K L)] [ak u]:=
 h.of
def vR(A C E F G H au K:ah)(a:Int):aD:=ba 147 [(3,a1 3),(5,aY 4),(7,aY a)] [(3,[.J .free 5 A,.J .free 5 C,.J .free 5 E,.J .free 4 F,.J .free 1 G,.J .free 1 H,.J .free 1 au,.J .free 2 K])]
def N4(q:Bool):aD:=ba 147 [(4,.aR (.one (.bR q)))] []
theorem akq(h:af [.b (decide (a<4)) true,.x A a [I b],.r 168 [ag b,ag (-1000000),ag 1000000] [ak q],.n q true]):
 aT (ap Tryz.f175 1) (vR E F G H A au K C a) .ret (N4 false):=
 h.aQ [4] []
theorem akr(h:af [.b (decide (a<4)) true,.x A a [I b],.r 168 [ag b,ag (-1000000),ag 1000000] [ak q],.n q false,.u a]):
 aT (ap Tryz.f175 1) (vR E F G H A au K C a) .normal (vR E F G H A au K C (a+1)):=
 h.aQ [7,5,3] [3]
def N5(A C E F G H au K:ah):aD:=ba 147 [(3,a1 3)] [(3,[.J .free 5 A,.J .free 5 C,.J .free 5 E,.J .free 4 F,.J .free 1 G,.J .free 1 H,.J .free 1 au,.J .free 2 K])]
theorem aks(h:af [.b (decide (a<4)) false]):
 aT (ap Tryz.f175 1) (vR C E F G H au K A a) (.exit 2) (N5 C E F G H au K A):=
 h.aQ [3] [3]
def QW(A:ah)(a b:Int)(C:ah)(q:Bool)(E:ah)(r:Bool)(F:ah)(s:Bool)(G:ah)(t:Bool)(H au K:ah)(W:Code)(L:ah)(l:List O):List O:=QV A a b C q E r F s G t H au (.b ((K.length:Int) != 4) false::.l [] [6,3,5] [3] W (pW C E F G H au K L 0) (.exit 0) (L5 C E F G H au K L)::l)
theorem akt(h:af (QW K a b A q C r E s F t G H au (ap Tryz.f175 0) L [.l [] [7,5,3] [3] (ap Tryz.f175 1) (vR A C E F G H au L 0) .ret (N4 u)])):
 av 175 [.agg (bg K a b),.agg (bb A C E F G H au L)] [ak u]:=
 h.of
def s9(A C E F G H au K:ah)(a:Int):aD:=ba 147 [(3,a1 3),(8,aY a)] [(3,[.J .free 5 A,.J .free 5 C,.J .free 5 E,.J .free 4 F,.J .free 1 G,.J .free 1 H,.J .free 1 au,.J .free 2 K])]
def Hu(q:Bool):aD:=ba 147 [(4,.aR (.one (.bR q)))] []
theorem aku(h:af [.i A a [I b,B r],.r 168 [ag b,ag 0,ag 3] [ak q],.n q true]):
 aT (ap Tryz.f175 2) (s9 C E F G H au K A a) .ret (Hu false):=
 h.aQ [4] []
def uO(A C E F G H au K:ah)(a b:Int):aD:=ba 147 [(3,a1 3),(8,aY a),(9,aY b)] [(3,[.J .free 5 A,.J .free 5 C,.J .free 5 E,.J .free 4 F,.J .free 1 G,.J .free 1 H,.J .free 1 au,.J .free 2 K])]
def Hv(q:Bool):aD:=ba 147 [(4,.aR (.one (.bR q)))] []
theorem akv(h:af [.b (decide (b<a)) true,.x A b [I c,B q],.x A a [I d,B r],.b (c==d) true]):
 aT (ap Tryz.f175 3) (uO C E F G H au K A a b) .ret (Hv false):=
 h.aQ [4] []
theorem akw(h:af [.b (decide (a<b)) true,.x A a [I c,B q],.x A b [I d,B r],.b (c==d) false,.u a]):
 aT (ap Tryz.f175 3) (uO C E F G H au K A b a) .normal (uO C E F G H au K A b (a+1)):=
 h.aQ [9,8,3] [3]
def Nv(A C E F G H au K:ah)(a:Int):aD:=ba 147 [(3,a1 3),(8,aY a)] [(3,[.J .free 5 A,.J .free 5 C,.J .free 5 E,.J .free 4 F,.J .free 1 G,.J .free 1 H,.J .free 1 au,.J .free 2 K])]
theorem akx(h:af [.b (decide (b<a)) false]):
 aT (ap Tryz.f175 3) (uO C E F G H au K A a b) (.exit 6) (Nv C E F G H au K A a):=
 h.aQ [8,3] [3]
theorem aky(h:af [.i A a [I b,B s],.r 168 [ag b,ag 0,ag 3] [ak q],.n q false,.l [] [9,8,3] [3] (ap Tryz.f175 3) (uO C E F G H au K A a 0) .ret (Hv r)]):
 aT (ap Tryz.f175 2) (s9 C E F G H au K A a) .ret (Hu r):=
 h.aQ [4] []
theorem akz(h:af [.i A a [I b,B r],.r 168 [ag b,ag 0,ag 3] [ak q],.n q false,.l [] [9,8,3] [3] (ap Tryz.f175 3) (uO C E F G H au K A a 0) (.exit 6) (Nv C E F G H au K A a),.u a]):
 aT (ap Tryz.f175 2) (s9 C E F G H au K A a) .normal (s9 C E F G H au K A (a+1)):=
 h.aQ [8,3] [3]
def Nw:aD:=ba 147 [] []
theorem akA(h:af [.f A a false]):
 aT (ap Tryz.f175 2) (s9 C E F G H au K A a) (.exit 4) Nw:=
 h.aQ [] []
theorem akB(h:af (QW L a b A q C r E s F t G H au (ap Tryz.f175 0) K [.l [] [7,5,3] [3] (ap Tryz.f175 1) (vR A C E F G H au K 0) (.exit 2) (N5 A C E F G H au K),.l [] [8,3] [3] (ap Tryz.f175 2) (s9 A C E F G H au K 0) .ret (Hu u)])):
 av 175 [.agg (bg L a b),.agg (bb A C E F G H au K)] [ak u]:=
 h.of
theorem akC(h:af (QW L a b A q C r E s F t G H au (ap Tryz.f175 0) K [.l [] [7,5,3] [3] (ap Tryz.f175 1) (vR A C E F G H au K 0) (.exit 2) (N5 A C E F G H au K),.l [] [8,3] [3] (ap Tryz.f175 2) (s9 A C E F G H au K 0) (.exit 4) Nw])):
 av 175 [.agg (bg L a b),.agg (bb A C E F G H au K)] [ak true]:=
 h.of
def abd(A:ah)(a b:Int)(C:ah)(q:Bool)(l:List O):List O:=.r 189 [.agg (bg A a b),aE 5 C] [ak q]::l
theorem akD(h:af (abd A a b C q [.n q true])):
 av 187 [.agg (bg A a b),.agg (bb C F G H au K L E)] [ak false]:=
 h.of
def abe(A:ah)(a b:Int)(C:ah)(q:Bool)(E:ah)(r:Bool)(l:List O):List O:=abd A a b C q (.n q false::.r 189 [.agg (bg A a b),aE 5 E] [ak r]::l)
theorem akE(h:af (abe A a b C q E r [.n r true])):
 av 187 [.agg (bg A a b),.agg (bb C E G H au K L F)] [ak false]:=
 h.of
def abf(A:ah)(a b:Int)(C:ah)(q:Bool)(E:ah)(r:Bool)(F:ah)(s:Bool)(l:List O):List O:=abe A a b C q E r (.n r false::.r 189 [.agg (bg A a b),aE 5 F] [ak s]::l)
theorem akF(h:af (abf A a b C q E r F s [.n s true])):
 av 187 [.agg (bg A a b),.agg (bb C E F H au K L G)] [ak false]:=
 h.of
def QX(A:ah)(a b:Int)(C:ah)(q:Bool)(E:ah)(r:Bool)(F:ah)(s:Bool)(G:ah)(t:Bool)(l:List O):List O:=abf A a b C q E r F s (.n s false::.r 280 [aE 4 G] [ak t]::l)
theorem akG(h:af (QX A a b C q E r F s G t [.n t true])):
 av 187 [.agg (bg A a b),.agg (bb C E F G au K L H)] [ak false]:=
 h.of
def pG(A:ah)(a:Int)(C E F G H au K L:ah):aD:=ba 121 [(3,a1 3),(37,c6 5 A),(38,aY (A.length:Int)),(39,aY a)] [(3,[.J .free 5 C,.J .free 5 E,.J .free 5 F,.J .free 4 G,.J .free 1 H,.J .free 1 au,.J .free 1 K,.J .free 2 L])]
def CV(q:Bool):aD:=ba 121 [(4,.aR (.one (.bR q)))] []
theorem aj7(h:af [.i A a (bz b c d e f),.b (b != 0) true]):
 aT (ap Tryz.f187 0) (pG A a C E F G H au K L) .ret (CV false):=
 h.aQ [4] []
theorem aj8(h:af (wU A a b d c e f [.b (c != 0) true])):
 aT (ap Tryz.f187 0) (pG A a C E F G H au K L) .ret (CV false):=
 h.aQ [4] []
theorem aj9(h:af (wU C a b c d f g [.b (d != 0) false,.b (decide (a>0)) true,.v (a-1),.p (0<=a-1),.p (a-1<(A.length:Int)),.e A ((a-1).toNat) (bz i e j k l),.b (decide (e>c)) true])):
 aT (ap Tryz.f187 0) (pG C a E F A G H au K L) .ret (CV false):=
 h.aQ [4] []
theorem aka(h:af (wU C a b c d f g [.b (d != 0) false,.b (decide (a>0)) true,.v (a-1),.p (0<=a-1),.p (a-1<(A.length:Int)),.e A ((a-1).toNat) (bz i e j k l),.b (decide (e>c)) false,.u a])):
 aT (ap Tryz.f187 0) (pG C a E F A G H au K L) .normal (pG C (a+1) E F A G H au K L):=
 h.aQ [39,38,37,3] [3]
theorem akb(h:af (wU A a b d c e f [.b (c != 0) false,.b (decide (a>0)) false,.u a])):
 aT (ap Tryz.f187 0) (pG A a C E F G H au K L) .normal (pG A (a+1) C E F G H au K L):=
 h.aQ [39,38,37,3] [3]
def L2(A C E F G H au K:ah):aD:=ba 121 [(3,a1 3)] [(3,[.J .free 5 A,.J .free 5 C,.J .free 5 E,.J .free 4 F,.J .free 1 G,.J .free 1 H,.J .free 1 au,.J .free 2 K])]
theorem akc(h:af [.f L a false]):
 aT (ap Tryz.f187 0) (pG L a A C E F G H au K) (.exit 0) (L2 A C E F G H au K):=
 h.aQ [3] [3]
theorem akd(h:af (QX A a b E q F r C s G t [.n t false,.l [] [39,38,37,3] [3] (ap Tryz.f187 0) (pG C 0 E F C G au K L H) .ret (CV u)])):
 av 187 [.agg (bg A a b),.agg (bb E F C G au K L H)] [ak u]:=
 h.of
def QY(A:ah)(a b:Int)(C:ah)(q:Bool)(E:ah)(r:Bool)(F:ah)(s:Bool)(G:ah)(t:Bool)(W:Code)(H au K L M N P Q R S bn V:ah)(l:List O):List O:=QX A a b C q E r F s G t (.n t false::.l [] [39,38,37,3] [3] W (pG F 0 C E F G H au K L) (.exit 0) (L2 M N P Q R S bn V)::l)
theorem ake(h:af (QY A a b E q F r C s G t (ap Tryz.f187 0) K L M H N Q R S au bn V X [.b ((au.length:Int) != 4) true])):
 av 187 [.agg (bg A a b),.agg (bb E F C G K L M H)] [ak false]:=
 h.of
theorem akf(h:af (QY A a b E q F r C s G t (ap Tryz.f187 0) L M N H Q R S bn au K V X [.b ((au.length:Int) != 4) false,.b ((K.length:Int) != 4) true])):
 av 187 [.agg (bg A a b),.agg (bb E F C G L M N H)] [ak false]:=
 h.of
def I7(A:ah)(a b:Int)(C:ah)(q:Bool)(E:ah)(r:Bool)(F:ah)(s:Bool)(G:ah)(t:Bool)(W:Code)(H au K L M N P Q R S bn V:ah)(l:List O):List O:=QY A a b C q E r F s G t W H au K L M N P Q R S bn V (.b ((R.length:Int) != 4) false::.b ((S.length:Int) != 4) false::l)
theorem akg(h:af (I7 A a b E q F r C s G t (ap Tryz.f187 0) M N Q H R S bn V au K L X [.b ((L.length:Int) != 4) true])):
 av 187 [.agg (bg A a b),.agg (bb E F C G M N Q H)] [ak false]:=
 h.of
def vS(C E F G A H au K:ah)(a:Int):aD:=ba 121 [(3,a1 3),(89,c6 1 A),(90,aY (A.length:Int)),(91,aY a)] [(3,[.J .free 5 C,.J .free 5 E,.J .free 5 F,.J .free 4 G,.J .free 1 A,.J .free 1 H,.J .free 1 au,.J .free 2 K])]
def Nx(q:Bool):aD:=ba 121 [(4,.aR (.one (.bR q)))] []
theorem alJ(h:af [.i A a [I b],.r 190 [ag b,ag (-1000000),ag 1000000] [ak q],.n q true]):
 aT (ap Tryz.f187 1) (vS C E F G A H au K a) .ret (Nx false):=
 h.aQ [4] []
theorem alK(h:af [.i A a [I b],.r 190 [ag b,ag (-1000000),ag 1000000] [ak q],.n q false,.u a]):
 aT (ap Tryz.f187 1) (vS C E F G A H au K a) .normal (vS C E F G A H au K (a+1)):=
 h.aQ [91,90,89,3] [3]
def Ny(A C E F G H au K:ah):aD:=ba 121 [(3,a1 3)] [(3,[.J .free 5 A,.J .free 5 C,.J .free 5 E,.J .free 4 F,.J .free 1 G,.J .free 1 H,.J .free 1 au,.J .free 2 K])]
theorem alL(h:af [.f A a false]):
 aT (ap Tryz.f187 1) (vS C E F G A H au K a) (.exit 2) (Ny C E F G A H au K):=
 h.aQ [3] [3]
theorem alM(h:af (I7 A a b H q au r C s K t (ap Tryz.f187 0) bn V X L M N Q R E F G S [.b ((G.length:Int) != 4) false,.l [] [91,90,89,3] [3] (ap Tryz.f187 1) (vS M N Q R E F G S 0) .ret (Nx u)])):
 av 187 [.agg (bg A a b),.agg (bb H au C K bn V X L)] [ak u]:=
 h.of
def s'(A:ah)(a:Int)(C E F G H au K L:ah):aD:=ba 121 [(3,a1 3),(100,c6 2 A),(101,aY (A.length:Int)),(102,aY a)] [(3,[.J .free 5 C,.J .free 5 E,.J .free 5 F,.J .free 4 G,.J .free 1 H,.J .free 1 au,.J .free 1 K,.J .free 2 L])]
def Hw(q:Bool):aD:=ba 121 [(4,.aR (.one (.bR q)))] []
theorem alN(h:af [.i A a [I b,B r],.r 190 [ag b,ag 0,ag 3] [ak q],.n q true]):
 aT (ap Tryz.f187 2) (s' A a C E F G H au K L) .ret (Hw false):=
 h.aQ [4] []
def abb(A:ah)(a b:Int)(q r:Bool)(C:ah)(s:Bool)(l:List O):List O:=.i A a [I b,B q]::.r 190 [ag b,ag 0,ag 3] [ak r]::.n r false::.p ((0:Int)<=none.getD 0)::.p (none.getD 0<=(some a).getD (C.length:Int))::.p ((some a).getD (C.length:Int)<=(C.length:Int))::.r 281 [.one (.J 2 (List.take (((some a).getD (C.length:Int)).toNat-0) (List.drop 0 C))),ag b] [ak s]::l
theorem alO(h:af (abb C a b s q A r [.b r true])):
 aT (ap Tryz.f187 2) (s' C a E F G H au K L A) .ret (Hw false):=
 h.aQ [4] []
theorem alP(h:af (abb C a b s q A r [.b r false,.u a])):
 aT (ap Tryz.f187 2) (s' C a E F G H au K L A) .normal (s' C (a+1) E F G H au K L A):=
 h.aQ [102,101,100,3] [3]
def Nz:aD:=ba 121 [] []
theorem alQ(h:af [.f A a false]):
 aT (ap Tryz.f187 2) (s' A a C E F G H au K L) (.exit 4) Nz:=
 h.aQ [] []
theorem alR(h:af (I7 G a b N q Q r M s R t (ap Tryz.f187 0) bn V X S H au K L A C E F [.b ((E.length:Int) != 4) false,.l [] [91,90,89,3] [3] (ap Tryz.f187 1) (vS H au K L A C E F 0) (.exit 2) (Ny H au K L A C E F),.l [] [102,101,100,3] [3] (ap Tryz.f187 2) (s' F 0 H au K L A C E F) .ret (Hw u)])):
 av 187 [.agg (bg G a b),.agg (bb N Q M R bn V X S)] [ak u]:=
 h.of
theorem alS(h:af (I7 G a b N q Q r M s R t (ap Tryz.f187 0) bn V X S H au K L A C E F [.b ((E.length:Int) != 4) false,.l [] [91,90,89,3] [3] (ap Tryz.f187 1) (vS H au K L A C E F 0) (.exit 2) (Ny H au K L A C E F),.l [] [102,101,100,3] [3] (ap Tryz.f187 2) (s' F 0 H au K L A C E F) (.exit 4) Nz])):
 av 187 [.agg (bg G a b),.agg (bb N Q M R bn V X S)] [ak true]:=
 h.of
def xE(a:Int)(A:ah)(b c d e f:Int):aD:=ba 70 [(1,a1 1),(3,aY f)] [(1,[az a,.J .free 5 A,az b,az c,az d,az e])]
def NA(q:Bool):aD:=ba 70 [(2,.aR (.one (.bR q)))] []
theorem alT(h:af (EJ A c d e f a b q [.n q true])):
 aT (ap Tryz.f191 0) (xE g A i j k l c) .ret (NA false):=
 h.aQ [2] []
theorem alU(h:af (EJ A a j k l c d q [.n q false,.u a])):
 aT (ap Tryz.f191 0) (xE b A e f g i a) .normal (xE b A e f g i (a+1)):=
 h.aQ [3,1] [1]
def Tk(a:Int)(A:ah)(b c d e:Int):aD:=ba 70 [(1,a1 1)] [(1,[az a,.J .free 5 A,az b,az c,az d,az e])]
theorem alV(h:af [.f A f false]):
 aT (ap Tryz.f191 0) (xE a A b c d e f) (.exit 0) (Tk a A b c d e):=
 h.aQ [1] [1]
theorem alW(h:af [.l [] [3,1] [1] (ap Tryz.f191 0) (xE a A b c d e 0) .ret (NA q)]):
 av 191 [.agg (b' a A b c d e)] [ak q]:=
 h.of
def abg(W:Code)(a:Int)(A:ah)(b c d e:Int)(q:Bool)(l:List O):List O:=.l [] [3,1] [1] W (xE a A b c d e 0) (.exit 0) (Tk a A b c d e)::.r 168 [ag a,ag 1,ag 4] [ak q]::l
def abh(W:Code)(a:Int)(A:ah)(b c d e:Int)(q r:Bool)(l:List O):List O:=abg W a A b c d e q (.b q true::.r 168 [ag b,ag 0,ag a] [ak r]::l)
def abi(W:Code)(a:Int)(A:ah)(b c d e:Int)(q r s:Bool)(l:List O):List O:=abh W a A b c d e q r (.b r true::.r 168 [ag c,ag 0,ag a] [ak s]::l)
def abj(W:Code)(a:Int)(A:ah)(b c d e:Int)(q r s:Bool)(l:List O):List O:=abi W a A b c d e q r s (.b s true::.v (b+c)::.v (b+c+(A.length:Int))::l)
def QZ(W:Code)(a:Int)(A:ah)(b c d e:Int)(q r s t:Bool)(l:List O):List O:=abj W a A b c d e q r s (.b (b+c+(A.length:Int)==a) true::.r 168 [ag d,ag 0,ag 1000000000] [ak t]::l)
theorem alX(h:af (QZ (ap Tryz.f191 0) a A b c d e q r s t [.b t true,.v (d-(A.length:Int)),.b (e==d-(A.length:Int)) true])):
 av 191 [.agg (b' a A b c d e)] [ak (decide (e>=0))]:=
 h.of
theorem alY(h:af (QZ (ap Tryz.f191 0) a A b c d e q r s t [.b t true,.v (d-(A.length:Int)),.b (e==d-(A.length:Int)) false])):
 av 191 [.agg (b' a A b c d e)] [ak false]:=
 h.of
theorem alZ(h:af (QZ (ap Tryz.f191 0) a A b c d e q r s t [.b t false])):
 av 191 [.agg (b' a A b c d e)] [ak false]:=
 h.of
theorem al0(h:af (abj (ap Tryz.f191 0) a A b c d e q r s [.b (b+c+(A.length:Int)==a) false])):
 av 191 [.agg (b' a A b c d e)] [ak false]:=
 h.of
theorem al1(h:af (abi (ap Tryz.f191 0) a A b c d e q r s [.b s false])):
 av 191 [.agg (b' a A b c d e)] [ak false]:=
 h.of
theorem al2(h:af (abh (ap Tryz.f191 0) a A b c d e q r [.b r false])):
 av 191 [.agg (b' a A b c d e)] [ak false]:=
 h.of
theorem al3(h:af (abg (ap Tryz.f191 0) a A b c d e q [.b q false])):
 av 191 [.agg (b' a A b c d e)] [ak false]:=
 h.of
def abk(a:Int)(q:Bool)(l:List O):List O:=.r 190 [ag a,ag 1,ag 4] [ak q]::l
theorem al4(h:af (abk a q [.n q true])):
 av 188 [.agg (b' a A b c d e)] [ak false]:=
 h.of
def abl(a:Int)(q:Bool)(b:Int)(r:Bool)(l:List O):List O:=abk a q (.n q false::.r 190 [ag b,ag 0,ag a] [ak r]::l)
theorem al5(h:af (abl a q b r [.n r true])):
 av 188 [.agg (b' a A b c d e)] [ak false]:=
 h.of
def abm(a:Int)(q:Bool)(b:Int)(r:Bool)(c:Int)(s:Bool)(l:List O):List O:=abl a q b r (.n r false::.r 190 [ag c,ag 0,ag a] [ak s]::l)
theorem al6(h:af (abm a q b r c s [.n s true])):
 av 188 [.agg (b' a A b c d e)] [ak false]:=
 h.of
def abn(a:Int)(q:Bool)(b:Int)(r:Bool)(c:Int)(s:Bool)(A:ah)(l:List O):List O:=abm a q b r c s (.n s false::.v (b+c)::.v (b+c+(A.length:Int))::l)
theorem al7(h:af (abn a q b r c s A [.b (b+c+(A.length:Int) != a) true])):
 av 188 [.agg (b' a A b c d e)] [ak false]:=
 h.of
def I8(a:Int)(q:Bool)(b:Int)(r:Bool)(c:Int)(s:Bool)(A:ah)(d:Int)(t:Bool)(l:List O):List O:=abn a q b r c s A (.b (b+c+(A.length:Int) != a) false::.r 190 [ag d,ag 0,ag 1000000000] [ak t]::l)
theorem al8(h:af (I8 a q b r c s A d t [.n t true])):
 av 188 [.agg (b' a A b c d e)] [ak false]:=
 h.of
theorem alh(h:af (I8 a q b r c s A d t [.n t false,.b (decide (e<0)) true])):
 av 188 [.agg (b' a A b c d e)] [ak false]:=
 h.of
theorem ali(h:af (I8 a q b r c s A d t [.n t false,.b (decide (e<0)) false,.v (d-e),.b (d-e != (A.length:Int)) true])):
 av 188 [.agg (b' a A b c d e)] [ak false]:=
 h.of
theorem alj(h:af (I8 a r b s c t A d u [.n u false,.b (decide (e<0)) false,.v (d-e),.b (d-e != (A.length:Int)) false,.r 282 [aE 5 A] [ak q]])):
 av 188 [.agg (b' a A b c d e)] [ak q]:=
 h.of
def x2(A:ah)(a:Int):aD:=ba 15 [(5,c6 5 A),(6,aY (A.length:Int)),(7,aY a)] []
def NB(q:Bool):aD:=ba 15 [(2,.aR (.one (.bR q)))] []
theorem alk(h:af (EK A a b c d e f q [.n q true])):
 aT (ap Tryz.f282 0) (x2 A a) .ret (NB false):=
 h.aQ [2] []
theorem alm(h:af (EK A a b c d e f q [.n q false,.u a])):
 aT (ap Tryz.f282 0) (x2 A a) .normal (x2 A (a+1)):=
 h.aQ [7,6,5] []
def Wa:aD:=ba 15 [] []
theorem aln(h:af [.f A a false]):
 aT (ap Tryz.f282 0) (x2 A a) (.exit 0) Wa:=
 h.aQ [] []
theorem alo(h:af [.l [] [7,6,5] [] (ap Tryz.f282 0) (x2 A 0) .ret (NB q)]):
 av 282 [aE 5 A] [ak q]:=
 h.of
theorem alp(h:af [.l [] [7,6,5] [] (ap Tryz.f282 0) (x2 A 0) (.exit 0) Wa]):
 av 282 [aE 5 A] [ak true]:=
 h.of
def Q0(A:ah)(a b:Int)(q:Bool)(l:List O):List O:=.r 121 [.agg (bg A a b)] [ak q]::l
theorem alq(h:af (Q0 A a b q [.n q true])):
 av 56 [.agg (cl A a b C E F G)] [ak false]:=
 h.of
theorem alr(h:af (Q0 A a b q [.n q false,.b ((C.length:Int) != a) true])):
 av 56 [.agg (cl A a b C E F G)] [ak false]:=
 h.of
def abo(A:ah)(a b:Int)(q:Bool)(C:ah)(l:List O):List O:=Q0 A a b q (.n q false::.b ((C.length:Int) != a) false::.v (a*a)::l)
theorem als(h:af (abo A a b q C [.b ((E.length:Int) != a*a) true])):
 av 56 [.agg (cl A a b C E F G)] [ak false]:=
 h.of
def abp(A:ah)(a b:Int)(q:Bool)(C E:ah)(l:List O):List O:=abo A a b q C (.b ((E.length:Int) != a*a) false::l)
theorem alu(h:af (abp A a b q C E [.b ((F.length:Int) != 4) true])):
 av 56 [.agg (cl A a b C E F G)] [ak false]:=
 h.of
def uA(A:ah)(a b:Int)(C E F G:ah)(c:Int):aD:=ba 170 [(1,a1 1),(3,aY a),(4,aY c)] [(1,[.J .free 4 A,az a,az b,.J .free 8 C,.J .free 6 E,.J .free 5 F,.J .free 3 G])]
def GY(q:Bool):aD:=ba 170 [(2,.aR (.one (.bR q)))] []
theorem alv(h:af [.b (decide (b<a)) true,.x L b (bb M C E F G H au K),.r 175 [.agg (bg A a c),.agg (bb M C E F G H au K)] [ak q],.n q true]):
 aT (ap Tryz.f56 0) (uA A a c L N Q R b) .ret (GY false):=
 h.aQ [2] []
theorem alw(h:af [.b (decide (a<b)) true,.x C a (bb R E F G H au K L),.r 175 [.agg (bg A b c),.agg (bb R E F G H au K L)] [ak q],.n q false,.u a]):
 aT (ap Tryz.f56 0) (uA A b c C M N Q a) .normal (uA A b c C M N Q (a+1)):=
 h.aQ [4,3,1] [1]
def L3(A:ah)(a b:Int)(C E F G:ah):aD:=ba 170 [(1,a1 1),(3,aY a)] [(1,[.J .free 4 A,az a,az b,.J .free 8 C,.J .free 6 E,.J .free 5 F,.J .free 3 G])]
theorem alx(h:af [.b (decide (c<a)) false]):
 aT (ap Tryz.f56 0) (uA A a b C E F G c) (.exit 0) (L3 A a b C E F G):=
 h.aQ [1,3] [1]
def Jg(A:ah)(a b:Int)(q:Bool)(C E F:ah)(l:List O):List O:=abp A a b q C E (.b ((F.length:Int) != 4) false::l)
theorem aly(h:af (Jg A a b q C E F [.l [] [4,3,1] [1] (ap Tryz.f56 0) (uA A a b C E F G 0) .ret (GY r)])):
 av 56 [.agg (cl A a b C E F G)] [ak r]:=
 h.of
def nB(a b:Int)(A:ah)(c d:Int)(C E F G:ah):aD:=ba 170 [(1,a1 1),(3,aY a),(5,aY b)] [(1,[.J .free 4 A,az c,az d,.J .free 8 C,.J .free 6 E,.J .free 5 F,.J .free 3 G])]
def Af(q:Bool):aD:=ba 170 [(2,.aR (.one (.bR q)))] []
def Q8(A:ah)(a b:Int)(C:ah)(c d e f:Int)(q:Bool)(l:List O):List O:=.i A a (b' b C c d e f)::.r 191 [.agg (b' b C c d e f)] [ak q]::l
theorem alz(h:af (Q8 A f a C b c d e q [.n q true])):
 aT (ap Tryz.f56 1) (nB g f H i j E A F G) .ret (Af false):=
 h.aQ [2] []
theorem alA(h:af (Q8 A g a C c d e f q [.n q false,.b (a != b) true])):
 aT (ap Tryz.f56 1) (nB i g H j b E A F G) .ret (Af false):=
 h.aQ [2] []
def Ji(A:ah)(a b:Int)(C:ah)(c d e f:Int)(q:Bool)(g:Int)(E:ah)(i:Int)(r:Bool)(l:List O):List O:=Q8 A a b C c d e f q (.n q false::.b (b != g) false::.r 192 [.agg (bg E i g),aE 5 C] [ak r]::l)
theorem alB(h:af (Ji C i b A d e f g q a E c r [.n r true])):
 aT (ap Tryz.f56 1) (nB j i E c a F C G H) .ret (Af false):=
 h.aQ [2] []
theorem alC(h:af (Ji C b d A f g i j q c E e r [.n r false,.p (a≠0),.v (b.tdiv a),.p (a≠0),.b (b.tdiv a==b.tmod a) true,.b (decide ((A.length:Int)>0)) true])):
 aT (ap Tryz.f56 1) (nB a b E e c F C G H) .ret (Af false):=
 h.aQ [2] []
theorem alD(h:af (Ji C b e A f g i j q c E d r [.n r false,.p (a≠0),.v (b.tdiv a),.p (a≠0),.b (b.tdiv a==b.tmod a) true,.b (decide ((A.length:Int)>0)) false,.u b])):
 aT (ap Tryz.f56 1) (nB a b E d c F C G H) .normal (nB a (b+1) E d c F C G H):=
 h.aQ [5,1,3] [1]
theorem alE(h:af (Ji A b e C f g i j q c E d r [.n r false,.p (a≠0),.v (b.tdiv a),.p (a≠0),.b (b.tdiv a==b.tmod a) false,.u b])):
 aT (ap Tryz.f56 1) (nB a b E d c F A G H) .normal (nB a (b+1) E d c F A G H):=
 h.aQ [5,1,3] [1]
def CW(a:Int)(A:ah)(b c:Int)(C E F G:ah):aD:=ba 170 [(1,a1 1),(3,aY a)] [(1,[.J .free 4 A,az b,az c,.J .free 8 C,.J .free 6 E,.J .free 5 F,.J .free 3 G])]
theorem alF(h:af [.f A d false]):
 aT (ap Tryz.f56 1) (nB a d G b c C A E F) (.exit 2) (CW a G b c C A E F):=
 h.aQ [1,3] [1]
def Jh(A:ah)(a b:Int)(q:Bool)(C E F:ah)(W:Code)(G:ah)(l:List O):List O:=Jg A a b q C E F (.l [] [4,3,1] [1] W (uA A a b C E F G 0) (.exit 0) (L3 A a b C E F G)::l)
theorem alG(h:af (Jh A a b q C E F (ap Tryz.f56 0) G [.l [] [5,1,3] [1] (ap Tryz.f56 1) (nB a 0 A a b C E F G) .ret (Af r)])):
 av 56 [.agg (cl A a b C E F G)] [ak r]:=
 h.of
def n5(a:Int)(A:ah)(b c:Int)(C E F G:ah)(d:Int):aD:=ba 170 [(1,a1 1),(3,aY a),(7,aY d)] [(1,[.J .free 4 A,az b,az c,.J .free 8 C,.J .free 6 E,.J .free 5 F,.J .free 3 G])]
def x3(q:Bool):aD:=ba 170 [(2,.aR (.one (.bR q)))] []
def aby(A:ah)(a:Int)(q:Bool)(b c:Int)(r s:Bool)(d:Int)(l:List O):List O:=.i A a [B q,I b,I c,B r,B s]::.v (d-1)::l
def abz(A:ah)(a:Int)(q:Bool)(b c:Int)(r s:Bool)(d:Int)(t:Bool)(l:List O):List O:=aby A a q b c r s d (.r 168 [ag b,ag 0,ag (d-1)] [ak t]::l)
theorem alH(h:af (abz A b r c e s t a q [.n q true])):
 aT (ap Tryz.f56 2) (n5 a G f d C E A F b) .ret (x3 false):=
 h.aQ [2] []
def EL(A:ah)(a:Int)(q:Bool)(b c:Int)(r s:Bool)(d:Int)(t u:Bool)(e f:Int)(v w:Bool)(l:List O):List O:=abz A a q b c r s d t (.n t false::.x A a [B u,I e,I f,B v,B w]::l)
theorem alI(h:af (EL A a s c f t u b q r g i v w [.n r true,.x A a [B x,I d,I j,B y,B z],.b (d != 0) true])):
 aT (ap Tryz.f56 2) (n5 b G k e C E A F a) .ret (x3 false):=
 h.aQ [2] []
theorem ak7(h:af (EL A a t c g u v b q r i j w x [.n r true,.x A a [B y,I d,I k,B z,B gJ],.b (d != 0) false,.x A a [B hh,I l,I e,B hj,B t0],.r 168 [ag e,ag (-1000000),ag 1000000] [ak s],.n s true])):
 aT (ap Tryz.f56 2) (n5 b G m f C E A F a) .ret (x3 false):=
 h.aQ [2] []
theorem ak8(h:af (EL A a t d i u v b q r j k w x [.n r true,.x A a [B y,I e,I l,B z,B gJ],.b (e != 0) false,.x A a [B hh,I m,I f,B hj,B t0],.r 168 [ag f,ag (-1000000),ag 1000000] [ak s],.n s false,.u a])):
 aT (ap Tryz.f56 2) (n5 b G g c C E A F a) .normal (n5 b G g c C E A F (a+1)):=
 h.aQ [7,1,3] [1]
theorem ak9(h:af (EL A a t c f u v b q r g i w x [.n r false,.x A a [B y,I j,I d,B z,B gJ],.r 168 [ag d,ag (-1000000),ag 1000000] [ak s],.n s true])):
 aT (ap Tryz.f56 2) (n5 b G k e C E A F a) .ret (x3 false):=
 h.aQ [2] []
theorem ala(h:af (EL A a t d g u v b q r i j w x [.n r false,.x A a [B y,I k,I e,B z,B gJ],.r 168 [ag e,ag (-1000000),ag 1000000] [ak s],.n s false,.u a])):
 aT (ap Tryz.f56 2) (n5 b G f c C E A F a) .normal (n5 b G f c C E A F (a+1)):=
 h.aQ [7,1,3] [1]
def GZ(a:Int)(A:ah)(b c:Int)(C E F G:ah):aD:=ba 170 [(1,a1 1),(3,aY a)] [(1,[.J .free 4 A,az b,az c,.J .free 8 C,.J .free 6 E,.J .free 5 F,.J .free 3 G])]
theorem alb(h:af [.f A c false]):
 aT (ap Tryz.f56 2) (n5 a G d b C E A F c) (.exit 4) (GZ a G d b C E A F):=
 h.aQ [1,3] [1]
theorem alc(h:af (Jh A a b r C E F (ap Tryz.f56 0) G [.l [] [5,1,3] [1] (ap Tryz.f56 1) (nB a 0 A a b C E F G) (.exit 2) (CW a M d c H au K L),.l [] [7,1,3] [1] (ap Tryz.f56 2) (n5 a M d c H au K L 0) .ret (x3 q)])):
 av 56 [.agg (cl A a b C E F G)] [ak q]:=
 h.of
def ta(a:Int)(A:ah)(b c:Int)(C E F G:ah)(d:Int):aD:=ba 170 [(1,a1 1),(3,aY a),(8,aY d)] [(1,[.J .free 4 A,az b,az c,.J .free 8 C,.J .free 6 E,.J .free 5 F,.J .free 3 G])]
def DN(q:Bool):aD:=ba 170 [(2,.aR (.one (.bR q)))] []
theorem ald(h:af [.i A b [I c,I e,B r],.v (a-1),.r 168 [ag c,ag 0,ag (a-1)] [ak q],.n q true]):
 aT (ap Tryz.f56 3) (ta a G f d C E F A b) .ret (DN false):=
 h.aQ [2] []
theorem ale(h:af [.i A b [I c,I f,B s],.v (a-1),.r 168 [ag c,ag 0,ag (a-1)] [ak q],.n q false,.x A b [I g,I d,B t],.r 168 [ag d,ag 0,ag 3] [ak r],.n r true]):
 aT (ap Tryz.f56 3) (ta a G i e C E F A b) .ret (DN false):=
 h.aQ [2] []
theorem alf(h:af [.i A a [I d,I g,B s],.v (b-1),.r 168 [ag d,ag 0,ag (b-1)] [ak q],.n q false,.x A a [I i,I e,B t],.r 168 [ag e,ag 0,ag 3] [ak r],.n r false,.u a]):
 aT (ap Tryz.f56 3) (ta b G f c C E F A a) .normal (ta b G f c C E F A (a+1)):=
 h.aQ [8,1,3] [1]
def NC:aD:=ba 170 [] []
theorem alg(h:af [.f A a false]):
 aT (ap Tryz.f56 3) (ta b G d c C E F A a) (.exit 6) NC:=
 h.aQ [] []
theorem amJ(h:af (Jh A a b r C E F (ap Tryz.f56 0) L [.l [] [5,1,3] [1] (ap Tryz.f56 1) (nB a 0 A a b C E F L) (.exit 2) (CW a M d c G H au K),.l [] [7,1,3] [1] (ap Tryz.f56 2) (n5 a M d c G H au K 0) (.exit 4) (GZ a M d c G H au K),.l [] [8,1,3] [1] (ap Tryz.f56 3) (ta a M d c G H au K 0) .ret (DN q)])):
 av 56 [.agg (cl A a b C E F L)] [ak q]:=
 h.of
theorem amK(h:af (Jh A a b q C E F (ap Tryz.f56 0) L [.l [] [5,1,3] [1] (ap Tryz.f56 1) (nB a 0 A a b C E F L) (.exit 2) (CW a M d c G H au K),.l [] [7,1,3] [1] (ap Tryz.f56 2) (n5 a M d c G H au K 0) (.exit 4) (GZ a M d c G H au K),.l [] [8,1,3] [1] (ap Tryz.f56 3) (ta a M d c G H au K 0) (.exit 6) NC])):
 av 56 [.agg (cl A a b C E F L)] [ak true]:=
 h.of
def Ri(A:ah)(a b:Int)(q:Bool)(l:List O):List O:=.r 179 [.agg (bg A a b)] [ak q]::l
theorem amL(h:af (Ri A a b q [.n q true])):
 av 55 [.agg (cl A a b C E F G)] [ak false]:=
 h.of
theorem amM(h:af (Ri A a b q [.n q false,.b ((C.length:Int) != a) true])):
 av 55 [.agg (cl A a b C E F G)] [ak false]:=
 h.of
def abG(A:ah)(a b:Int)(q:Bool)(C:ah)(l:List O):List O:=Ri A a b q (.n q false::.b ((C.length:Int) != a) false::.v (a*a)::l)
theorem amN(h:af (abG A a b q C [.b ((E.length:Int) != a*a) true])):
 av 55 [.agg (cl A a b C E F G)] [ak false]:=
 h.of
def abH(A:ah)(a b:Int)(q:Bool)(C E:ah)(l:List O):List O:=abG A a b q C (.b ((E.length:Int) != a*a) false::l)
theorem amO(h:af (abH A a b q C E [.b ((F.length:Int) != 4) true])):
 av 55 [.agg (cl A a b C E F G)] [ak false]:=
 h.of
def uB(a:Int)(A:ah)(b:Int)(C:ah)(c d:Int)(E F G H:ah):aD:=ba 147 [(1,a1 1),(3,aY a),(42,c6 8 A),(43,aY (A.length:Int)),(44,aY b)] [(1,[.J .free 4 C,az c,az d,.J .free 8 E,.J .free 6 F,.J .free 5 G,.J .free 3 H])]
def G0(q:Bool):aD:=ba 147 [(2,.aR (.one (.bR q)))] []
theorem amP(h:af [.i L c (bb A C E F G H au K),.r 187 [.agg (bg M a b),.agg (bb A C E F G H au K)] [ak q],.n q true]):
 aT (ap Tryz.f55 0) (uB d L c M a b N Q R S) .ret (G0 false):=
 h.aQ [2] []
theorem amQ(h:af [.i A a (bb au K L M N Q R S),.r 187 [.agg (bg C b c),.agg (bb au K L M N Q R S)] [ak q],.n q false,.u a]):
 aT (ap Tryz.f55 0) (uB d A a C b c E F G H) .normal (uB d A (a+1) C b c E F G H):=
 h.aQ [44,43,42,1,3] [1]
def L4(a:Int)(A:ah)(b c:Int)(C E F G:ah):aD:=ba 147 [(1,a1 1),(3,aY a)] [(1,[.J .free 4 A,az b,az c,.J .free 8 C,.J .free 6 E,.J .free 5 F,.J .free 3 G])]
theorem amR(h:af [.f G d false]):
 aT (ap Tryz.f55 0) (uB a G d H b c A C E F) (.exit 0) (L4 a H b c A C E F):=
 h.aQ [1,3] [1]
def abI(A:ah)(a b:Int)(q:Bool)(C E F:ah)(l:List O):List O:=abH A a b q C E (.b ((F.length:Int) != 4) false::l)
theorem amS(h:af (abI C a b q A E F [.l [] [44,43,42,1,3] [1] (ap Tryz.f55 0) (uB a A 0 C a b A E F G) .ret (G0 r)])):
 av 55 [.agg (cl C a b A E F G)] [ak r]:=
 h.of
def nC(a:Int)(A:ah)(b:Int)(C:ah)(c d:Int)(E F G H:ah):aD:=ba 147 [(1,a1 1),(3,aY a),(55,c6 6 A),(56,aY (A.length:Int)),(57,aY b)] [(1,[.J .free 4 C,az c,az d,.J .free 8 E,.J .free 6 F,.J .free 5 G,.J .free 3 H])]
def Ag(q:Bool):aD:=ba 147 [(2,.aR (.one (.bR q)))] []
def Q9(A:ah)(a b:Int)(C:ah)(c d e f:Int)(q:Bool)(l:List O):List O:=.i A a (b' b C c d e f)::.r 188 [.agg (b' b C c d e f)] [ak q]::l
theorem amT(h:af (Q9 A a b C c d e f q [.n q true])):
 aT (ap Tryz.f55 1) (nC g A a E i j F G H au) .ret (Ag false):=
 h.aQ [2] []
theorem amU(h:af (Q9 A b a C d e f g q [.n q false,.b (a != c) true])):
 aT (ap Tryz.f55 1) (nC i A b E j c F G H au) .ret (Ag false):=
 h.aQ [2] []
def Jj(A:ah)(a b:Int)(C:ah)(c d e f:Int)(q:Bool)(g:Int)(E:ah)(i:Int)(r:Bool)(l:List O):List O:=Q9 A a b C c d e f q (.n q false::.b (b != g) false::.r 189 [.agg (bg E i g),aE 5 C] [ak r]::l)
theorem amV(h:af (Jj C c b A e f g i q a E d r [.n r true])):
 aT (ap Tryz.f55 1) (nC j C c E d a F G H au) .ret (Ag false):=
 h.aQ [2] []
theorem amW(h:af (Jj C b d A f g i j q c E e r [.n r false,.p (a≠0),.v (b.tdiv a),.p (a≠0),.b (b.tdiv a==b.tmod a) true,.b (decide ((A.length:Int)>0)) true])):
 aT (ap Tryz.f55 1) (nC a C b E e c F G H au) .ret (Ag false):=
 h.aQ [2] []
theorem amX(h:af (Jj C b e A f g i j q c E d r [.n r false,.p (a≠0),.v (b.tdiv a),.p (a≠0),.b (b.tdiv a==b.tmod a) true,.b (decide ((A.length:Int)>0)) false,.u b])):
 aT (ap Tryz.f55 1) (nC a C b E d c F G H au) .normal (nC a C (b+1) E d c F G H au):=
 h.aQ [57,56,55,1,3] [1]
theorem amY(h:af (Jj A b e E f g i j q c C d r [.n r false,.p (a≠0),.v (b.tdiv a),.p (a≠0),.b (b.tdiv a==b.tmod a) false,.u b])):
 aT (ap Tryz.f55 1) (nC a A b C d c F G H au) .normal (nC a A (b+1) C d c F G H au):=
 h.aQ [57,56,55,1,3] [1]
def DO(a:Int)(A:ah)(b c:Int)(C E F G:ah):aD:=ba 147 [(1,a1 1),(3,aY a)] [(1,[.J .free 4 A,az b,az c,.J .free 8 C,.J .free 6 E,.J .free 5 F,.J .free 3 G])]
theorem amZ(h:af [.f A b false]):
 aT (ap Tryz.f55 1) (nC a A b C c d E F G H) (.exit 2) (DO a C c d E F G H):=
 h.aQ [1,3] [1]
def Jm(A:ah)(a b:Int)(q:Bool)(C E F:ah)(W:Code)(G H:ah)(c d:Int)(au K L M:ah)(l:List O):List O:=abI A a b q C E F (.l [] [44,43,42,1,3] [1] W (uB a C 0 A a b C E F G) (.exit 0) (L4 a H c d au K L M)::l)
theorem am0(h:af (Jm C a b r A F G (ap Tryz.f55 0) L M d c H E au K [.l [] [57,56,55,1,3] [1] (ap Tryz.f55 1) (nC a E 0 M d c H E au K) .ret (Ag q)])):
 av 55 [.agg (cl C a b A F G L)] [ak q]:=
 h.of
def n9(a:Int)(A:ah)(b:Int)(C:ah)(c d:Int)(E F G H:ah):aD:=ba 147 [(1,a1 1),(3,aY a),(98,c6 5 A),(99,aY (A.length:Int)),(100,aY b)] [(1,[.J .free 4 C,az c,az d,.J .free 8 E,.J .free 6 F,.J .free 5 G,.J .free 3 H])]
def x4(q:Bool):aD:=ba 147 [(2,.aR (.one (.bR q)))] []
def Bq(A:ah)(a:Int)(q:Bool)(b c:Int)(r s:Bool)(d:Int)(t:Bool)(l:List O):List O:=aby A a q b c r s d (.r 190 [ag b,ag 0,ag (d-1)] [ak t]::l)
theorem am1(h:af (Bq A b r c f s t a q [.n q true])):
 aT (ap Tryz.f55 2) (n9 a A b C d e E F G H) .ret (x4 false):=
 h.aQ [2] []
theorem am2(h:af (Bq A c q b f s t a r [.n r false,.n q true,.b (b != 0) true])):
 aT (ap Tryz.f55 2) (n9 a A c C d e E F G H) .ret (x4 false):=
 h.aQ [2] []
theorem am3(h:af (Bq A c q b d t u a r [.n r false,.n q true,.b (b != 0) false,.r 190 [ag d,ag (-1000000),ag 1000000] [ak s],.n s true])):
 aT (ap Tryz.f55 2) (n9 a A c C e f E F G H) .ret (x4 false):=
 h.aQ [2] []
theorem am4(h:af (Bq A b q c f t u a r [.n r false,.n q true,.b (c != 0) false,.r 190 [ag f,ag (-1000000),ag 1000000] [ak s],.n s false,.u b])):
 aT (ap Tryz.f55 2) (n9 a A b C d e E F G H) .normal (n9 a A (b+1) C d e E F G H):=
 h.aQ [100,99,98,3,1] [1]
theorem am5(h:af (Bq A b q c d t u a r [.n r false,.n q false,.r 190 [ag d,ag (-1000000),ag 1000000] [ak s],.n s true])):
 aT (ap Tryz.f55 2) (n9 a A b C e f E F G H) .ret (x4 false):=
 h.aQ [2] []
theorem am6(h:af (Bq A b q e f t u a r [.n r false,.n q false,.r 190 [ag f,ag (-1000000),ag 1000000] [ak s],.n s false,.u b])):
 aT (ap Tryz.f55 2) (n9 a A b C c d E F G H) .normal (n9 a A (b+1) C c d E F G H):=
 h.aQ [100,99,98,3,1] [1]
def G1(a:Int)(A:ah)(b c:Int)(C E F G:ah):aD:=ba 147 [(1,a1 1),(3,aY a)] [(1,[.J .free 4 A,az b,az c,.J .free 8 C,.J .free 6 E,.J .free 5 F,.J .free 3 G])]
theorem am7(h:af [.f A b false]):
 aT (ap Tryz.f55 2) (n9 a A b C c d E F G H) (.exit 4) (G1 a C c d E F G H):=
 h.aQ [1,3] [1]
theorem am8(h:af (Jm C a b r A G H (ap Tryz.f55 0) S bn f c au E K L [.l [] [57,56,55,1,3] [1] (ap Tryz.f55 1) (nC a E 0 bn f c au E K L) (.exit 2) (DO a M d e N Q F R),.l [] [100,99,98,3,1] [1] (ap Tryz.f55 2) (n9 a F 0 M d e N Q F R) .ret (x4 q)])):
 av 55 [.agg (cl C a b A G H S)] [ak q]:=
 h.of
def tc(a:Int)(A:ah)(b:Int):aD:=ba 147 [(3,aY a),(128,c6 3 A),(129,aY (A.length:Int)),(130,aY b)] []
def DP(q:Bool):aD:=ba 147 [(2,.aR (.one (.bR q)))] []
theorem amj(h:af [.i A b [I c,I d,B r],.v (a-1),.r 190 [ag c,ag 0,ag (a-1)] [ak q],.n q true]):
 aT (ap Tryz.f55 3) (tc a A b) .ret (DP false):=
 h.aQ [2] []
theorem amk(h:af [.i A b [I c,I d,B s],.v (a-1),.r 190 [ag c,ag 0,ag (a-1)] [ak q],.n q false,.r 190 [ag d,ag 0,ag 3] [ak r],.n r true]):
 aT (ap Tryz.f55 3) (tc a A b) .ret (DP false):=
 h.aQ [2] []
theorem aml(h:af [.i A b [I c,I d,B s],.v (a-1),.r 190 [ag c,ag 0,ag (a-1)] [ak q],.n q false,.r 190 [ag d,ag 0,ag 3] [ak r],.n r false,.u b]):
 aT (ap Tryz.f55 3) (tc a A b) .normal (tc a A (b+1)):=
 h.aQ [130,129,128,3] []
def ND:aD:=ba 147 [] []
theorem amm(h:af [.f A a false]):
 aT (ap Tryz.f55 3) (tc b A a) (.exit 6) ND:=
 h.aQ [] []
theorem amn(h:af (Jm C a b r A G H (ap Tryz.f55 0) bn V f c au E K L [.l [] [57,56,55,1,3] [1] (ap Tryz.f55 1) (nC a E 0 V f c au E K L) (.exit 2) (DO a M d e N Q F R),.l [] [100,99,98,3,1] [1] (ap Tryz.f55 2) (n9 a F 0 M d e N Q F R) (.exit 4) (G1 a X g i Y Z dK S),.l [] [130,129,128,3] [] (ap Tryz.f55 3) (tc a S 0) .ret (DP q)])):
 av 55 [.agg (cl C a b A G H bn)] [ak q]:=
 h.of
theorem amo(h:af (Jm C a b q A G H (ap Tryz.f55 0) bn V f c au E K L [.l [] [57,56,55,1,3] [1] (ap Tryz.f55 1) (nC a E 0 V f c au E K L) (.exit 2) (DO a M d e N Q F R),.l [] [100,99,98,3,1] [1] (ap Tryz.f55 2) (n9 a F 0 M d e N Q F R) (.exit 4) (G1 a X g i Y Z dK S),.l [] [130,129,128,3] [] (ap Tryz.f55 3) (tc a S 0) (.exit 6) ND])):
 av 55 [.agg (cl C a b A G H bn)] [ak true]:=
 h.of
