import Derived.Test.YtdchjefneblpgaaGreatGE
set_option linter.unusedVariables false
set_option linter.unusedSimpArgs false
namespace Go.Proofs.YtdchjefneblpgaaGreat
open Go.Sx Go.RowKit Go.Proofs.Tryz
variable {a b c d e f g i j k l m n o p a0 b6 c5 d0 bE f0 : Int} {A C E F G H ah K L M N Q R S ba V X Y Z dC fh fu : ag} {q r s : Bool}
theorem axw(h:ad [.g ([]:ag) A 40,.h A]):
 aq 233 [aO 5 A] [aO 5 ([]++A)]:=
 h.of
def ta(a b:Int)(l:List O):List O:=.b (decide (a<b)) true::l
theorem axx(h:ad (ta b a [])):
 aq 130 [ae c,ae a,ae b] [ae a]:=
 h.of
def pN(a b:Int)(l:List O):List O:=.b (decide (a<b)) false::l
theorem axy(h:ad (pN c a [.b (decide (b<a)) true])):
 aq 130 [ae b,ae a,ae c] [ae a]:=
 h.of
theorem axz(h:ad (pN a c [.b (decide (b<c)) false,.b (decide (b>a)) true])):
 aq 130 [ae b,ae c,ae a] [ae a]:=
 h.of
theorem axA(h:ad (pN c b [.b (decide (a<b)) false,.b (decide (a>c)) false])):
 aq 130 [ae a,ae b,ae c] [ae a]:=
 h.of
theorem axB(h:ad (ta b a [])):
 aq 167 [ae c,ae a,ae b] [ae a]:=
 h.of
theorem axC(h:ad (pN c a [.b (decide (b<a)) true])):
 aq 167 [ae b,ae a,ae c] [ae a]:=
 h.of
theorem axD(h:ad (pN b c [.b (decide (a<c)) false])):
 aq 167 [ae a,ae c,ae b] [ae (if b<a then b else a)]:=
 h.of
def Db(a b:Int)(A:ag):aC:=bb 62 [(3,aI.aG (bl.one (aB 9 3 A))),(4,aU a),(5,aU b)] []
theorem axE(h:ad (ta a b [.g A [[I 1,I a,I 0],[I 3,I a,I 0],[I 2,I a,I 0],[I 7,I a,I 0]] 24,.h [[I 1,I a,I 0],[I 3,I a,I 0],[I 2,I a,I 0],[I 7,I a,I 0]],.u a])):
 aV (ap f129 0) (Db b a A) .normal (Db b (a+1) (A++[[I 1,I a,I 0],[I 3,I a,I 0],[I 2,I a,I 0],[I 7,I a,I 0]])):=
 h.aS [5,4,3] []
def US(a:Int)(A:ag):aC:=bb 62 [(3,aI.aG (bl.one (aB 9 3 A))),(4,aU a)] []
theorem axF(h:ad (pN b a [])):
 aV (ap f129 0) (Db a b A) (.exit 0) (US a A):=
 h.aS [4,3] []
def Dc(a b:Int)(A:ag):aC:=bb 62 [(3,aI.aG (bl.one (aB 9 3 A))),(4,aU a),(6,aU b)] []
def xb(a b c:Int)(A:ag):aC:=bb 62 [(3,aI.aG (bl.one (aB 9 3 A))),(4,aU a),(6,aU b),(7,aU c)] []
def ZO(a b c:Int)(A:ag)(l:List O):List O:=ta a b (.b (c != a) true::.g A [[I 4,I c,I a],[I 5,I c,I a]] 24::.h [[I 4,I c,I a],[I 5,I c,I a]]::.u a::l)
theorem axG(h:ad (ZO a c b A [])):
 aV (ap f129 2) (xb c b a A) .normal (xb c b (a+1) (A++[[I 4,I b,I a],[I 5,I b,I a]])):=
 h.aS [7,4,6,3] []
theorem axH(h:ad (ta a b [.b (c != a) false,.u a])):
 aV (ap f129 2) (xb b c a A) .normal (xb b c (a+1) A):=
 h.aS [7,4,6,3] []
def UT(a b:Int)(A:ag):aC:=bb 62 [(3,aI.aG (bl.one (aB 9 3 A))),(4,aU a),(6,aU b)] []
theorem axI(h:ad (pN b a [])):
 aV (ap f129 2) (xb a c b A) (.exit 4) (UT a c A):=
 h.aS [6,4,3] []
theorem axJ(h:ad (ta a b [.l [] [7,4,6,3] [] (ap f129 2) (xb b a 0 A) (.exit 4) (UT b a C),.u a])):
 aV (ap f129 1) (Dc b a A) .normal (Dc b (a+1) C):=
 h.aS [6,4,3] []
def UU(A:ag):aC:=bb 62 [(3,aI.aG (bl.one (aB 9 3 A)))] []
theorem axK(h:ad (pN b a [])):
 aV (ap f129 1) (Dc a b A) (.exit 2) (UU A):=
 h.aS [3] []
def Dd(a:Int)(A:ag):aC:=bb 62 [(3,aI.aG (bl.one (aB 9 3 A))),(8,aU a)] []
theorem axL(h:ad [.b (decide (a<=3)) true,.g A [[I 6,I a,I 0]] 24,.h [[I 6,I a,I 0]],.u a]):
 aV (ap f129 3) (Dd a A) .normal (Dd (a+1) (A++[[I 6,I a,I 0]])):=
 h.aS [8,3] []
def UW(A:ag):aC:=bb 62 [(3,aI.aG (bl.one (aB 9 3 A)))] []
theorem axM(h:ad [.b (decide (a<=3)) false]):
 aV (ap f129 3) (Dd a A) (.exit 6) (UW A):=
 h.aS [3] []
theorem axN(h:ad [.r 130 [ae b,ae 0,ae 4] [ae a],.l [] [5,4,3] [] (ap f129 0) (Db a 0 []) (.exit 0) (US a C),.l [] [6,4,3] [] (ap f129 1) (Dc a 0 C) (.exit 2) (UU E),.l [] [8,3] [] (ap f129 3) (Dd 0 E) (.exit 6) (UW A)]):
 aq 129 [.agg (cl F b c G H ah K)] [aO 3 A]:=
 h.of
def De(a b:Int)(A:ag):aC:=bb 65 [(3,aU a),(4,aI.aG (bl.one (aB 31 3 A))),(5,aU b)] []
def ug(a b c:Int)(A:ag):aC:=bb 65 [(3,aU a),(4,aI.aG (bl.one (aB 31 3 A))),(5,aU b),(20,.aG (.one (.J (.own 20) 1 [[I 1],[I 3],[I 2],[I 7]]))),(21,aU (↑[[I 1],[I 3],[I 2],[I 7]].length:Int)),(22,aU c)] []
theorem Hb(h:ad [.i [[I 1],[I 3],[I 2],[I 7]] b [I c],.g A [[I c,I a,I 0]] 24,.h [[I c,I a,I 0]],.u b]):
 aV (ap f201 1) (ug d a b A) .normal (ug d a (b+1) (A++[[I c,I a,I 0]])):=
 h.aS [22,21,20,4,5,3] []
def UX(a b:Int)(A:ag):aC:=bb 65 [(3,aU a),(4,aI.aG (bl.one (aB 31 3 A))),(5,aU b)] []
theorem axO(h:ad [.f [[I 1],[I 3],[I 2],[I 7]] a false]):
 aV (ap f201 1) (ug b c a A) (.exit 2) (UX b c A):=
 h.aS [5,3,4] []
theorem axP(h:ad (ta a b [.l [] [22,21,20,4,5,3] [] (ap f201 1) (ug b a 0 C) (.exit 2) (UX b a A),.u a])):
 aV (ap f201 0) (De b a C) .normal (De b (a+1) A):=
 h.aS [5,3,4] []
def UY(a:Int)(A:ag):aC:=bb 65 [(3,aU a),(4,aI.aG (bl.one (aB 31 3 A)))] []
theorem axQ(h:ad (pN b a [])):
 aV (ap f201 0) (De a b A) (.exit 0) (UY a A):=
 h.aS [3,4] []
def Df(a b:Int)(A:ag):aC:=bb 65 [(3,aU a),(4,aI.aG (bl.one (aB 31 3 A))),(8,aU b)] []
def xc(a b c:Int)(A:ag):aC:=bb 65 [(3,aU a),(4,aI.aG (bl.one (aB 31 3 A))),(8,aU b),(9,aU c)] []
theorem axR(h:ad (ZO a c b A [])):
 aV (ap f201 3) (xc c b a A) .normal (xc c b (a+1) (A++[[I 4,I b,I a],[I 5,I b,I a]])):=
 h.aS [9,3,8,4] []
theorem axi(h:ad (ta a b [.b (c != a) false,.u a])):
 aV (ap f201 3) (xc b c a A) .normal (xc b c (a+1) A):=
 h.aS [9,3,8,4] []
def UZ(a b:Int)(A:ag):aC:=bb 65 [(3,aU a),(4,aI.aG (bl.one (aB 31 3 A))),(8,aU b)] []
theorem axj(h:ad (pN b a [])):
 aV (ap f201 3) (xc a c b A) (.exit 6) (UZ a c A):=
 h.aS [8,3,4] []
theorem axk(h:ad (ta a b [.l [] [9,3,8,4] [] (ap f201 3) (xc b a 0 A) (.exit 6) (UZ b a C),.u a])):
 aV (ap f201 2) (Df b a A) .normal (Df b (a+1) C):=
 h.aS [8,3,4] []
def U0(A:ag):aC:=bb 65 [(4,aI.aG (bl.one (aB 31 3 A)))] []
theorem axl(h:ad (pN b a [])):
 aV (ap f201 2) (Df a b A) (.exit 4) (U0 A):=
 h.aS [4] []
def Dg(a:Int)(A:ag):aC:=bb 65 [(4,aI.aG (bl.one (aB 31 3 A))),(10,aU a)] []
theorem axm(h:ad [.b (decide (a<=3)) true,.g A [[I 6,I a,I 0]] 24,.h [[I 6,I a,I 0]],.u a]):
 aV (ap f201 4) (Dg a A) .normal (Dg (a+1) (A++[[I 6,I a,I 0]])):=
 h.aS [10,4] []
def U1(A:ag):aC:=bb 65 [(4,aI.aG (bl.one (aB 31 3 A)))] []
theorem axn(h:ad [.b (decide (a<=3)) false]):
 aV (ap f201 4) (Dg a A) (.exit 8) (U1 A):=
 h.aS [4] []
theorem axo(h:ad [.r 167 [ae b,ae 0,ae 4] [ae a],.l [(4,31,3)] [5,3,4] [] (ap f201 0) (De a 0 []) (.exit 0) (UY a C),.l [] [8,3,4] [] (ap f201 2) (Df a 0 C) (.exit 4) (U0 E),.l [] [10,4] [] (ap f201 4) (Dg 0 E) (.exit 8) (U1 A)]):
 aq 201 [.agg (cl F b c G H ah K)] [aO 3 A]:=
 h.of
theorem axp(h:ad [.b (decide (a>=b)) true]):
 aq 190 [ae a,ae b,ae c] [aj (decide (a<=c))]:=
 h.of
theorem axq(h:ad [.b (decide (a>=b)) false]):
 aq 190 [ae a,ae b,ae c] [aj false]:=
 h.of
theorem axr(h:ad [.b (decide (a>=b)) true]):
 aq 168 [ae a,ae b,ae c] [aj (decide (a<=c))]:=
 h.of
theorem ayS(h:ad [.b (decide (a>=b)) false]):
 aq 168 [ae a,ae b,ae c] [aj false]:=
 h.of
theorem ayT(h:ad (ta a b [])):
 aq 322 [ae a,ae b] [ae (-1)]:=
 h.of
theorem ayU(h:ad (pN a b [.b (decide (a>b)) true])):
 aq 322 [ae a,ae b] [ae 1]:=
 h.of
theorem ayV(h:ad (pN a b [.b (decide (a>b)) false])):
 aq 322 [ae a,ae b] [ae 0]:=
 h.of
theorem ayW(a:Int)(h:ad []):
 aq 388 [ae a] [aj (a != a)]:=
 h.of
def PG(a:Int)(q:Bool)(b:Int)(r:Bool)(l:List O):List O:=.r 388 [ae a] [aj q]::.r 388 [ae b] [aj r]::.b q false::.b r false::l
theorem ayX(h:ad (PG a q b r [.b (decide (a<b)) true])):
 aq 382 [ae a,ae b] [ae (-1)]:=
 h.of
theorem ayY(h:ad (PG a q b r [.b (decide (a<b)) false,.b (decide (a>b)) true])):
 aq 382 [ae a,ae b] [ae 1]:=
 h.of
theorem ayZ(h:ad (PG a q b r [.b (decide (a<b)) false,.b (decide (a>b)) false])):
 aq 382 [ae a,ae b] [ae 0]:=
 h.of
def xd(A C:ag)(a:Int):aC:=bb 36 [(0,dB 1 A),(1,dB 1 C),(9,dB 1 A),(10,aU (A.length:Int)),(11,aU a)] []
def My(a:Int):aC:=bb 36 [(4,aU a)] []
theorem ay0(h:ad [.i C a [I c],.b (decide (a>=(A.length:Int))) false,.x A a [I d],.r 382 [ae c,ae d] [ae b],.b (b != 0) true]):
 aV (ap f364 0) (xd C A a) .ret (My b):=
 h.aS [4] []
theorem ay1(h:ad [.i C a [I b],.b (decide (a>=(A.length:Int))) false,.x A a [I c],.r 382 [ae b,ae c] [ae d],.b (d != 0) false,.u a]):
 aV (ap f364 0) (xd C A a) .normal (xd C A (a+1)):=
 h.aS [11,10,9,1,0] []
def U2(A C:ag):aC:=bb 36 [(0,dB 1 A),(1,dB 1 C)] []
theorem ay2(h:ad [.f A a false]):
 aV (ap f364 0) (xd A C a) (.exit 0) (U2 A C):=
 h.aS [0,1] []
theorem ay3(h:ad [.l [] [11,10,9,1,0] [] (ap f364 0) (xd A C 0) .ret (My a)]):
 aq 364 [aO 1 A,aO 1 C] [ae a]:=
 h.of
theorem ay4(h:ad [.l [] [11,10,9,1,0] [] (ap f364 0) (xd A C 0) (.exit 0) (U2 A C),.f C (A.length:Int) false]):
 aq 364 [aO 1 A,aO 1 C] [ae 0]:=
 h.of
theorem ay5(h:ad [.r 364 [aO 1 A,aO 1 C] [ae a]]):
 aq 335 [aO 1 A,aO 1 C] [ae a]:=
 h.of
theorem ay6(h:ad [.r 322 [ae b,ae c] [ae a],.b (a != 0) true]):
 aq 314 [.agg [I b,I d],.agg [I c,I e]] [ae a]:=
 h.of
theorem ay7(h:ad [.r 322 [ae a,ae c] [ae e],.b (e != 0) false,.r 322 [ae b,ae d] [ae f]]):
 aq 314 [.agg [I a,I b],.agg [I c,I d]] [ae f]:=
 h.of
def xe(a b c d e:Int):aC:=bb 41 [(5,.aG (.one (.J (.own 27) 1 [[I a],[I b],[I c],[I d]]))),(6,aU e)] []
def Mz(a:Int):aC:=bb 41 [(4,aU a)] []
def H6(a b c d e f:Int)(l:List O):List O:=.b (decide (a<4)) true::.x [[I b],[I c],[I d],[I e]] a [I f]::l
theorem ay8(h:ad (H6 a b c d e f [.b (f != 0) true,.x [[I b],[I c],[I d],[I e]] a [I g]])):
 aV (ap f264 0) (xe b c d e a) .ret (Mz g):=
 h.aS [4] []
theorem ay9(h:ad (H6 a b c d e f [.b (f != 0) false,.u a])):
 aV (ap f264 0) (xe b c d e a) .normal (xe b c d e (a+1)):=
 h.aS [6,5] []
def U3:aC:=bb 41 [] []
theorem aza(h:ad [.b (decide (a<4)) false]):
 aV (ap f264 0) (xe b c d e a) (.exit 0) U3:=
 h.aS [] []
theorem azb(h:ad [.r 314 [.agg [I b,I i],.agg [I m,I n]] [ae c],.r 322 [ae a,ae l] [ae d],.r 322 [ae j,ae o] [ae e],.r 322 [ae k,ae p] [ae f],.l [] [6,5] [] (ap f264 0) (xe c d e f 0) .ret (Mz g)]):
 aq 264 [.agg (bh a b i j k),.agg (bh l m n o p)] [ae g]:=
 h.of
theorem azc(h:ad [.r 314 [.agg [I b,I g],.agg [I l,I m]] [ae c],.r 322 [ae a,ae k] [ae d],.r 322 [ae i,ae n] [ae e],.r 322 [ae j,ae o] [ae f],.l [] [6,5] [] (ap f264 0) (xe c d e f 0) (.exit 0) U3]):
 aq 264 [.agg (bh a b g i j),.agg (bh k l m n o)] [ae 0]:=
 h.of
def qv(a:Int)(A:ag):aC:=bb 48 [(3,aI.aG (bl.one (aB 7 5 A))),(4,aU a)] []
def vL(a b:Int)(A:ag)(c d e f g:Int):aC:=bb 48 [(3,aI.aG (bl.one (aB 7 5 A))),(4,aU a),(5,aR 5),(6,aU b)] [(5,[au c,au d,au e,au f,au g])]
def ZC(a:Int)(A:ag)(b c d e f g i j k m n:Int)(l:List O):List O:=.b (decide (a>0)) true::.v (a-1)::.p (0<=a-1)::.p (a-1<(A.length:Int))::.e A ((a-1).toNat) (bh b c d e f)::.r 264 [.agg (bh g i j k m),.agg (bh b c d e f)] [ae n]::l
theorem azd{g a:Int}{A:ag}{b c d e f i j k l m n o p a0 b6 c5:Int}{d26 d27 d28 d29 d30:D}(h:ad (ZC a A i j k l m b c d e f n [.b (decide (n<0)) true,.v (a-1),.p (0<=a-1),.p (a-1<(A.length:Int)),.e A ((a-1).toNat) (bh o p a0 b6 c5),.x A a [d26,d27,d28,d29,d30],.v (a-1)])):
 aV (ap f165 1) (vL g a A b c d e f) .normal (vL g (a-1) (A.set a.toNat (bh o p a0 b6 c5)) b c d e f):=
 h.aS [6,5,3,4] [5]
def Hc(a:Int)(A:ag)(b c d e f g:Int):aC:=bb 48 [(3,aI.aG (bl.one (aB 7 5 A))),(4,aU a),(5,aR 5),(6,aU b)] [(5,[au c,au d,au e,au f,au g])]
theorem aze(h:ad (ZC a A i j k l m b c d e f n [.b (decide (n<0)) false])):
 aV (ap f165 1) (vL g a A b c d e f) (.exit 2) (Hc g A a b c d e f):=
 h.aS [3,6,5,4] [5]
theorem azf(h:ad [.b (decide (a>0)) false]):
 aV (ap f165 1) (vL b a A c d e f g) (.exit 2) (Hc b A a c d e f g):=
 h.aS [3,6,5,4] [5]
theorem azg{a:Int}{A:ag}{i j k l m:Int}{C:ag}{b c d e f g:Int}{d15 d16 d17 d18 d19:D}(h:ad [.i A a (bh i j k l m),.l [] [6,5,3,4] [5] (ap f165 1) (vL a a A i j k l m) (.exit 2) (Hc a C b c d e f g),.x C b [d15,d16,d17,d18,d19],.u a]):
 aV (ap f165 0) (qv a A) .normal (qv (a+1) (C.set b.toNat (bh c d e f g))):=
 h.aS [4,3] []
def Hd(A:ag):aC:=bb 48 [(3,aI.aG (bl.one (aB 7 5 A)))] []
theorem U4(h:ad [.f A a false]):
 aV (ap f165 0) (qv a A) (.exit 0) (Hd A):=
 h.aS [3] []
theorem azh(h:ad [.g ([]:ag) A 40,.h A,.l [] [4,3] [] (ap f165 0) (qv 1 ([]++A)) (.exit 0) (Hd C)]):
 aq 165 [aO 5 A] [aO 5 C]:=
 h.of
def Aj(A:ag)(a b:Int)(C E F G:ag)(c:Int)(H:ag):aC:=bb 46 [(1,aR 1),(3,aI.aG (bl.one (aB 6 5 H))),(4,aU c)] [(1,[.J .free 4 A,au a,au b,.J .free 8 C,.J .free 6 E,.J .free 5 F,.J .free 3 G])]
theorem ays(h:ad [.i E a (aW A L M N Q R S ba),.g F A 40,.h A,.x E a (aW V C X Y Z dC fh fu),.g (F++A) C 40,.h C,.u a]):
 aV (ap f38 0) (Aj G b c E H ah K a F) .normal (Aj G b c E H ah K (a+1) (F++A++C)):=
 h.aS [4,1,3] [1]
def U5(A:ag)(a b:Int)(C E F G H:ag):aC:=bb 46 [(1,aR 1),(3,aI.aG (bl.one (aB 6 5 H)))] [(1,[.J .free 4 A,au a,au b,.J .free 8 C,.J .free 6 E,.J .free 5 F,.J .free 3 G])]
theorem ayt(h:ad [.f A c false]):
 aV (ap f38 0) (Aj C a b A E F G c H) (.exit 0) (U5 C a b A E F G H):=
 h.aS [1,3] [1]
def Ak(A:ag)(a b:Int)(C E F G:ag)(c:Int)(H:ag):aC:=bb 46 [(1,aR 1),(3,aI.aG (bl.one (aB 6 5 H))),(5,aU c)] [(1,[.J .free 4 A,au a,au b,.J .free 8 C,.J .free 6 E,.J .free 5 F,.J .free 3 G])]
theorem ayu(h:ad [.i C a (bY d A e f g i),.g E A 40,.h A,.u a]):
 aV (ap f38 1) (Ak F b c G C H ah a E) .normal (Ak F b c G C H ah (a+1) (E++A)):=
 h.aS [5,1,3] [1]
def U6(A:ag):aC:=bb 46 [(3,aI.aG (bl.one (aB 6 5 A)))] []
theorem ayv(h:ad [.f A a false]):
 aV (ap f38 1) (Ak E b c F A G H a C) (.exit 2) (U6 C):=
 h.aS [3] []
theorem ayw(h:ad [.l [] [4,1,3] [1] (ap f38 0) (Aj A a b C E F G 0 []) (.exit 0) (U5 A a b C E F G H),.l [] [5,1,3] [1] (ap f38 1) (Ak A a b C E F G 0 H) (.exit 2) (U6 ah),.r 165 [aO 5 ah] [aO 5 K]]):
 aq 38 [.agg (cl A a b C E F G)] [aO 5 K]:=
 h.of
def xf(A:ag)(a b:Int)(C:ag):aC:=bb 30 [(0,dB 5 A),(1,aU a),(5,aI.aG (bl.one (aB 7 5 C))),(6,aU b)] []
theorem ayx(h:ad [.i A a (bh j i k l m),.b (i==g) true,.x A a (bh f b c d e),.g C [(bh f b c d e)] 40,.h [(bh f b c d e)],.u a]):
 aV (ap f116 0) (xf A g a C) .normal (xf A g (a+1) (C++[(bh f b c d e)])):=
 h.aS [6,0,1,5] []
theorem ayy(h:ad [.i A a (bh d c e f g),.b (c==b) false,.u a]):
 aV (ap f116 0) (xf A b a C) .normal (xf A b (a+1) C):=
 h.aS [6,0,1,5] []
def U7(A:ag):aC:=bb 30 [(5,aI.aG (bl.one (aB 7 5 A)))] []
theorem ayz(h:ad [.f A a false]):
 aV (ap f116 0) (xf A b a C) (.exit 0) (U7 C):=
 h.aS [5] []
theorem ayA(h:ad [.l [] [6,0,1,5] [] (ap f116 0) (xf A a 0 []) (.exit 0) (U7 C)]):
 aq 116 [aO 5 A,ae a] [aO 5 C]:=
 h.of
def xg(A:ag)(a b:Int)(C:ag):aC:=bb 25 [(1,aU a),(5,aI.aG (bl.one (aB 22 5 C))),(8,dB 5 A),(9,aU (A.length:Int)),(10,aU b)] []
theorem ayB(h:ad [.i A b (bh c a d e f),.b (a==g) true,.g C [(bh c a d e f)] 40,.h [(bh c a d e f)],.u b]):
 aV (ap f182 0) (xg A g b C) .normal (xg A g (b+1) (C++[(bh c a d e f)])):=
 h.aS [10,9,8,1,5] []
theorem ayC(h:ad [.i A a (bh d c e f g),.b (c==b) false,.u a]):
 aV (ap f182 0) (xg A b a C) .normal (xg A b (a+1) C):=
 h.aS [10,9,8,1,5] []
def U8(A:ag):aC:=bb 25 [(5,aI.aG (bl.one (aB 22 5 A)))] []
theorem ayD(h:ad [.f A a false]):
 aV (ap f182 0) (xg A b a C) (.exit 0) (U8 C):=
 h.aS [5] []
theorem ayE(h:ad [.l [(5,22,5)] [10,9,8,1,5] [] (ap f182 0) (xg A a 0 []) (.exit 0) (U8 C)]):
 aq 182 [aO 5 A,ae a] [aO 5 C]:=
 h.of
def xh(A C E F G H ah K:ag)(a b:Int):aC:=bb 21 [(1,aU a),(2,aR 2),(5,aU b)] [(2,[.J .free 5 A,.J .free 5 C,.J .free 5 E,.J .free 4 F,.J .free 1 G,.J .free 1 H,.J .free 1 ah,.J .free 2 K])]
def MA(q:Bool):aC:=bb 21 [(4,.aG (.one (.bg q)))] []
theorem ayF(h:ad [.i A c [I a,B q],.b (a==b) true]):
 aV (ap f213 0) (xh C E F G H ah K A b c) .ret (MA true):=
 h.aS [4] []
theorem ayG(h:ad [.i A a [I c,B q],.b (c==b) false,.u a]):
 aV (ap f213 0) (xh C E F G H ah K A b a) .normal (xh C E F G H ah K A b (a+1)):=
 h.aS [5,2,1] [2]
def U9:aC:=bb 21 [] []
theorem ayH(h:ad [.f A a false]):
 aV (ap f213 0) (xh C E F G H ah K A b a) (.exit 0) U9:=
 h.aS [] []
theorem ayI(h:ad [.l [] [5,2,1] [2] (ap f213 0) (xh A C E F G H ah K a 0) .ret (MA q)]):
 aq 213 [.agg (aW A C E F G H ah K),ae a] [aj q]:=
 h.of
theorem ayJ(h:ad [.l [] [5,2,1] [2] (ap f213 0) (xh A C E F G H ah K a 0) (.exit 0) U9]):
 aq 213 [.agg (aW A C E F G H ah K),ae a] [aj false]:=
 h.of
theorem ayK(h:ad [.r 328 [aO 2 A,.one (.cl 329 [D.ptr [I a]])] [aj q]]):
 aq 281 [aO 2 A,ae a] [aj q]:=
 h.of
theorem ayL(h:ad []):
 aq 329 [.agg [I a,B q],.one (.ptr [I b])] [aj (a==b)]:=
 h.of
theorem ayM(h:ad [.r 281 [aO 2 A,ae a] [aj q]]):
 aq 210 [.agg (aW C E F G H ah K A),ae a] [aj q]:=
 h.of
def xi(a b c:Int)(q:Bool)(E F G H ah K A C:ag):aC:=bb 28 [(1,aU a),(2,aR 2),(4,aR 4),(6,aU b)] [(4,[au c,.bg q]),(2,[.J .free 5 E,.J .free 5 F,.J .free 5 G,.J .free 4 H,.J .free 1 ah,.J .free 1 K,.J .free 1 A,.J .free 2 C])]
def U'(q:Bool)(a:Int)(r:Bool):aC:=bb 28 [(4,aR 4),(5,.aG (.one (.bg q)))] [(4,[au a,.bg r])]
theorem ayN(h:ad [.i A a [I b,B s],.b (b==d) true,.x A a [I c,B q]]):
 aV (ap f17 0) (xi d a e r C E F G H ah K A) .ret (U' true c q):=
 h.aS [4,5] [4]
theorem ayO(h:ad [.i A a [I d,B r],.b (d==b) false,.u a]):
 aV (ap f17 0) (xi b a c q C E F G H ah K A) .normal (xi b (a+1) c q C E F G H ah K A):=
 h.aS [6,2,1,4] [4,2]
def Va(a:Int)(q:Bool):aC:=bb 28 [(4,aR 4)] [(4,[au a,.bg q])]
theorem ayP(h:ad [.f A b false]):
 aV (ap f17 0) (xi c b a q C E F G H ah K A) (.exit 0) (Va a q):=
 h.aS [4] [4]
theorem ayQ(h:ad [.l [] [6,2,1,4] [4,2] (ap f17 0) (xi b 0 0 false A C E F G H ah K) .ret (U' r a q)]):
 aq 17 [.agg (aW A C E F G H ah K),ae b] [.agg [I a,B q],aj r]:=
 h.of
theorem ayR(h:ad [.l [] [6,2,1,4] [4,2] (ap f17 0) (xi a 0 0 false A C E F G H ah K) (.exit 0) (Va b q)]):
 aq 17 [.agg (aW A C E F G H ah K),ae a] [.agg [I 0,B false],aj false]:=
 h.of
def xj(A:ag)(a b c:Int)(q:Bool):aC:=bb 22 [(1,aU a),(4,aR 4),(9,dB 2 A),(10,aU (A.length:Int)),(11,aU b)] [(4,[au c,.bg q])]
def Vb(q:Bool)(a:Int)(r:Bool):aC:=bb 22 [(4,aR 4),(5,.aG (.one (.bg q)))] [(4,[au a,.bg r])]
theorem ayi(h:ad [.i A c [I a,B q],.b (a==b) true]):
 aV (ap f139 0) (xj A b c d r) .ret (Vb true a q):=
 h.aS [4,5] [4]
theorem ayj(h:ad [.i A a [I d,B r],.b (d==b) false,.u a]):
 aV (ap f139 0) (xj A b a c q) .normal (xj A b (a+1) c q):=
 h.aS [11,10,9,1,4] [4]
def Vc(a:Int)(q:Bool):aC:=bb 22 [(4,aR 4)] [(4,[au a,.bg q])]
theorem ayk(h:ad [.f A b false]):
 aV (ap f139 0) (xj A c b a q) (.exit 0) (Vc a q):=
 h.aS [4] [4]
theorem ayl(h:ad [.l [] [11,10,9,1,4] [4] (ap f139 0) (xj A b 0 0 false) .ret (Vb r a q)]):
 aq 139 [.agg (aW C E F G H ah K A),ae b] [.agg [I a,B q],aj r]:=
 h.of
theorem aym(h:ad [.l [] [11,10,9,1,4] [4] (ap f139 0) (xj A a 0 0 false) (.exit 0) (Vc b q)]):
 aq 139 [.agg (aW C E F G H ah K A),ae a] [.agg [I 0,B false],aj false]:=
 h.of
def xk(A:ag)(g1:Nat)(bt:List D)(a:Int):aC:=bb 19 [(0,dB 8 A),(1,.aG (.one (.fd (D.cl g1 bt)))),(7,aU (A.length:Int)),(8,aU a)] []
def MB(a:Int):aC:=bb 19 [(4,aU a)] []
theorem ayn{A:ag}{g1:Nat}{bt:List D}{a:Int}{F G H ah K L C E:ag}{q:Bool}(h:ad [.i A a (aW F G H ah K L C E),.p (gM prog g1=true),.r g1 ([.agg (aW F G H ah K L C E)]++List.map .one bt) [aj q],.b q true]):
 aV (ap f289 0) (xk A g1 bt a) .ret (MB a):=
 h.aS [4] []
theorem ayo{A:ag}{g1:Nat}{bt:List D}{a:Int}{F G H ah K L C E:ag}{q:Bool}(h:ad [.i A a (aW F G H ah K L C E),.p (gM prog g1=true),.r g1 ([.agg (aW F G H ah K L C E)]++List.map .one bt) [aj q],.b q false,.u a]):
 aV (ap f289 0) (xk A g1 bt a) .normal (xk A g1 bt (a+1)):=
 h.aS [8,7,1,0] []
def Vd:aC:=bb 19 [] []
theorem ayp{A:ag}{g1:Nat}{bt:List D}{a:Int}(h:ad [.f A a false]):
 aV (ap f289 0) (xk A g1 bt a) (.exit 0) Vd:=
 h.aS [] []
theorem ayq{A:ag}{g1:Nat}{bt:List D}{a:Int}(h:ad [.l [] [8,7,1,0] [] (ap f289 0) (xk A g1 bt 0) .ret (MB a)]):
 aq 289 [aO 8 A,.one (.cl g1 bt)] [ae a]:=
 h.of
theorem ayr{A:ag}{g1:Nat}{bt:List D}(h:ad [.l [] [8,7,1,0] [] (ap f289 0) (xk A g1 bt 0) (.exit 0) Vd]):
 aq 289 [aO 8 A,.one (.cl g1 bt)] [ae (-1)]:=
 h.of
def xX(A:ag)(g1:Nat)(bt:List D)(a:Int):aC:=bb 19 [(0,dB 5 A),(1,.aG (.one (.fd (D.cl g1 bt)))),(7,aU (A.length:Int)),(8,aU a)] []
def MC(a:Int):aC:=bb 19 [(4,aU a)] []
theorem azS{A:ag}{g1:Nat}{bt:List D}{a b c d e f:Int}{q:Bool}(h:ad [.i A a (bh b c d e f),.p (gM prog g1=true),.r g1 ([.agg (bh b c d e f)]++List.map .one bt) [aj q],.b q true]):
 aV (ap f330 0) (xX A g1 bt a) .ret (MC a):=
 h.aS [4] []
theorem azT{A:ag}{g1:Nat}{bt:List D}{a b c d e f:Int}{q:Bool}(h:ad [.i A a (bh b c d e f),.p (gM prog g1=true),.r g1 ([.agg (bh b c d e f)]++List.map .one bt) [aj q],.b q false,.u a]):
 aV (ap f330 0) (xX A g1 bt a) .normal (xX A g1 bt (a+1)):=
 h.aS [8,7,1,0] []
def Ve:aC:=bb 19 [] []
theorem azU{A:ag}{g1:Nat}{bt:List D}{a:Int}(h:ad [.f A a false]):
 aV (ap f330 0) (xX A g1 bt a) (.exit 0) Ve:=
 h.aS [] []
theorem azV{A:ag}{g1:Nat}{bt:List D}{a:Int}(h:ad [.l [] [8,7,1,0] [] (ap f330 0) (xX A g1 bt 0) .ret (MC a)]):
 aq 330 [aO 5 A,.one (.cl g1 bt)] [ae a]:=
 h.of
theorem azW{A:ag}{g1:Nat}{bt:List D}(h:ad [.l [] [8,7,1,0] [] (ap f330 0) (xX A g1 bt 0) (.exit 0) Ve]):
 aq 330 [aO 5 A,.one (.cl g1 bt)] [ae (-1)]:=
 h.of
def xY(A:ag)(g1:Nat)(bt:List D)(a:Int):aC:=bb 19 [(0,dB 2 A),(1,.aG (.one (.fd (D.cl g1 bt)))),(7,aU (A.length:Int)),(8,aU a)] []
def L3(a:Int):aC:=bb 19 [(4,aU a)] []
theorem azX{A:ag}{g1:Nat}{bt:List D}{a b:Int}{q r:Bool}(h:ad [.i A a [I b,B q],.p (gM prog g1=true),.r g1 ([.agg [I b,B q]]++List.map .one bt) [aj r],.b r true]):
 aV (ap f352 0) (xY A g1 bt a) .ret (L3 a):=
 h.aS [4] []
theorem azY{A:ag}{g1:Nat}{bt:List D}{a b:Int}{q r:Bool}(h:ad [.i A a [I b,B q],.p (gM prog g1=true),.r g1 ([.agg [I b,B q]]++List.map .one bt) [aj r],.b r false,.u a]):
 aV (ap f352 0) (xY A g1 bt a) .normal (xY A g1 bt (a+1)):=
 h.aS [8,7,1,0] []
def Up:aC:=bb 19 [] []
theorem azZ{A:ag}{g1:Nat}{bt:List D}{a:Int}(h:ad [.f A a false]):
 aV (ap f352 0) (xY A g1 bt a) (.exit 0) Up:=
 h.aS [] []
theorem az0{A:ag}{g1:Nat}{bt:List D}{a:Int}(h:ad [.l [] [8,7,1,0] [] (ap f352 0) (xY A g1 bt 0) .ret (L3 a)]):
 aq 352 [aO 2 A,.one (.cl g1 bt)] [ae a]:=
 h.of
theorem az1{A:ag}{g1:Nat}{bt:List D}(h:ad [.l [] [8,7,1,0] [] (ap f352 0) (xY A g1 bt 0) (.exit 0) Up]):
 aq 352 [aO 2 A,.one (.cl g1 bt)] [ae (-1)]:=
 h.of
def xZ(A:ag)(g1:Nat)(bt:List D)(a:Int):aC:=bb 19 [(0,dB 3 A),(1,.aG (.one (.fd (D.cl g1 bt)))),(7,aU (A.length:Int)),(8,aU a)] []
def L4(a:Int):aC:=bb 19 [(4,aU a)] []
theorem az2{A:ag}{g1:Nat}{bt:List D}{a b c:Int}{q r:Bool}(h:ad [.i A a [I b,I c,B q],.p (gM prog g1=true),.r g1 ([.agg [I b,I c,B q]]++List.map .one bt) [aj r],.b r true]):
 aV (ap f290 0) (xZ A g1 bt a) .ret (L4 a):=
 h.aS [4] []
theorem az3{A:ag}{g1:Nat}{bt:List D}{a b c:Int}{q r:Bool}(h:ad [.i A a [I b,I c,B q],.p (gM prog g1=true),.r g1 ([.agg [I b,I c,B q]]++List.map .one bt) [aj r],.b r false,.u a]):
 aV (ap f290 0) (xZ A g1 bt a) .normal (xZ A g1 bt (a+1)):=
 h.aS [8,7,1,0] []
def Uq:aC:=bb 19 [] []
theorem az4{A:ag}{g1:Nat}{bt:List D}{a:Int}(h:ad [.f A a false]):
 aV (ap f290 0) (xZ A g1 bt a) (.exit 0) Uq:=
 h.aS [] []
theorem az5{A:ag}{g1:Nat}{bt:List D}{a:Int}(h:ad [.l [] [8,7,1,0] [] (ap f290 0) (xZ A g1 bt 0) .ret (L4 a)]):
 aq 290 [aO 3 A,.one (.cl g1 bt)] [ae a]:=
 h.of
theorem az6{A:ag}{g1:Nat}{bt:List D}(h:ad [.l [] [8,7,1,0] [] (ap f290 0) (xZ A g1 bt 0) (.exit 0) Uq]):
 aq 290 [aO 3 A,.one (.cl g1 bt)] [ae (-1)]:=
 h.of
def x0(A:ag)(g1:Nat)(bt:List D)(a:Int):aC:=bb 19 [(0,dB 4 A),(1,.aG (.one (.fd (D.cl g1 bt)))),(7,aU (A.length:Int)),(8,aU a)] []
def L5(a:Int):aC:=bb 19 [(4,aU a)] []
def j'(A:ag)(a b c d e:Int)(l:List O):List O:=.i A a [I b,I c,I d,I e]::l
theorem az7{A:ag}{g1:Nat}{bt:List D}{a b c d e:Int}{q:Bool}(h:ad (j' A a b c d e [.p (gM prog g1=true),.r g1 ([.agg [I b,I c,I d,I e]]++List.map .one bt) [aj q],.b q true])):
 aV (ap f375 0) (x0 A g1 bt a) .ret (L5 a):=
 h.aS [4] []
theorem az8{A:ag}{g1:Nat}{bt:List D}{a b c d e:Int}{q:Bool}(h:ad (j' A a b c d e [.p (gM prog g1=true),.r g1 ([.agg [I b,I c,I d,I e]]++List.map .one bt) [aj q],.b q false,.u a])):
 aV (ap f375 0) (x0 A g1 bt a) .normal (x0 A g1 bt (a+1)):=
 h.aS [8,7,1,0] []
def Ur:aC:=bb 19 [] []
theorem az9{A:ag}{g1:Nat}{bt:List D}{a:Int}(h:ad [.f A a false]):
 aV (ap f375 0) (x0 A g1 bt a) (.exit 0) Ur:=
 h.aS [] []
theorem aAa{A:ag}{g1:Nat}{bt:List D}{a:Int}(h:ad [.l [] [8,7,1,0] [] (ap f375 0) (x0 A g1 bt 0) .ret (L5 a)]):
 aq 375 [aO 4 A,.one (.cl g1 bt)] [ae a]:=
 h.of
theorem aAb{A:ag}{g1:Nat}{bt:List D}(h:ad [.l [] [8,7,1,0] [] (ap f375 0) (x0 A g1 bt 0) (.exit 0) Ur]):
 aq 375 [aO 4 A,.one (.cl g1 bt)] [ae (-1)]:=
 h.of
theorem aAc{A:ag}{g1:Nat}{bt:List D}{a:Int}(h:ad [.r 289 [aO 8 A,.one (.cl g1 bt)] [ae a]]):
 aq 208 [aO 8 A,.one (.cl g1 bt)] [aj (decide (a>=0))]:=
 h.of
theorem aAd{A:ag}{g1:Nat}{bt:List D}{a:Int}(h:ad [.r 330 [aO 5 A,.one (.cl g1 bt)] [ae a]]):
 aq 291 [aO 5 A,.one (.cl g1 bt)] [aj (decide (a>=0))]:=
 h.of
theorem aAe{A:ag}{g1:Nat}{bt:List D}{a:Int}(h:ad [.r 352 [aO 2 A,.one (.cl g1 bt)] [ae a]]):
 aq 328 [aO 2 A,.one (.cl g1 bt)] [aj (decide (a>=0))]:=
 h.of
end Go.Proofs.YtdchjefneblpgaaGreat
namespace Go.Proofs.YtdchjefneblpgaaGreat
open Go.Sx Go.RowKit Go.Proofs.Tryz
variable {a b c d e f g i j k l m n o p a0 b6 c5 d0 bE f0 : Int} {A C E F G H ah K L M N Q R S ba V X Y Z dC fh fu : ag} {q r s : Bool}
def H8(A:ag)(l:List O):List O:=.g ([]:ag) A 32::.h A::l
theorem aAf(h:ad (H8 A [])):
 aq 297 [aO 4 A] [aO 4 ([]++A)]:=
 h.of
theorem aAg(h:ad [.r 336 [aO 4 A,.agg [I a,I b,I c,I d]] [aj q]]):
 aq 303 [aO 4 A,.agg [I a,I b,I c,I d]] [aj q]:=
 h.of
theorem aAh(h:ad [.r 335 [.one (.J 1 [[I b],[I a],[I c],[I d]]),.one (.J 1 [[I f],[I e],[I g],[I i]])] [ae j]]):
 aq 304 [.agg [I a,I b,I c,I d],.agg [I e,I f,I g,I i]] [ae j]:=
 h.of
theorem azs(h:ad [.r 365 [aO 4 A,.agg [I a,I b,I c,I d]] [ae e]]):
 aq 336 [aO 4 A,.agg [I a,I b,I c,I d]] [aj (decide (e>=0))]:=
 h.of
def x1(A:ag)(a b c d e:Int):aC:=bb 19 [(0,dB 4 A),(3,aR 3),(7,aU (A.length:Int)),(8,aU e)] [(3,[au a,au b,au c,au d])]
def L6(a:Int):aC:=bb 19 [(4,aU a)] []
theorem azt(h:ad (j' A a f g i j [.b (b==f&&(c==g&&(d==i&&e==j))) true])):
 aV (ap f365 0) (x1 A b c d e a) .ret (L6 a):=
 h.aS [4] []
theorem azu(h:ad (j' A a f g i j [.b (b==f&&(c==g&&(d==i&&e==j))) false,.u a])):
 aV (ap f365 0) (x1 A b c d e a) .normal (x1 A b c d e (a+1)):=
 h.aS [8,7,3,0] [3]
def Us:aC:=bb 19 [] []
theorem azv(h:ad [.f A a false]):
 aV (ap f365 0) (x1 A b c d e a) (.exit 0) Us:=
 h.aS [] []
theorem azw(h:ad [.l [] [8,7,3,0] [3] (ap f365 0) (x1 A a b c d 0) .ret (L6 e)]):
 aq 365 [aO 4 A,.agg [I a,I b,I c,I d]] [ae e]:=
 h.of
theorem azx(h:ad [.l [] [8,7,3,0] [3] (ap f365 0) (x1 A a b c d 0) (.exit 0) Us]):
 aq 365 [aO 4 A,.agg [I a,I b,I c,I d]] [ae (-1)]:=
 h.of
theorem azy(h:ad [.r 297 [aO 4 A] [aO 4 C],.r 303 [aO 4 A,.agg [I a,I b,I c,I d]] [aj q],.b q true]):
 aq 237 [aO 4 A,.agg [I a,I b,I c,I d]] [aO 4 C]:=
 h.of
def x2(A:ag)(a b c d:Int)(C:ag)(e:Int):aC:=bb 33 [(0,dB 4 A),(3,aR 3),(5,aI.aG (bl.one (aB 90000 4 C))),(6,aU e)] [(3,[au a,au b,au c,au d])]
theorem azz(h:ad (j' A a j k f g [.r 304 [.agg [I j,I k,I f,I g],.agg [I b,I c,I d,I e]] [ae i],.b (decide (i<0)) true,.u a])):
 aV (ap f237 0) (x2 A b c d e C a) .normal (x2 A b c d e C (a+1)):=
 h.aS [6,0,3,5] [3]
def Dh(a b c d:Int)(A:ag)(e:Int):aC:=bb 33 [(3,aR 3),(5,aI.aG (bl.one (aB 90000 4 A))),(6,aU e)] [(3,[au a,au b,au c,au d])]
theorem azA(h:ad (j' A e j k f g [.r 304 [.agg [I j,I k,I f,I g],.agg [I a,I b,I c,I d]] [ae i],.b (decide (i<0)) false])):
 aV (ap f237 0) (x2 A a b c d C e) (.exit 0) (Dh a b c d C e):=
 h.aS [5,6,3] [3]
theorem azB(h:ad [.f A a false]):
 aV (ap f237 0) (x2 A b c d e C a) (.exit 0) (Dh b c d e C a):=
 h.aS [5,6,3] [3]
theorem azC(h:ad [.r 297 [aO 4 A] [aO 4 C],.r 303 [aO 4 A,.agg [I a,I b,I c,I d]] [aj q],.b q false,.l [] [6,0,3,5] [3] (ap f237 0) (x2 A a b c d C 0) (.exit 0) (Dh a b c d C e),.a (.rV [[some none],[none],[some none]] 0 [] [aO 4 E]),.p (kY prog 305 [GA.one (eZ.fk 4 C none),GA.one (eZ.ro (I e)),GA.one (eZ.fk 4 [[I a,I b,I c,I d]] none)] [aO 4 E])]):
 aq 237 [aO 4 A,.agg [I a,I b,I c,I d]] [aO 4 E]:=
 h.of
theorem Ut(h:ad [.v ((A.length:Int)-1),.r 190 [ae a,ae 0,ae ((A.length:Int)-1)] [aj q]]):
 aq 250 [.agg (br A b c),ae a] [aj q]:=
 h.of
theorem azD(h:ad [.b (a==d) true,.b (b==e) true]):
 aq 347 [.agg [I a,I b,I c,I g],.agg [I d,I e,I f,I i]] [aj (c==f)]:=
 h.of
theorem azE(h:ad [.b (a==c) true,.b (b==d) false]):
 aq 347 [.agg [I a,I b,I e,I f],.agg [I c,I d,I g,I i]] [aj false]:=
 h.of
theorem azF(h:ad [.b (a==b) false]):
 aq 347 [.agg [I a,I c,I d,I e],.agg [I b,I f,I g,I i]] [aj false]:=
 h.of
theorem azG(h:ad [.r 347 [.agg [I e,I f,I g,I i],.agg [I a,I b,I c,I d]] [aj q]]):
 aq 346 [.agg [I a,I b,I c,I d],.one (.ptr [I e,I f,I g,I i])] [aj q]:=
 h.of
theorem azH{A:ag}{g1:Nat}{bt:List D}{a:Int}(h:ad [.r 375 [aO 4 A,.one (.cl g1 bt)] [ae a],.b (a==-1) true]):
 QF 345 [GA.one (eZ.fk 4 A none),GA.one (eZ.ro (D.cl g1 bt))] [aO 4 A]:=
 h.Sg
def vM(g0:Nat)(cS:List D)(a b:Int)(A:ag):aC:=bb 42 [(0,aI.aG (bl.one (aB 1000000000 4 A))),(1,.aG (.one (.fd (D.cl g0 cS)))),(5,aU b),(6,aU a)] []
theorem azI{g1:Nat}{bt:List D}{b a:Int}{A:ag}{d e f c:Int}{q:Bool}{d12 d13 d14 d15:D}(h:ad (j' A b d e f c [.p (gM prog g1=true),.r g1 ([.agg [I d,I e,I f,I c]]++List.map .one bt) [aj q],.n q true,.x A a [d12,d13,d14,d15],.u a,.u b])):
 aV (ap f345 0) (vM g1 bt b a A) .normal (vM g1 bt (b+1) (a+1) (A.set a.toNat [I d,I e,I f,I c])):=
 h.aS [6,0,1,5] []
theorem azJ{g1:Nat}{bt:List D}{a c:Int}{A:ag}{d e f b:Int}{q:Bool}(h:ad (j' A a d e f b [.p (gM prog g1=true),.r g1 ([.agg [I d,I e,I f,I b]]++List.map .one bt) [aj q],.n q false,.u a])):
 aV (ap f345 0) (vM g1 bt a c A) .normal (vM g1 bt (a+1) c A):=
 h.aS [6,0,1,5] []
def L7(A:ag)(a:Int):aC:=bb 42 [(0,aI.aG (bl.one (aB 1000000000 4 A))),(5,aU a)] []
theorem azK{g1:Nat}{bt:List D}{a b:Int}{A:ag}(h:ad [.f A a false]):
 aV (ap f345 0) (vM g1 bt a b A) (.exit 0) (L7 A b):=
 h.aS [0,5] []
theorem azL{C:ag}{g1:Nat}{bt:List D}{b:Int}{A:ag}{a:Int}(h:ad [.r 375 [aO 4 C,.one (.cl g1 bt)] [ae b],.b (b==-1) false,.u b,.l [] [6,0,1,5] [] (ap f345 0) (vM g1 bt (b+1) b C) (.exit 0) (L7 A a),.a .own,.p (0<=(some a).getD 0),.p ((some a).getD 0<(A.length:Int)),.h A,.p ((0:Int)<=none.getD 0),.p (none.getD 0<=(some a).getD (↑(List.take ((some a).getD 0).toNat A++List.replicate (A.length-((some a).getD 0).toNat) [I 0,I 0,I 0,I 0]).length:Int)),.p ((some a).getD (↑(List.take ((some a).getD 0).toNat A++List.replicate (A.length-((some a).getD 0).toNat) [I 0,I 0,I 0,I 0]).length:Int)<=(↑(List.take ((some a).getD 0).toNat A++List.replicate (A.length-((some a).getD 0).toNat) [I 0,I 0,I 0,I 0]).length:Int))]):
 QF 345 [GA.one (eZ.fk 4 C none),GA.one (eZ.ro (D.cl g1 bt))] [.one (.J 4 (List.take (((some a).getD (↑(List.take ((some a).getD 0).toNat A++List.replicate (A.length-((some a).getD 0).toNat) [I 0,I 0,I 0,I 0]).length:Int)).toNat-0) (List.drop 0 (List.take ((some a).getD 0).toNat A++List.replicate (A.length-((some a).getD 0).toNat) [I 0,I 0,I 0,I 0]))))]:=
 h.Sg
def pu(A:ag)(a b c d:Int)(q:Bool)(e:Int):aC:=bb 41 [(1,aU a),(2,aU b),(3,aU c),(10,aU e),(11,.aG (.one (.bg q))),(14,dB 4 A),(15,aU (A.length:Int)),(16,aU d)] []
def H7(A:ag)(a b c d e f g i:Int)(q:Bool)(l:List O):List O:=j' A a b c d e (.r 347 [.agg [I b,I c,I d,I e],.agg [I f,I g,I i,I 0]] [aj q]::l)
theorem azM(h:ad (H7 A a f g i c b d e q [.b q true,.n r true,.u a])):
 aV (ap f344 0) (pu A b d e a r j) .normal (pu A b d e (a+1) true c):=
 h.aS [16,15,14,1,2,3,11,10] []
theorem azN(h:ad (H7 A b g i j a c d e q [.b q true,.n r false,.b (decide (a<f)) true,.u b])):
 aV (ap f344 0) (pu A c d e b r f) .normal (pu A c d e (b+1) true a):=
 h.aS [16,15,14,1,2,3,11,10] []
theorem azO(h:ad (H7 A a g i j c b d e r [.b r true,.n q false,.b (decide (c<f)) false,.u a])):
 aV (ap f344 0) (pu A b d e a q f) .normal (pu A b d e (a+1) q f):=
 h.aS [16,15,14,1,2,3,11,10] []
theorem azP(h:ad (H7 A a g i j e b c d q [.b q false,.u a])):
 aV (ap f344 0) (pu A b c d a r f) .normal (pu A b c d (a+1) r f):=
 h.aS [16,15,14,1,2,3,11,10] []
def Uu(a:Int)(q:Bool):aC:=bb 41 [(10,aU a),(11,.aG (.one (.bg q)))] []
theorem azQ(h:ad [.f A a false]):
 aV (ap f344 0) (pu A c d e a q b) (.exit 0) (Uu b q):=
 h.aS [10,11] []
theorem azR(h:ad [.l [] [16,15,14,1,2,3,11,10] [] (ap f344 0) (pu A a b c 0 false 0) (.exit 0) (Uu d q)]):
 aq 344 [aO 4 A,ae a,ae b,ae c] [ae d,aj q]:=
 h.of
theorem azi(h:ad [.r 344 [aO 4 A,ae a,ae b,ae c] [ae e,aj q],.b q true,.b (decide (e<=d)) true,.r 297 [aO 4 A] [aO 4 C]]):
 aq 318 [aO 4 A,.agg [I a,I b,I c,I d]] [aO 4 C,aj false]:=
 h.of
theorem azj(h:ad [.r 344 [aO 4 A,ae a,ae b,ae c] [ae e,aj q],.b q true,.b (decide (e<=d)) false,.r 297 [aO 4 A] [aO 4 F],.a (.rV [[some none],[none]] 0 [] [aO 4 C]),.p (kY prog 345 [GA.one (eZ.fk 4 F none),GA.one (eZ.ro (D.cl 346 [D.ptr [I a,I b,I c,I d]]))] [aO 4 C]),.r 237 [aO 4 C,.agg [I a,I b,I c,I d]] [aO 4 E]]):
 aq 318 [aO 4 A,.agg [I a,I b,I c,I d]] [aO 4 E,aj true]:=
 h.of
theorem azk(h:ad [.r 344 [aO 4 A,ae a,ae b,ae c] [ae e,aj q],.b q false,.r 297 [aO 4 A] [aO 4 F],.a (.rV [[some none],[none]] 0 [] [aO 4 C]),.p (kY prog 345 [GA.one (eZ.fk 4 F none),GA.one (eZ.ro (D.cl 346 [D.ptr [I a,I b,I c,I d]]))] [aO 4 C]),.r 237 [aO 4 C,.agg [I a,I b,I c,I d]] [aO 4 E]]):
 aq 318 [aO 4 A,.agg [I a,I b,I c,I d]] [aO 4 E,aj true]:=
 h.of
theorem azl(h:ad [.b (a==5) true,.b (a==5) true,.r 318 [aO 4 A,.agg [I b,I c,I d,I e]] [aO 4 C,aj q]]):
 aq 299 [ae a,aO 4 A,.agg [I b,I c,I d,I e]] [aO 4 C,aj q]:=
 h.of
theorem azm(h:ad [.b (a==5) false,.b (a==8) true,.r 318 [aO 4 A,.agg [I b,I c,I d,I e]] [aO 4 C,aj q]]):
 aq 299 [ae a,aO 4 A,.agg [I b,I c,I d,I e]] [aO 4 C,aj q]:=
 h.of
theorem azn(h:ad [.b (a==5) false,.b (a==8) false,.b (a==6) true,.r 237 [aO 4 A,.agg [I b,I c,I d,I e]] [aO 4 C],.r 303 [aO 4 A,.agg [I b,I c,I d,I e]] [aj q]]):
 aq 299 [ae a,aO 4 A,.agg [I b,I c,I d,I e]] [aO 4 C,.one (B !q)]:=
 h.of
theorem azo(h:ad [.b (a==5) false,.b (a==8) false,.b (a==6) false,.r 297 [aO 4 A] [aO 4 C]]):
 aq 299 [ae a,aO 4 A,.agg [I b,I c,I d,I e]] [aO 4 C,aj true]:=
 h.of
def x3(a b c d e:Int):aC:=bb 41 [(5,.aG (.one (.J (.own 27) 1 [[I a],[I b],[I c],[I d]]))),(6,aU e)] []
def L8(a:Int):aC:=bb 41 [(4,aU a)] []
theorem azp(h:ad (H6 a d e b c f [.b (f != 0) true,.x [[I d],[I e],[I b],[I c]] a [I g]])):
 aV (ap f307 0) (x3 d e b c a) .ret (L8 g):=
 h.aS [4] []
theorem azq(h:ad (H6 a d e b c f [.b (f != 0) false,.u a])):
 aV (ap f307 0) (x3 d e b c a) .normal (x3 d e b c (a+1)):=
 h.aS [6,5] []
def Uv:aC:=bb 41 [] []
theorem azr(h:ad [.b (decide (a<4)) false]):
 aV (ap f307 0) (x3 d e b c a) (.exit 0) Uv:=
 h.aS [] []
theorem aAS(h:ad [.r 322 [ae b,ae j] [ae m],.r 322 [ae a,ae i] [ae n],.r 322 [ae f,ae k] [ae c],.r 322 [ae g,ae l] [ae d],.l [] [6,5] [] (ap f307 0) (x3 m n c d 0) .ret (L8 e)]):
 aq 307 [.agg [I a,I b,I f,I g],.agg [I i,I j,I k,I l]] [ae e]:=
 h.of
theorem aAT(h:ad [.r 322 [ae b,ae i] [ae l],.r 322 [ae a,ae g] [ae m],.r 322 [ae e,ae j] [ae c],.r 322 [ae f,ae k] [ae d],.l [] [6,5] [] (ap f307 0) (x3 l m c d 0) (.exit 0) Uv]):
 aq 307 [.agg [I a,I b,I e,I f],.agg [I g,I i,I j,I k]] [ae 0]:=
 h.of
def x4(A:ag)(a b c d e:Int):aC:=bb 18 [(0,dB 4 A),(3,aR 3),(5,aU e)] [(3,[au a,au b,au c,au d])]
def L9(q:Bool):aC:=bb 18 [(4,.aG (.one (.bg q)))] []
theorem aAU(h:ad (j' A e f g i j [.b (f==a&&(g==b&&(i==c&&j==d))) true])):
 aV (ap f306 0) (x4 A a b c d e) .ret (L9 true):=
 h.aS [4] []
theorem aAV(h:ad (j' A a f g i j [.b (f==b&&(g==c&&(i==d&&j==e))) false,.u a])):
 aV (ap f306 0) (x4 A b c d e a) .normal (x4 A b c d e (a+1)):=
 h.aS [5,0,3] [3]
def Uw:aC:=bb 18 [] []
theorem aAW(h:ad [.f A a false]):
 aV (ap f306 0) (x4 A b c d e a) (.exit 0) Uw:=
 h.aS [] []
theorem aAX(h:ad [.l [] [5,0,3] [3] (ap f306 0) (x4 A a b c d 0) .ret (L9 q)]):
 aq 306 [aO 4 A,.agg [I a,I b,I c,I d]] [aj q]:=
 h.of
theorem aAY(h:ad [.l [] [5,0,3] [3] (ap f306 0) (x4 A a b c d 0) (.exit 0) Uw]):
 aq 306 [aO 4 A,.agg [I a,I b,I c,I d]] [aj false]:=
 h.of
theorem aAZ(h:ad [.r 306 [aO 4 A,.agg [I a,I b,I c,I d]] [aj q],.b q true,.g ([]:ag) A 32,.h A]):
 aq 238 [aO 4 A,.agg [I a,I b,I c,I d]] [aO 4 ([]++A)]:=
 h.of
def x5(A:ag)(a b c d e:Int):aC:=bb 41 [(0,dB 4 A),(3,aR 3),(5,aU e)] [(3,[au a,au b,au c,au d])]
theorem aA0(h:ad (j' A a i j k f [.r 307 [.agg [I i,I j,I k,I f],.agg [I b,I c,I d,I e]] [ae g],.b (decide (g<0)) true,.u a])):
 aV (ap f238 0) (x5 A b c d e a) .normal (x5 A b c d e (a+1)):=
 h.aS [5,0,3] [3]
def Di(A:ag)(a b c d e:Int):aC:=bb 41 [(0,dB 4 A),(3,aR 3),(5,aU e)] [(3,[au a,au b,au c,au d])]
theorem aA1(h:ad (j' A e i j k f [.r 307 [.agg [I i,I j,I k,I f],.agg [I a,I b,I c,I d]] [ae g],.b (decide (g<0)) false])):
 aV (ap f238 0) (x5 A a b c d e) (.exit 0) (Di A a b c d e):=
 h.aS [0,5,3] [3]
theorem aA2(h:ad [.f A a false]):
 aV (ap f238 0) (x5 A b c d e a) (.exit 0) (Di A b c d e a):=
 h.aS [0,5,3] [3]
theorem aA3(h:ad [.r 306 [aO 4 A,.agg [I b,I c,I d,I e]] [aj q],.b q false,.l [] [5,0,3] [3] (ap f238 0) (x5 A b c d e 0) (.exit 0) (Di A b c d e a),.p ((0:Int)<=none.getD 0),.p (none.getD 0<=(some a).getD (A.length:Int)),.p ((some a).getD (A.length:Int)<=(A.length:Int)),.p ((([]:ag).length+(List.take (((some a).getD (A.length:Int)).toNat-0) (List.drop 0 A)).length)*32<=140737488355328),.p (([]:ag).length+(List.take (((some a).getD (A.length:Int)).toNat-0) (List.drop 0 A)).length<=9223372036854775807),.p (Flat (List.take (((some a).getD (A.length:Int)).toNat-0) (List.drop 0 A))),.p ((([]++List.take (((some a).getD (A.length:Int)).toNat-0) (List.drop 0 A)).length+[[I b,I c,I d,I e]].length)*32<=140737488355328),.p (([]++List.take (((some a).getD (A.length:Int)).toNat-0) (List.drop 0 A)).length+[[I b,I c,I d,I e]].length<=9223372036854775807),.h [[I b,I c,I d,I e]],.p (0<=(some a).getD 0),.p ((some a).getD 0<=none.getD (A.length:Int)),.p (none.getD (A.length:Int)<=(A.length:Int)),.p ((([]++List.take (((some a).getD (A.length:Int)).toNat-0) (List.drop 0 A)++[[I b,I c,I d,I e]]).length+(List.take (A.length-((some a).getD 0).toNat) (List.drop ((some a).getD 0).toNat A)).length)*32<=140737488355328),.p (([]++List.take (((some a).getD (A.length:Int)).toNat-0) (List.drop 0 A)++[[I b,I c,I d,I e]]).length+(List.take (A.length-((some a).getD 0).toNat) (List.drop ((some a).getD 0).toNat A)).length<=9223372036854775807),.p (Flat (List.take (A.length-((some a).getD 0).toNat) (List.drop ((some a).getD 0).toNat A)))]):
 aq 238 [aO 4 A,.agg [I b,I c,I d,I e]] [.one (.J 4 ([]++List.take (((some a).getD (A.length:Int)).toNat-0) (List.drop 0 A)++[[I b,I c,I d,I e]]++List.take (A.length-((some a).getD 0).toNat) (List.drop ((some a).getD 0).toNat A)))]:=
 h.of
theorem aA4(h:ad [.v ((A.length:Int)-1),.r 168 [ae a,ae 0,ae ((A.length:Int)-1)] [aj q],.n q true]):
 aq 249 [.agg (br A b c),ae a] [.agg (bp 0 0 0 []),aj false]:=
 h.of
theorem aA5(h:ad [.v ((A.length:Int)-1),.r 168 [ae a,ae 0,ae ((A.length:Int)-1)] [aj q],.n q false,.x A a (bp b c d C),.g ([]:ag) C 8,.h C]):
 aq 249 [.agg (br A e f),ae a] [.agg (bp b c d ([]++C)),aj true]:=
 h.of
def mz(A:ag)(a b c d:Int)(q:Bool)(e:Int):aC:=bb 54 [(0,dB 4 A),(1,aU a),(2,aU b),(3,aU c),(10,aU e),(11,.aG (.one (.bg q))),(12,aU d)] []
theorem aA6(h:ad (j' A a f g i e [.b (f==b) true,.b (g==c) true,.b (i==d) true,.n q true,.u a])):
 aV (ap f324 0) (mz A b c d a q j) .normal (mz A b c d (a+1) true e):=
 h.aS [12,0,1,2,3,11,10] []
theorem aA7(h:ad (j' A a g i j c [.b (g==b) true,.b (i==d) true,.b (j==e) true,.n q false,.b (decide (c<f)) true,.u a])):
 aV (ap f324 0) (mz A b d e a q f) .normal (mz A b d e (a+1) true c):=
 h.aS [12,0,1,2,3,11,10] []
theorem aA8(h:ad (j' A a g i j f [.b (g==b) true,.b (i==c) true,.b (j==d) true,.n q false,.b (decide (f<e)) false,.u a])):
 aV (ap f324 0) (mz A b c d a q e) .normal (mz A b c d (a+1) q e):=
 h.aS [12,0,1,2,3,11,10] []
theorem aA9(h:ad (j' A a f g i j [.b (f==b) true,.b (g==c) true,.b (i==d) false,.u a])):
 aV (ap f324 0) (mz A b c d a q e) .normal (mz A b c d (a+1) q e):=
 h.aS [12,0,1,2,3,11,10] []
theorem aBa(h:ad (j' A a f g j i [.b (f==b) true,.b (g==c) false,.u a])):
 aV (ap f324 0) (mz A b c d a q e) .normal (mz A b c d (a+1) q e):=
 h.aS [12,0,1,2,3,11,10] []
theorem aBb(h:ad (j' A a f i j g [.b (f==b) false,.u a])):
 aV (ap f324 0) (mz A b c d a q e) .normal (mz A b c d (a+1) q e):=
 h.aS [12,0,1,2,3,11,10] []
def Ux(a:Int)(q:Bool):aC:=bb 54 [(10,aU a),(11,.aG (.one (.bg q)))] []
theorem aBc(h:ad [.f A a false]):
 aV (ap f324 0) (mz A c d e a q b) (.exit 0) (Ux b q):=
 h.aS [10,11] []
theorem aBd(h:ad [.l [] [12,0,1,2,3,11,10] [] (ap f324 0) (mz A a b c 0 false 0) (.exit 0) (Ux d q)]):
 aq 324 [aO 4 A,ae a,ae b,ae c] [ae d,aj q]:=
 h.of
theorem aBe(h:ad [.b (a==5) true]):
 aq 268 [ae a] [aj true]:=
 h.of
theorem aBf(h:ad [.b (a==5) false,.b (a==6) true]):
 aq 268 [ae a] [aj true]:=
 h.of
theorem aBg(h:ad [.b (a==5) false,.b (a==6) false]):
 aq 268 [ae a] [aj (a==8)]:=
 h.of
theorem aBh(h:ad (H8 A [.b (a==6) true,.r 306 [aO 4 A,.agg [I b,I c,I d,I e]] [aj q],.b q true])):
 aq 269 [ae a,aO 4 A,.agg [I b,I c,I d,I e]] [aO 4 ([]++A),aj false]:=
 h.of
theorem aAs(h:ad (H8 A [.b (e==6) true,.r 306 [aO 4 A,.agg [I a,I b,I c,I d]] [aj q],.b q false,.r 238 [aO 4 A,.agg [I a,I b,I c,I d]] [aO 4 C]])):
 aq 269 [ae e,aO 4 A,.agg [I a,I b,I c,I d]] [aO 4 C,aj true]:=
 h.of
def Pw(A:ag)(a:Int)(l:List O):List O:=H8 A (.b (a==6) false::l)
def Px(A:ag)(a b c d e:Int)(q:Bool)(l:List O):List O:=Pw A a (.b (a==5) true::.b (a==5) true::.r 324 [aO 4 A,ae b,ae c,ae d] [ae e,aj q]::l)
theorem aAt(h:ad (Px A a b c d f q [.b q true,.b (decide (f<=e)) true])):
 aq 269 [ae a,aO 4 A,.agg [I b,I c,I d,I e]] [aO 4 ([]++A),aj false]:=
 h.of
def mA(A:ag)(a b c d e:Int)(C:ag):aC:=bb 94 [(1,dB 4 A),(5,aR 5),(11,aI.aG (bl.one (aB 48 4 C))),(12,aU e)] [(5,[au a,au b,au c,au d])]
theorem aAu(h:ad (j' A a g l m n [.b (g != f) true,.x A a [I b,I c,I d,I e],.g C [[I b,I c,I d,I e]] 32,.h [[I b,I c,I d,I e]],.u a])):
 aV (ap f269 0) (mA A f i j k a C) .normal (mA A f i j k (a+1) (C++[[I b,I c,I d,I e]])):=
 h.aS [12,1,5,11] [5]
theorem aAv(h:ad (j' A a i m n o [.b (i != f) false,.x A a [I p,I j,I a0,I b6],.b (j != g) true,.x A a [I b,I c,I d,I e],.g C [[I b,I c,I d,I e]] 32,.h [[I b,I c,I d,I e]],.u a])):
 aV (ap f269 0) (mA A f g k l a C) .normal (mA A f g k l (a+1) (C++[[I b,I c,I d,I e]])):=
 h.aS [12,1,5,11] [5]
theorem aAw(h:ad (j' A a j n o p [.b (j != f) false,.x A a [I a0,I k,I b6,I c5],.b (k != g) false,.x A a [I d0,I bE,I l,I f0],.b (l != i) true,.x A a [I b,I c,I d,I e],.g C [[I b,I c,I d,I e]] 32,.h [[I b,I c,I d,I e]],.u a])):
 aV (ap f269 0) (mA A f g i m a C) .normal (mA A f g i m (a+1) (C++[[I b,I c,I d,I e]])):=
 h.aS [12,1,5,11] [5]
theorem aAx(h:ad (j' A a e j k l [.b (e != b) false,.x A a [I m,I f,I n,I o],.b (f != c) false,.x A a [I p,I a0,I g,I b6],.b (g != d) false,.u a])):
 aV (ap f269 0) (mA A b c d i a C) .normal (mA A b c d i (a+1) C):=
 h.aS [12,1,5,11] [5]
def Al(a b c d:Int)(A:ag):aC:=bb 94 [(5,aR 5),(11,aI.aG (bl.one (aB 48 4 A)))] [(5,[au a,au b,au c,au d])]
theorem aAy(h:ad [.f A e false]):
 aV (ap f269 0) (mA A a b c d e C) (.exit 1) (Al a b c d C):=
 h.aS [11,5] [5]
theorem aAz(h:ad (Px A e a b c f q [.b q true,.b (decide (f<=d)) false,.l [] [12,1,5,11] [5] (ap f269 0) (mA A a b c d 0 []) (.exit 1) (Al a b c d C),.r 238 [aO 4 C,.agg [I a,I b,I c,I d]] [aO 4 E]])):
 aq 269 [ae e,aO 4 A,.agg [I a,I b,I c,I d]] [aO 4 E,aj true]:=
 h.of
theorem aAA(h:ad (Px A d a b c f q [.b q false,.l [] [12,1,5,11] [5] (ap f269 0) (mA A a b c e 0 []) (.exit 1) (Al a b c e C),.r 238 [aO 4 C,.agg [I a,I b,I c,I e]] [aO 4 E]])):
 aq 269 [ae d,aO 4 A,.agg [I a,I b,I c,I e]] [aO 4 E,aj true]:=
 h.of
def Py(A:ag)(a b c d e:Int)(q:Bool)(l:List O):List O:=Pw A a (.b (a==5) false::.b (a==8) true::.r 324 [aO 4 A,ae b,ae c,ae d] [ae e,aj q]::l)
theorem aAB(h:ad (Py A a b c d f q [.b q true,.b (decide (f<=e)) true])):
 aq 269 [ae a,aO 4 A,.agg [I b,I c,I d,I e]] [aO 4 ([]++A),aj false]:=
 h.of
theorem aAC(h:ad (Py A e a b c f q [.b q true,.b (decide (f<=d)) false,.l [] [12,1,5,11] [5] (ap f269 0) (mA A a b c d 0 []) (.exit 1) (Al a b c d C),.r 238 [aO 4 C,.agg [I a,I b,I c,I d]] [aO 4 E]])):
 aq 269 [ae e,aO 4 A,.agg [I a,I b,I c,I d]] [aO 4 E,aj true]:=
 h.of
theorem aAD(h:ad (Py A d a b c f q [.b q false,.l [] [12,1,5,11] [5] (ap f269 0) (mA A a b c e 0 []) (.exit 1) (Al a b c e C),.r 238 [aO 4 C,.agg [I a,I b,I c,I e]] [aO 4 E]])):
 aq 269 [ae d,aO 4 A,.agg [I a,I b,I c,I e]] [aO 4 E,aj true]:=
 h.of
theorem aAE(h:ad (Pw A a [.b (a==5) false,.b (a==8) false])):
 aq 269 [ae a,aO 4 A,.agg [I b,I c,I d,I e]] [aO 4 ([]++A),aj true]:=
 h.of
