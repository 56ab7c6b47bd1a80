import Derived.Test.YtdchjefneblpgaaGreatGE
set_option linter.unusedVariables false
set_option linter.unusedSimpArgs false
namespace Go.Proofs.YtdchjefneblpgaaGreat
open Go.Sx Go.RowKit Go.Proofs.Tryz
variable {a b c d e f g i j k l m n o p a0 cf dg d0 bE f0 : Int} {A C E F G H aw K L M N Q R S bO V X Y Z fu kt lj lR : ai} {q r : Bool}
theorem akF(h:ak [.g ([]:ai) A 40,.h A]):
 aK 233 [a7 5 A] [a7 5 ([]++A)]:=
 h.of
def zb(a b:Int)(l:List O):List O:=.b (decide (a<b)) true::l
theorem akG(h:ak (zb b a [])):
 aK 130 [al c,al a,al b] [al a]:=
 h.of
def uX(a b:Int)(l:List O):List O:=.b (decide (a<b)) false::l
theorem akH(h:ak (uX c a [.b (decide (b<a)) true])):
 aK 130 [al b,al a,al c] [al a]:=
 h.of
theorem akI(h:ak (uX a c [.b (decide (b<c)) false,.b (decide (b>a)) true])):
 aK 130 [al b,al c,al a] [al a]:=
 h.of
theorem akJ(h:ak (uX c b [.b (decide (a<b)) false,.b (decide (a>c)) false])):
 aK 130 [al a,al b,al c] [al a]:=
 h.of
def AU(a b:Int)(A:ai):aE:=bi 62 [(3,aB.aD (bd.one (ay 9 3 A))),(4,aZ a),(5,aZ b)] []
theorem akK(h:ak (zb a b [.g A [[I 1,I a,I 0],[I 3,I a,I 0],[I 2,I a,I 0],[I 7,I a,I 0]] 24,.h [[I 1,I a,I 0],[I 3,I a,I 0],[I 2,I a,I 0],[I 7,I a,I 0]],.u a])):
 bb (az f129 0) (AU b a A) .normal (AU b (a+1) (A++[[I 1,I a,I 0],[I 3,I a,I 0],[I 2,I a,I 0],[I 7,I a,I 0]])):=
 h.a' [5,4,3] []
def PF(a:Int)(A:ai):aE:=bi 62 [(3,aB.aD (bd.one (ay 9 3 A))),(4,aZ a)] []
theorem akL(h:ak (uX b a [])):
 bb (az f129 0) (AU a b A) (.exit 0) (PF a A):=
 h.a' [4,3] []
def AV(a b:Int)(A:ai):aE:=bi 62 [(3,aB.aD (bd.one (ay 9 3 A))),(4,aZ a),(6,aZ b)] []
def wo(a b c:Int)(A:ai):aE:=bi 62 [(3,aB.aD (bd.one (ay 9 3 A))),(4,aZ a),(6,aZ b),(7,aZ c)] []
theorem akM(h:ak (zb a c [.b (b != a) true,.g A [[I 4,I b,I a],[I 5,I b,I a]] 24,.h [[I 4,I b,I a],[I 5,I b,I a]],.u a])):
 bb (az f129 2) (wo c b a A) .normal (wo c b (a+1) (A++[[I 4,I b,I a],[I 5,I b,I a]])):=
 h.a' [7,4,6,3] []
theorem akd(h:ak (zb a b [.b (c != a) false,.u a])):
 bb (az f129 2) (wo b c a A) .normal (wo b c (a+1) A):=
 h.a' [7,4,6,3] []
def PG(a b:Int)(A:ai):aE:=bi 62 [(3,aB.aD (bd.one (ay 9 3 A))),(4,aZ a),(6,aZ b)] []
theorem ake(h:ak (uX b a [])):
 bb (az f129 2) (wo a c b A) (.exit 4) (PG a c A):=
 h.a' [6,4,3] []
theorem akf(h:ak (zb a b [.l [] [7,4,6,3] [] (az f129 2) (wo b a 0 A) (.exit 4) (PG b a C),.u a])):
 bb (az f129 1) (AV b a A) .normal (AV b (a+1) C):=
 h.a' [6,4,3] []
def PH(A:ai):aE:=bi 62 [(3,aB.aD (bd.one (ay 9 3 A)))] []
theorem akg(h:ak (uX b a [])):
 bb (az f129 1) (AV a b A) (.exit 2) (PH A):=
 h.a' [3] []
def AW(a:Int)(A:ai):aE:=bi 62 [(3,aB.aD (bd.one (ay 9 3 A))),(8,aZ a)] []
theorem akh(h:ak [.b (decide (a<=3)) true,.g A [[I 6,I a,I 0]] 24,.h [[I 6,I a,I 0]],.u a]):
 bb (az f129 3) (AW a A) .normal (AW (a+1) (A++[[I 6,I a,I 0]])):=
 h.a' [8,3] []
def PI(A:ai):aE:=bi 62 [(3,aB.aD (bd.one (ay 9 3 A)))] []
theorem aki(h:ak [.b (decide (a<=3)) false]):
 bb (az f129 3) (AW a A) (.exit 6) (PI A):=
 h.a' [3] []
theorem akj(h:ak [.r 130 [al b,al 0,al 4] [al a],.l [] [5,4,3] [] (az f129 0) (AU a 0 []) (.exit 0) (PF a C),.l [] [6,4,3] [] (az f129 1) (AV a 0 C) (.exit 2) (PH E),.l [] [8,3] [] (az f129 3) (AW 0 E) (.exit 6) (PI A)]):
 aK 129 [.agg (cl F b c G H aw K)] [a7 3 A]:=
 h.of
theorem akk(h:ak [.b (decide (a>=b)) true]):
 aK 190 [al a,al b,al c] [aI (decide (a<=c))]:=
 h.of
theorem akl(h:ak [.b (decide (a>=b)) false]):
 aK 190 [al a,al b,al c] [aI false]:=
 h.of
theorem akm(h:ak [.b (decide (a>=b)) true]):
 aK 168 [al a,al b,al c] [aI (decide (a<=c))]:=
 h.of
theorem alP(h:ak [.b (decide (a>=b)) false]):
 aK 168 [al a,al b,al c] [aI false]:=
 h.of
theorem alQ(h:ak (zb a b [])):
 aK 322 [al a,al b] [al (-1)]:=
 h.of
theorem alR(h:ak (uX a b [.b (decide (a>b)) true])):
 aK 322 [al a,al b] [al 1]:=
 h.of
theorem alS(h:ak (uX a b [.b (decide (a>b)) false])):
 aK 322 [al a,al b] [al 0]:=
 h.of
theorem alT(a:Int)(h:ak []):
 aK 388 [al a] [aI (a != a)]:=
 h.of
def Mm(a:Int)(q:Bool)(b:Int)(r:Bool)(l:List O):List O:=.r 388 [al a] [aI q]::.r 388 [al b] [aI r]::.b q false::.b r false::l
theorem alU(h:ak (Mm a q b r [.b (decide (a<b)) true])):
 aK 382 [al a,al b] [al (-1)]:=
 h.of
theorem alV(h:ak (Mm a q b r [.b (decide (a<b)) false,.b (decide (a>b)) true])):
 aK 382 [al a,al b] [al 1]:=
 h.of
theorem alW(h:ak (Mm a q b r [.b (decide (a<b)) false,.b (decide (a>b)) false])):
 aK 382 [al a,al b] [al 0]:=
 h.of
def wq(A C:ai)(a:Int):aE:=bi 36 [(0,dX 1 A),(1,dX 1 C),(9,dX 1 A),(10,aZ (A.length:Int)),(11,aZ a)] []
def Jn(a:Int):aE:=bi 36 [(4,aZ a)] []
theorem alX(h:ak [.i C a [I c],.b (decide (a>=(A.length:Int))) false,.x A a [I d],.r 382 [al c,al d] [al b],.b (b != 0) true]):
 bb (az f364 0) (wq C A a) .ret (Jn b):=
 h.a' [4] []
theorem alY(h:ak [.i C a [I b],.b (decide (a>=(A.length:Int))) false,.x A a [I c],.r 382 [al b,al c] [al d],.b (d != 0) false,.u a]):
 bb (az f364 0) (wq C A a) .normal (wq C A (a+1)):=
 h.a' [11,10,9,1,0] []
def PJ(A C:ai):aE:=bi 36 [(0,dX 1 A),(1,dX 1 C)] []
theorem alZ(h:ak [.f A a false]):
 bb (az f364 0) (wq A C a) (.exit 0) (PJ A C):=
 h.a' [0,1] []
theorem al0(h:ak [.l [] [11,10,9,1,0] [] (az f364 0) (wq A C 0) .ret (Jn a)]):
 aK 364 [a7 1 A,a7 1 C] [al a]:=
 h.of
theorem al1(h:ak [.l [] [11,10,9,1,0] [] (az f364 0) (wq A C 0) (.exit 0) (PJ A C),.f C (A.length:Int) false]):
 aK 364 [a7 1 A,a7 1 C] [al 0]:=
 h.of
theorem al2(h:ak [.r 364 [a7 1 A,a7 1 C] [al a]]):
 aK 335 [a7 1 A,a7 1 C] [al a]:=
 h.of
theorem al3(h:ak [.r 322 [al b,al c] [al a],.b (a != 0) true]):
 aK 314 [.agg [I b,I d],.agg [I c,I e]] [al a]:=
 h.of
theorem al4(h:ak [.r 322 [al a,al c] [al e],.b (e != 0) false,.r 322 [al b,al d] [al f]]):
 aK 314 [.agg [I a,I b],.agg [I c,I d]] [al f]:=
 h.of
theorem al5(h:ak [.r 335 [.one (.J 1 [[I a],[I b]]),.one (.J 1 [[I c],[I d]])] [al e]]):
 aK 313 [.agg [I a,I b],.agg [I c,I d]] [al e]:=
 h.of
def wu(a b c d e:Int):aE:=bi 41 [(5,.aD (.one (.J (.own 27) 1 [[I a],[I b],[I c],[I d]]))),(6,aZ e)] []
def Jo(a:Int):aE:=bi 41 [(4,aZ a)] []
def FD(a b c d e f:Int)(l:List O):List O:=.b (decide (a<4)) true::.x [[I b],[I c],[I d],[I e]] a [I f]::l
theorem al6(h:ak (FD a b c d e f [.b (f != 0) true,.x [[I b],[I c],[I d],[I e]] a [I g]])):
 bb (az f264 0) (wu b c d e a) .ret (Jo g):=
 h.a' [4] []
theorem al7(h:ak (FD a b c d e f [.b (f != 0) false,.u a])):
 bb (az f264 0) (wu b c d e a) .normal (wu b c d e (a+1)):=
 h.a' [6,5] []
def PK:aE:=bi 41 [] []
theorem al8(h:ak [.b (decide (a<4)) false]):
 bb (az f264 0) (wu b c d e a) (.exit 0) PK:=
 h.a' [] []
theorem al9(h:ak [.r 314 [.agg [I b,I i],.agg [I m,I n]] [al c],.r 322 [al a,al l] [al d],.r 322 [al j,al o] [al e],.r 322 [al k,al p] [al f],.l [] [6,5] [] (az f264 0) (wu c d e f 0) .ret (Jo g)]):
 aK 264 [.agg (bu a b i j k),.agg (bu l m n o p)] [al g]:=
 h.of
theorem ama(h:ak [.r 314 [.agg [I b,I g],.agg [I l,I m]] [al c],.r 322 [al a,al k] [al d],.r 322 [al i,al n] [al e],.r 322 [al j,al o] [al f],.l [] [6,5] [] (az f264 0) (wu c d e f 0) (.exit 0) PK]):
 aK 264 [.agg (bu a b g i j),.agg (bu k l m n o)] [al 0]:=
 h.of
theorem amb(h:ak [.r 313 [.agg [I b,I c],.agg [I d,I e]] [al a],.b (a != 0) true]):
 aK 302 [.agg (bu f b c g i),.agg (bu j d e k l)] [al a]:=
 h.of
theorem amc(h:ak [.r 313 [.agg [I b,I e],.agg [I j,I k]] [al c],.b (c != 0) false,.r 335 [.one (.J 1 [[I a],[I f],[I g]]),.one (.J 1 [[I i],[I l],[I m]])] [al d]]):
 aK 302 [.agg (bu a b e f g),.agg (bu i j k l m)] [al d]:=
 h.of
def pu(a:Int)(A:ai):aE:=bi 48 [(3,aB.aD (bd.one (ay 7 5 A))),(4,aZ a)] []
def uc(a b:Int)(A:ai)(c d e f g:Int):aE:=bi 48 [(3,aB.aD (bd.one (ay 7 5 A))),(4,aZ a),(5,aS 5),(6,aZ b)] [(5,[aq c,aq d,aq e,aq f,aq g])]
def Vv(a:Int)(A:ai)(b c d e f g i j k m n:Int)(l:List O):List O:=.b (decide (a>0)) true::.v (a-1)::.p (0<=a-1)::.p (a-1<(A.length:Int))::.e A ((a-1).toNat) (bu b c d e f)::.r 264 [.agg (bu g i j k m),.agg (bu b c d e f)] [al n]::l
theorem amd{g a:Int}{A:ai}{b c d e f i j k l m n o p a0 cf dg:Int}{d26 d27 d28 d29 d30:D}(h:ak (Vv a A i j k l m b c d e f n [.b (decide (n<0)) true,.v (a-1),.p (0<=a-1),.p (a-1<(A.length:Int)),.e A ((a-1).toNat) (bu o p a0 cf dg),.x A a [d26,d27,d28,d29,d30],.v (a-1)])):
 bb (az f165 1) (uc g a A b c d e f) .normal (uc g (a-1) (A.set a.toNat (bu o p a0 cf dg)) b c d e f):=
 h.a' [6,5,3,4] [5]
def EV(a:Int)(A:ai)(b c d e f g:Int):aE:=bi 48 [(3,aB.aD (bd.one (ay 7 5 A))),(4,aZ a),(5,aS 5),(6,aZ b)] [(5,[aq c,aq d,aq e,aq f,aq g])]
theorem ame(h:ak (Vv a A i j k l m b c d e f n [.b (decide (n<0)) false])):
 bb (az f165 1) (uc g a A b c d e f) (.exit 2) (EV g A a b c d e f):=
 h.a' [3,6,5,4] [5]
theorem alo(h:ak [.b (decide (a>0)) false]):
 bb (az f165 1) (uc b a A c d e f g) (.exit 2) (EV b A a c d e f g):=
 h.a' [3,6,5,4] [5]
theorem alp{a:Int}{A:ai}{i j k l m:Int}{C:ai}{b c d e f g:Int}{d15 d16 d17 d18 d19:D}(h:ak [.i A a (bu i j k l m),.l [] [6,5,3,4] [5] (az f165 1) (uc a a A i j k l m) (.exit 2) (EV a C b c d e f g),.x C b [d15,d16,d17,d18,d19],.u a]):
 bb (az f165 0) (pu a A) .normal (pu (a+1) (C.set b.toNat (bu c d e f g))):=
 h.a' [4,3] []
def EW(A:ai):aE:=bi 48 [(3,aB.aD (bd.one (ay 7 5 A)))] []
theorem PL(h:ak [.f A a false]):
 bb (az f165 0) (pu a A) (.exit 0) (EW A):=
 h.a' [3] []
theorem alq(h:ak [.g ([]:ai) A 40,.h A,.l [] [4,3] [] (az f165 0) (pu 1 ([]++A)) (.exit 0) (EW C)]):
 aK 165 [a7 5 A] [a7 5 C]:=
 h.of
theorem alr(h:ak [.r 233 [a7 5 C] [a7 5 E],.a (.rT [[some (some A)],[none]] 0 [] []),.p (nm prog 301 [GA.one (eR.eM 5 E (some A)),GA.one (eR.ro (D.cl 302 []))] [])]):
 aK 236 [a7 5 C] [a7 5 A]:=
 h.of
def yq(A:ai)(a b:Int)(C E F G:ai)(c:Int)(H:ai):aE:=bi 46 [(1,aS 1),(3,aB.aD (bd.one (ay 6 5 H))),(4,aZ c)] [(1,[.J .free 4 A,aq a,aq b,.J .free 8 C,.J .free 6 E,.J .free 5 F,.J .free 3 G])]
theorem als(h:ak [.i E a (bz A L M N Q R S bO),.g F A 40,.h A,.x E a (bz V C X Y Z fu kt lj),.g (F++A) C 40,.h C,.u a]):
 bb (az f38 0) (yq G b c E H aw K a F) .normal (yq G b c E H aw K (a+1) (F++A++C)):=
 h.a' [4,1,3] [1]
def PM(A:ai)(a b:Int)(C E F G H:ai):aE:=bi 46 [(1,aS 1),(3,aB.aD (bd.one (ay 6 5 H)))] [(1,[.J .free 4 A,aq a,aq b,.J .free 8 C,.J .free 6 E,.J .free 5 F,.J .free 3 G])]
theorem alu(h:ak [.f A c false]):
 bb (az f38 0) (yq C a b A E F G c H) (.exit 0) (PM C a b A E F G H):=
 h.a' [1,3] [1]
def yr(A:ai)(a b:Int)(C E F G:ai)(c:Int)(H:ai):aE:=bi 46 [(1,aS 1),(3,aB.aD (bd.one (ay 6 5 H))),(5,aZ c)] [(1,[.J .free 4 A,aq a,aq b,.J .free 8 C,.J .free 6 E,.J .free 5 F,.J .free 3 G])]
theorem alv(h:ak [.i C a (cI d A e f g i),.g E A 40,.h A,.u a]):
 bb (az f38 1) (yr F b c G C H aw a E) .normal (yr F b c G C H aw (a+1) (E++A)):=
 h.a' [5,1,3] [1]
def Rc(A:ai):aE:=bi 46 [(3,aB.aD (bd.one (ay 6 5 A)))] []
theorem alw(h:ak [.f A a false]):
 bb (az f38 1) (yr E b c F A G H a C) (.exit 2) (Rc C):=
 h.a' [3] []
theorem alx(h:ak [.l [] [4,1,3] [1] (az f38 0) (yq A a b C E F G 0 []) (.exit 0) (PM A a b C E F G H),.l [] [5,1,3] [1] (az f38 1) (yr A a b C E F G 0 H) (.exit 2) (Rc aw),.r 165 [a7 5 aw] [a7 5 K]]):
 aK 38 [.agg (cl A a b C E F G)] [a7 5 K]:=
 h.of
def yt(A:ai)(a:Int)(C E:ai)(b c:Int)(F G H aw:ai):aE:=bi 37 [(1,aS 1),(3,aB.aD (bd.one (ay 18 5 C))),(9,dX 8 A),(10,aZ (A.length:Int)),(11,aZ a)] [(1,[.J .free 4 E,aq b,aq c,.J .free 8 F,.J .free 6 G,.J .free 5 H,.J .free 3 aw])]
theorem aly(h:ak [.i F a (bz A C M N Q R S bO),.g E A 40,.h A,.g (E++A) C 40,.h C,.u a]):
 bb (az f103 0) (yt F a E L b c G H aw K) .normal (yt F (a+1) (E++A++C) L b c G H aw K):=
 h.a' [11,10,9,3,1] [1]
def Re(A C:ai)(a b:Int)(E F G H:ai):aE:=bi 37 [(1,aS 1),(3,aB.aD (bd.one (ay 18 5 A)))] [(1,[.J .free 4 C,aq a,aq b,.J .free 8 E,.J .free 6 F,.J .free 5 G,.J .free 3 H])]
theorem alz(h:ak [.f G c false]):
 bb (az f103 0) (yt G c H aw a b A C E F) (.exit 0) (Re H aw a b A C E F):=
 h.a' [1,3] [1]
def yu(A:ai)(a:Int)(C:ai):aE:=bi 37 [(3,aB.aD (bd.one (ay 18 5 C))),(24,dX 6 A),(25,aZ (A.length:Int)),(26,aZ a)] []
theorem alA(h:ak [.i C a (cI b A c d e f),.g E A 40,.h A,.u a]):
 bb (az f103 1) (yu C a E) .normal (yu C (a+1) (E++A)):=
 h.a' [26,25,24,3] []
def Rf(A:ai):aE:=bi 37 [(3,aB.aD (bd.one (ay 18 5 A)))] []
theorem alB(h:ak [.f A a false]):
 bb (az f103 1) (yu A a C) (.exit 2) (Rf C):=
 h.a' [3] []
theorem alC(h:ak [.l [(3,18,5)] [11,10,9,3,1] [1] (az f103 0) (yt A 0 [] C a b A H aw K) (.exit 0) (Re L R d c M E N Q),.l [] [26,25,24,3] [] (az f103 1) (yu E 0 L) (.exit 2) (Rf F),.r 236 [a7 5 F] [a7 5 G]]):
 aK 103 [.agg (cl C a b A H aw K)] [a7 5 G]:=
 h.of
def wv(A:ai)(a b:Int)(C:ai):aE:=bi 30 [(0,dX 5 A),(1,aZ a),(5,aB.aD (bd.one (ay 7 5 C))),(6,aZ b)] []
theorem alD(h:ak [.i A a (bu j i k l m),.b (i==g) true,.x A a (bu f b c d e),.g C [(bu f b c d e)] 40,.h [(bu f b c d e)],.u a]):
 bb (az f116 0) (wv A g a C) .normal (wv A g (a+1) (C++[(bu f b c d e)])):=
 h.a' [6,0,1,5] []
theorem alE(h:ak [.i A a (bu d c e f g),.b (c==b) false,.u a]):
 bb (az f116 0) (wv A b a C) .normal (wv A b (a+1) C):=
 h.a' [6,0,1,5] []
def Rg(A:ai):aE:=bi 30 [(5,aB.aD (bd.one (ay 7 5 A)))] []
theorem alF(h:ak [.f A a false]):
 bb (az f116 0) (wv A b a C) (.exit 0) (Rg C):=
 h.a' [5] []
theorem alG(h:ak [.l [] [6,0,1,5] [] (az f116 0) (wv A a 0 []) (.exit 0) (Rg C)]):
 aK 116 [a7 5 A,al a] [a7 5 C]:=
 h.of
def ww(A:ai)(a b:Int)(C:ai):aE:=bi 25 [(1,aZ a),(5,aB.aD (bd.one (ay 22 5 C))),(8,dX 5 A),(9,aZ (A.length:Int)),(10,aZ b)] []
theorem alH(h:ak [.i A b (bu c a d e f),.b (a==g) true,.g C [(bu c a d e f)] 40,.h [(bu c a d e f)],.u b]):
 bb (az f182 0) (ww A g b C) .normal (ww A g (b+1) (C++[(bu c a d e f)])):=
 h.a' [10,9,8,1,5] []
theorem alI(h:ak [.i A a (bu d c e f g),.b (c==b) false,.u a]):
 bb (az f182 0) (ww A b a C) .normal (ww A b (a+1) C):=
 h.a' [10,9,8,1,5] []
def Rh(A:ai):aE:=bi 25 [(5,aB.aD (bd.one (ay 22 5 A)))] []
theorem alJ(h:ak [.f A a false]):
 bb (az f182 0) (ww A b a C) (.exit 0) (Rh C):=
 h.a' [5] []
theorem alK(h:ak [.l [(5,22,5)] [10,9,8,1,5] [] (az f182 0) (ww A a 0 []) (.exit 0) (Rh C)]):
 aK 182 [a7 5 A,al a] [a7 5 C]:=
 h.of
theorem alL(h:ak [.r 103 [.agg (cl A a b C E F G)] [a7 5 H],.r 182 [a7 5 H,al c] [a7 5 aw]]):
 aK 115 [.agg (cl A a b C E F G),al c] [a7 5 aw]:=
 h.of
def wx(A C E F G H aw K:ai)(a b:Int):aE:=bi 21 [(1,aZ a),(2,aS 2),(5,aZ b)] [(2,[.J .free 5 A,.J .free 5 C,.J .free 5 E,.J .free 4 F,.J .free 1 G,.J .free 1 H,.J .free 1 aw,.J .free 2 K])]
def Jp(q:Bool):aE:=bi 21 [(4,.aD (.one (.bg q)))] []
theorem alM(h:ak [.i A c [I a,B q],.b (a==b) true]):
 bb (az f213 0) (wx C E F G H aw K A b c) .ret (Jp true):=
 h.a' [4] []
theorem alN(h:ak [.i A a [I c,B q],.b (c==b) false,.u a]):
 bb (az f213 0) (wx C E F G H aw K A b a) .normal (wx C E F G H aw K A b (a+1)):=
 h.a' [5,2,1] [2]
def Ri:aE:=bi 21 [] []
theorem alO(h:ak [.f A a false]):
 bb (az f213 0) (wx C E F G H aw K A b a) (.exit 0) Ri:=
 h.a' [] []
theorem ald(h:ak [.l [] [5,2,1] [2] (az f213 0) (wx A C E F G H aw K a 0) .ret (Jp q)]):
 aK 213 [.agg (bz A C E F G H aw K),al a] [aI q]:=
 h.of
theorem ale(h:ak [.l [] [5,2,1] [2] (az f213 0) (wx A C E F G H aw K a 0) (.exit 0) Ri]):
 aK 213 [.agg (bz A C E F G H aw K),al a] [aI false]:=
 h.of
theorem alf{A:ai}{g1:Nat}{b6:List D}{a:Int}(h:ak [.r 339 [a7 2 A,.one (.cl g1 b6)] [al a]]):
 aK 308 [a7 2 A,.one (.cl g1 b6)] [aI (decide (a>=0))]:=
 h.of
def wy(A:ai)(g1:Nat)(b6:List D)(a:Int):aE:=bi 19 [(0,dX 2 A),(1,.aD (.one (.fd (D.cl g1 b6)))),(7,aZ (A.length:Int)),(8,aZ a)] []
def Jq(a:Int):aE:=bi 19 [(4,aZ a)] []
theorem alg{A:ai}{g1:Nat}{b6:List D}{a b c:Int}{q:Bool}(h:ak [.i A a [I b,I c],.p (k4 prog g1=true),.r g1 ([.agg [I b,I c]]++List.map .one b6) [aI q],.b q true]):
 bb (az f339 0) (wy A g1 b6 a) .ret (Jq a):=
 h.a' [4] []
theorem alh{A:ai}{g1:Nat}{b6:List D}{a b c:Int}{q:Bool}(h:ak [.i A a [I b,I c],.p (k4 prog g1=true),.r g1 ([.agg [I b,I c]]++List.map .one b6) [aI q],.b q false,.u a]):
 bb (az f339 0) (wy A g1 b6 a) .normal (wy A g1 b6 (a+1)):=
 h.a' [8,7,1,0] []
def Rj:aE:=bi 19 [] []
theorem ali{A:ai}{g1:Nat}{b6:List D}{a:Int}(h:ak [.f A a false]):
 bb (az f339 0) (wy A g1 b6 a) (.exit 0) Rj:=
 h.a' [] []
theorem alj{A:ai}{g1:Nat}{b6:List D}{a:Int}(h:ak [.l [] [8,7,1,0] [] (az f339 0) (wy A g1 b6 0) .ret (Jq a)]):
 aK 339 [a7 2 A,.one (.cl g1 b6)] [al a]:=
 h.of
theorem alk{A:ai}{g1:Nat}{b6:List D}(h:ak [.l [] [8,7,1,0] [] (az f339 0) (wy A g1 b6 0) (.exit 0) Rj]):
 aK 339 [a7 2 A,.one (.cl g1 b6)] [al (-1)]:=
 h.of
def wz(A:ai)(a b c:Int):aE:=bi 19 [(0,dX 2 A),(3,aS 3),(7,aZ (A.length:Int)),(8,aZ c)] [(3,[aq a,aq b])]
def Jr(a:Int):aE:=bi 19 [(4,aZ a)] []
theorem alm(h:ak [.i A a [I d,I e],.b (b==d&&c==e) true]):
 bb (az f340 0) (wz A b c a) .ret (Jr a):=
 h.a' [4] []
theorem aln(h:ak [.i A a [I d,I e],.b (b==d&&c==e) false,.u a]):
 bb (az f340 0) (wz A b c a) .normal (wz A b c (a+1)):=
 h.a' [8,7,3,0] [3]
def Rk:aE:=bi 19 [] []
theorem amP(h:ak [.f A a false]):
 bb (az f340 0) (wz A b c a) (.exit 0) Rk:=
 h.a' [] []
theorem amQ(h:ak [.l [] [8,7,3,0] [3] (az f340 0) (wz A a b 0) .ret (Jr c)]):
 aK 340 [a7 2 A,.agg [I a,I b]] [al c]:=
 h.of
theorem amR(h:ak [.l [] [8,7,3,0] [3] (az f340 0) (wz A a b 0) (.exit 0) Rk]):
 aK 340 [a7 2 A,.agg [I a,I b]] [al (-1)]:=
 h.of
theorem amS(h:ak [.r 340 [a7 2 A,.agg [I a,I b]] [al c]]):
 aK 311 [a7 2 A,.agg [I a,I b]] [aI (decide (c>=0))]:=
 h.of
theorem amT(h:ak [.b (decide (a<=c)) true]):
 aK 241 [.agg [I a,I b],.agg [I c,I d]] [aI (decide (b<=d))]:=
 h.of
theorem amU(h:ak [.b (decide (a<=b)) false]):
 aK 241 [.agg [I a,I c],.agg [I b,I d]] [aI false]:=
 h.of
theorem amV(h:ak [.b (decide (a<=c)) true]):
 aK 310 [.agg [I a,I b],.agg [I c,I d]] [aI (decide (b<=d))]:=
 h.of
theorem amW(h:ak [.b (decide (a<=b)) false]):
 aK 310 [.agg [I a,I c],.agg [I b,I d]] [aI false]:=
 h.of
def oM(A:ai)(a:Int)(C:ai):aE:=bi 98 [(0,dX 2 A),(3,aB.aD (bd.one (ay 3 2 C))),(4,aZ a)] []
def ru(A:ai)(a:Int)(C:ai)(b:Int)(q:Bool):aE:=bi 98 [(0,dX 2 A),(3,aB.aD (bd.one (ay 3 2 C))),(4,aZ a),(5,.aD (.one (.bg q))),(6,aZ b)] []
theorem amX(h:ak [.f A a true,.b q true,.x A a [I c,I d],.x A b [I e,I f],.b (c==e&&d==f) true,.u a]):
 bb (az f240 1) (ru A b C a q) .normal (ru A b C (a+1) true):=
 h.a' [6,0,5,4,3] []
theorem amY(h:ak [.f A a true,.b r true,.x A a [I f,I g],.x A b [I i,I j],.b (f==i&&g==j) false,.x A a [I k,I c],.x A b [I d,I e],.r 241 [.agg [I k,I c],.agg [I d,I e]] [aI q],.u a]):
 bb (az f240 1) (ru A b C a r) .normal (ru A b C (a+1) !q):=
 h.a' [6,0,5,4,3] []
theorem amZ(h:ak [.f A a true,.b q false,.u a]):
 bb (az f240 1) (ru A b C a q) .normal (ru A b C (a+1) false):=
 h.a' [6,0,5,4,3] []
def H4(A:ai)(a:Int)(C:ai)(q:Bool):aE:=bi 98 [(0,dX 2 A),(3,aB.aD (bd.one (ay 3 2 C))),(4,aZ a),(5,.aD (.one (.bg q)))] []
theorem am0(h:ak [.f A b false]):
 bb (az f240 1) (ru A a C b q) (.exit 2) (H4 A a C q):=
 h.a' [5,4,0,3] []
def Vw(A:ai)(a:Int)(W:Code)(C:ai)(q:Bool)(l:List O):List O:=.f A a true::.l [] [6,0,5,4,3] [] W (ru A a C 0 true) (.exit 2) (H4 A a C q)::l
theorem am1(h:ak (Vw A a (az f240 1) C q [.n q true,.u a])):
 bb (az f240 0) (oM A a C) .normal (oM A (a+1) C):=
 h.lu [(3,3,2)] [4,0,3] []
def vU(A:ai)(a:Int)(C:ai)(b:Int):aE:=bi 98 [(0,dX 2 A),(3,aB.aD (bd.one (ay 3 2 C))),(4,aZ a),(7,aZ b)] []
theorem am2(h:ak [.i C a [I c,I d],.x A b [I e,I f],.r 314 [.agg [I c,I d],.agg [I e,I f]] [al g],.b (decide (g<0)) true,.u a]):
 bb (az f240 2) (vU A b C a) .normal (vU A b C (a+1)):=
 h.a' [7,3,0,4] []
def Av(A:ai)(a:Int)(C:ai)(b:Int):aE:=bi 98 [(0,dX 2 A),(3,aB.aD (bd.one (ay 3 2 C))),(4,aZ a),(7,aZ b)] []
theorem am3(h:ak [.i C b [I c,I d],.x A a [I e,I f],.r 314 [.agg [I c,I d],.agg [I e,I f]] [al g],.b (decide (g<0)) false]):
 bb (az f240 2) (vU A a C b) (.exit 4) (Av A a C b):=
 h.a' [7,3,0,4] []
theorem am4(h:ak [.f A a false]):
 bb (az f240 2) (vU C b A a) (.exit 4) (Av C b A a):=
 h.a' [7,3,0,4] []
def L6(A:ai)(a:Int)(W:Code)(C:ai)(q:Bool)(j8:Code)(b:Int)(l:List O):List O:=Vw A a W C q (.n q false::.l [] [7,3,0,4] [] j8 (vU A a C 0) (.exit 4) (Av A a C b)::l)
theorem am5(h:ak (L6 A a (az f240 1) C q (az f240 2) b [.i C b [I c,I d],.x A a [I e,I f],.b (c==e&&d==f) true,.u a])):
 bb (az f240 0) (oM A a C) .normal (oM A (a+1) C):=
 h.lu [(3,3,2)] [4,0,3] []
theorem am6(h:ak (L6 C b (az f240 1) A q (az f240 2) a [.i A a [I e,I f],.x C b [I g,I i],.b (e==g&&f==i) false,.p ((0:Int)<=none.getD 0),.p (none.getD 0<=(some a).getD (A.length:Int)),.p ((some a).getD (A.length:Int)<=(A.length:Int)),.p ((([]:ai).length+(List.take (((some a).getD (A.length:Int)).toNat-0) (List.drop 0 A)).length)*16<=140737488355328),.p (([]:ai).length+(List.take (((some a).getD (A.length:Int)).toNat-0) (List.drop 0 A)).length<=9223372036854775807),.p (Flat (List.take (((some a).getD (A.length:Int)).toNat-0) (List.drop 0 A))),.x C b [I d,I c],.p ((([]++List.take (((some a).getD (A.length:Int)).toNat-0) (List.drop 0 A)).length+[[I d,I c]].length)*16<=140737488355328),.p (([]++List.take (((some a).getD (A.length:Int)).toNat-0) (List.drop 0 A)).length+[[I d,I c]].length<=9223372036854775807),.h [[I d,I c]],.p (0<=(some a).getD 0),.p ((some a).getD 0<=none.getD (A.length:Int)),.p (none.getD (A.length:Int)<=(A.length:Int)),.p ((([]++List.take (((some a).getD (A.length:Int)).toNat-0) (List.drop 0 A)++[[I d,I c]]).length+(List.take (A.length-((some a).getD 0).toNat) (List.drop ((some a).getD 0).toNat A)).length)*16<=140737488355328),.p (([]++List.take (((some a).getD (A.length:Int)).toNat-0) (List.drop 0 A)++[[I d,I c]]).length+(List.take (A.length-((some a).getD 0).toNat) (List.drop ((some a).getD 0).toNat A)).length<=9223372036854775807),.p (Flat (List.take (A.length-((some a).getD 0).toNat) (List.drop ((some a).getD 0).toNat A))),.u b])):
 bb (az f240 0) (oM C b A) .normal (oM C (b+1) ([]++List.take (((some a).getD (A.length:Int)).toNat-0) (List.drop 0 A)++[[I d,I c]]++List.take (A.length-((some a).getD 0).toNat) (List.drop ((some a).getD 0).toNat A))):=
 h.lu [(3,3,2)] [4,0,3] []
theorem am7(h:ak (L6 C b (az f240 1) A q (az f240 2) a [.f A a false,.p ((0:Int)<=none.getD 0),.p (none.getD 0<=(some a).getD (A.length:Int)),.p ((some a).getD (A.length:Int)<=(A.length:Int)),.p ((([]:ai).length+(List.take (((some a).getD (A.length:Int)).toNat-0) (List.drop 0 A)).length)*16<=140737488355328),.p (([]:ai).length+(List.take (((some a).getD (A.length:Int)).toNat-0) (List.drop 0 A)).length<=9223372036854775807),.p (Flat (List.take (((some a).getD (A.length:Int)).toNat-0) (List.drop 0 A))),.x C b [I c,I d],.p ((([]++List.take (((some a).getD (A.length:Int)).toNat-0) (List.drop 0 A)).length+[[I c,I d]].length)*16<=140737488355328),.p (([]++List.take (((some a).getD (A.length:Int)).toNat-0) (List.drop 0 A)).length+[[I c,I d]].length<=9223372036854775807),.h [[I c,I d]],.p (0<=(some a).getD 0),.p ((some a).getD 0<=none.getD (A.length:Int)),.p (none.getD (A.length:Int)<=(A.length:Int)),.p ((([]++List.take (((some a).getD (A.length:Int)).toNat-0) (List.drop 0 A)++[[I c,I d]]).length+(List.take (A.length-((some a).getD 0).toNat) (List.drop ((some a).getD 0).toNat A)).length)*16<=140737488355328),.p (([]++List.take (((some a).getD (A.length:Int)).toNat-0) (List.drop 0 A)++[[I c,I d]]).length+(List.take (A.length-((some a).getD 0).toNat) (List.drop ((some a).getD 0).toNat A)).length<=9223372036854775807),.p (Flat (List.take (A.length-((some a).getD 0).toNat) (List.drop ((some a).getD 0).toNat A))),.u b])):
 bb (az f240 0) (oM C b A) .normal (oM C (b+1) ([]++List.take (((some a).getD (A.length:Int)).toNat-0) (List.drop 0 A)++[[I c,I d]]++List.take (A.length-((some a).getD 0).toNat) (List.drop ((some a).getD 0).toNat A))):=
 h.lu [(3,3,2)] [4,0,3] []
def Rl(A:ai):aE:=bi 98 [(3,aB.aD (bd.one (ay 3 2 A)))] []
theorem am8(h:ak [.f A a false]):
 bb (az f240 0) (oM A a C) (.exit 0) (Rl C):=
 h.a' [3] []
theorem am9(h:ak [.l [(3,3,2)] [4,0,3] [] (az f240 0) (oM A 0 []) (.exit 0) (Rl C)]):
 aK 240 [a7 2 A] [a7 2 C]:=
 h.of
def sV(A:ai)(a:Int)(C:ai):aE:=bi 32 [(0,dX 2 A),(3,aB.aD (bd.one (ay 27 2 C))),(7,dX 2 A),(8,aZ (A.length:Int)),(9,aZ a)] []
def Mn(A:ai)(a b c:Int)(q:Bool)(l:List O):List O:=.i A a [I b,I c]::.r 308 [a7 2 A,.one (.cl 309 [D.ptr [I b,I c]])] [aI q]::l
theorem ana(h:ak (Mn A c a b q [.n q true,.r 311 [a7 2 C,.agg [I a,I b]] [aI r],.n r true,.g C [[I a,I b]] 16,.h [[I a,I b]],.u c])):
 bb (az f239 0) (sV A c C) .normal (sV A (c+1) (C++[[I a,I b]])):=
 h.a' [9,8,7,0,3] []
theorem anb(h:ak (Mn A a b c q [.n q true,.r 311 [a7 2 C,.agg [I b,I c]] [aI r],.n r false,.u a])):
 bb (az f239 0) (sV A a C) .normal (sV A (a+1) C):=
 h.a' [9,8,7,0,3] []
theorem anc(h:ak (Mn A a b c q [.n q false,.u a])):
 bb (az f239 0) (sV A a C) .normal (sV A (a+1) C):=
 h.a' [9,8,7,0,3] []
def Rm(A:ai):aE:=bi 32 [(3,aB.aD (bd.one (ay 27 2 A)))] []
theorem ane(h:ak [.f A a false]):
 bb (az f239 0) (sV A a C) (.exit 0) (Rm C):=
 h.a' [3] []
theorem anf(h:ak [.l [(3,27,2)] [9,8,7,0,3] [] (az f239 0) (sV C 0 []) (.exit 0) (Rm E),.a (.rT [[some (some A)],[none]] 0 [] []),.p (nm prog 312 [GA.one (eR.eM 2 E (some A)),GA.one (eR.ro (D.cl 313 []))] [])]):
 aK 239 [a7 2 C] [a7 2 A]:=
 h.of
theorem amp(h:ak [.b (!(a==c&&b==d)) true,.r 310 [.agg [I a,I b],.agg [I c,I d]] [aI q]]):
 aK 309 [.agg [I a,I b],.one (.ptr [I c,I d])] [aI q]:=
 h.of
theorem amq(h:ak [.b (!(a==c&&b==d)) false]):
 aK 309 [.agg [I a,I b],.one (.ptr [I c,I d])] [aI false]:=
 h.of
def yv(A:ai)(a b:Int)(C E F G:ai)(c:Int)(H:ai):aE:=bi 41 [(1,aS 1),(3,aB.aD (bd.one (ay 7 2 []))),(4,aB.aD (bd.one (ay 100000 5 H))),(5,aZ c)] [(1,[.J .free 4 A,aq a,aq b,.J .free 8 C,.J .free 6 E,.J .free 5 F,.J .free 3 G])]
theorem amr(h:ak [.i C a (bz K L A M N Q R S),.g E A 40,.h A,.u a]):
 bb (az f110 0) (yv F b c C G H aw a E) .normal (yv F b c C G H aw (a+1) (E++A)):=
 h.a' [5,1,4,3] [1]
def Js(A:ai):aE:=bi 41 [(3,aB.aD (bd.one (ay 7 2 []))),(4,aB.aD (bd.one (ay 100000 5 A)))] []
theorem ams(h:ak [.f A a false]):
 bb (az f110 0) (yv E b c A F G H a C) (.exit 0) (Js C):=
 h.a' [4,3] []
def AX(A:ai)(a:Int)(C:ai):aE:=bi 41 [(3,aB.aD (bd.one (ay 7 2 C))),(4,aB.aD (bd.one (ay 100000 5 A))),(6,aZ a)] []
theorem amt(h:ak [.i C c (bu d a b e f),.g A [[I a,I b]] 16,.h [[I a,I b]],.u c]):
 bb (az f110 1) (AX C c A) .normal (AX C (c+1) (A++[[I a,I b]])):=
 h.a' [6,4,3] []
def Rn(A:ai):aE:=bi 41 [(3,aB.aD (bd.one (ay 7 2 A)))] []
theorem amu(h:ak [.f C a false]):
 bb (az f110 1) (AX C a A) (.exit 2) (Rn A):=
 h.a' [3] []
theorem amv(h:ak [.r 38 [.agg (cl A a b C E F G)] [a7 5 aw],.l [] [5,1,4,3] [1] (az f110 0) (yv A a b C E F G 0 aw) (.exit 0) (Js K),.l [] [6,4,3] [] (az f110 1) (AX K 0 []) (.exit 2) (Rn L),.r 240 [a7 2 L] [a7 2 H]]):
 aK 110 [.agg (cl A a b C E F G)] [a7 2 H]:=
 h.of
def yw(A:ai)(a:Int)(C:ai):aE:=bi 37 [(3,aB.aD (bd.one (ay 110000 5 C))),(12,dX 8 A),(13,aZ (A.length:Int)),(14,aZ a)] []
theorem amw(h:ak [.i C a (bz F G A H aw K L M),.g E A 40,.h A,.u a]):
 bb (az f108 0) (yw C a E) .normal (yw C (a+1) (E++A)):=
 h.a' [14,13,12,3] []
def Jt(A:ai):aE:=bi 37 [(3,aB.aD (bd.one (ay 110000 5 A)))] []
theorem amx(h:ak [.f A a false]):
 bb (az f108 0) (yw A a C) (.exit 0) (Jt C):=
 h.a' [3] []
def AY(A:ai)(a:Int)(C:ai):aE:=bi 37 [(6,aB.aD (bd.one (ay 33 2 C))),(23,aB.aD (bd.one (ay 110000 5 A))),(24,aZ (A.length:Int)),(25,aZ a)] []
theorem amy(h:ak [.i C c (bu d a b e f),.g A [[I a,I b]] 16,.h [[I a,I b]],.u c]):
 bb (az f108 1) (AY C c A) .normal (AY C (c+1) (A++[[I a,I b]])):=
 h.a' [25,24,23,6] []
def Ro(A:ai):aE:=bi 37 [(6,aB.aD (bd.one (ay 33 2 A)))] []
theorem amz(h:ak [.f C a false]):
 bb (az f108 1) (AY C a A) (.exit 2) (Ro A):=
 h.a' [6] []
theorem amA(h:ak [.r 103 [.agg (cl C a b A F G H)] [a7 5 aw],.l [] [14,13,12,3] [] (az f108 0) (yw A 0 aw) (.exit 0) (Jt K),.l [(6,33,2)] [25,24,23,6] [] (az f108 1) (AY K 0 []) (.exit 2) (Ro L),.r 239 [a7 2 L] [a7 2 E]]):
 aK 108 [.agg (cl C a b A F G H)] [a7 2 E]:=
 h.of
def wA(A:ai)(a b c:Int):aE:=bi 18 [(0,dX 2 A),(3,aS 3),(5,aZ c)] [(3,[aq a,aq b])]
def Ju(q:Bool):aE:=bi 18 [(4,.aD (.one (.bg q)))] []
theorem amB(h:ak [.i A c [I d,I e],.r 241 [.agg [I d,I e],.agg [I a,I b]] [aI q],.b q true]):
 bb (az f111 0) (wA A a b c) .ret (Ju true):=
 h.a' [4] []
theorem amC(h:ak [.i A a [I d,I e],.r 241 [.agg [I d,I e],.agg [I b,I c]] [aI q],.b q false,.u a]):
 bb (az f111 0) (wA A b c a) .normal (wA A b c (a+1)):=
 h.a' [5,0,3] [3]
def Rp:aE:=bi 18 [] []
theorem amD(h:ak [.f A a false]):
 bb (az f111 0) (wA A b c a) (.exit 0) Rp:=
 h.a' [] []
theorem amE(h:ak [.l [] [5,0,3] [3] (az f111 0) (wA A a b 0) .ret (Ju q)]):
 aK 111 [a7 2 A,.agg [I a,I b]] [aI q]:=
 h.of
theorem amF(h:ak [.l [] [5,0,3] [3] (az f111 0) (wA A a b 0) (.exit 0) Rp]):
 aK 111 [a7 2 A,.agg [I a,I b]] [aI false]:=
 h.of
end Go.Proofs.YtdchjefneblpgaaGreat
namespace Go.Proofs.YtdchjefneblpgaaGreat
open Go.Sx Go.RowKit Go.Proofs.Tryz
variable {a b c d e f g i j k l m n o p a0 cf dg d0 bE f0 : Int} {A C E F G H aw K L M N Q R S bO V X Y Z fu kt lj lR : ai} {q r : Bool}
def Fz(A:ai)(l:List O):List O:=.g ([]:ai) A 32::.h A::l
theorem amG(h:ak (Fz A [])):
 aK 297 [a7 4 A] [a7 4 ([]++A)]:=
 h.of
theorem amH(h:ak [.r 336 [a7 4 A,.agg [I a,I b,I c,I d]] [aI q]]):
 aK 303 [a7 4 A,.agg [I a,I b,I c,I d]] [aI q]:=
 h.of
theorem amI(h:ak [.r 335 [.one (.J 1 [[I b],[I a],[I c],[I d]]),.one (.J 1 [[I f],[I e],[I g],[I i]])] [al j]]):
 aK 304 [.agg [I a,I b,I c,I d],.agg [I e,I f,I g,I i]] [al j]:=
 h.of
theorem amJ(h:ak [.r 365 [a7 4 A,.agg [I a,I b,I c,I d]] [al e]]):
 aK 336 [a7 4 A,.agg [I a,I b,I c,I d]] [aI (decide (e>=0))]:=
 h.of
def wB(A:ai)(a b c d e:Int):aE:=bi 19 [(0,dX 4 A),(3,aS 3),(7,aZ (A.length:Int)),(8,aZ e)] [(3,[aq a,aq b,aq c,aq d])]
def IW(a:Int):aE:=bi 19 [(4,aZ a)] []
def hN(A:ai)(a b c d e:Int)(l:List O):List O:=.i A a [I b,I c,I d,I e]::l
theorem amK(h:ak (hN A a f g i j [.b (b==f&&(c==g&&(d==i&&e==j))) true])):
 bb (az f365 0) (wB A b c d e a) .ret (IW a):=
 h.a' [4] []
theorem amL(h:ak (hN A a f g i j [.b (b==f&&(c==g&&(d==i&&e==j))) false,.u a])):
 bb (az f365 0) (wB A b c d e a) .normal (wB A b c d e (a+1)):=
 h.a' [8,7,3,0] [3]
def Rq:aE:=bi 19 [] []
theorem amM(h:ak [.f A a false]):
 bb (az f365 0) (wB A b c d e a) (.exit 0) Rq:=
 h.a' [] []
theorem amN(h:ak [.l [] [8,7,3,0] [3] (az f365 0) (wB A a b c d 0) .ret (IW e)]):
 aK 365 [a7 4 A,.agg [I a,I b,I c,I d]] [al e]:=
 h.of
theorem amO(h:ak [.l [] [8,7,3,0] [3] (az f365 0) (wB A a b c d 0) (.exit 0) Rq]):
 aK 365 [a7 4 A,.agg [I a,I b,I c,I d]] [al (-1)]:=
 h.of
theorem amf(h:ak [.r 297 [a7 4 A] [a7 4 C],.r 303 [a7 4 A,.agg [I a,I b,I c,I d]] [aI q],.b q true]):
 aK 237 [a7 4 A,.agg [I a,I b,I c,I d]] [a7 4 C]:=
 h.of
def wC(A:ai)(a b c d:Int)(C:ai)(e:Int):aE:=bi 33 [(0,dX 4 A),(3,aS 3),(5,aB.aD (bd.one (ay 90000 4 C))),(6,aZ e)] [(3,[aq a,aq b,aq c,aq d])]
theorem amg(h:ak (hN A a j k f g [.r 304 [.agg [I j,I k,I f,I g],.agg [I b,I c,I d,I e]] [al i],.b (decide (i<0)) true,.u a])):
 bb (az f237 0) (wC A b c d e C a) .normal (wC A b c d e C (a+1)):=
 h.a' [6,0,3,5] [3]
def AZ(a b c d:Int)(A:ai)(e:Int):aE:=bi 33 [(3,aS 3),(5,aB.aD (bd.one (ay 90000 4 A))),(6,aZ e)] [(3,[aq a,aq b,aq c,aq d])]
theorem amh(h:ak (hN A e j k f g [.r 304 [.agg [I j,I k,I f,I g],.agg [I a,I b,I c,I d]] [al i],.b (decide (i<0)) false])):
 bb (az f237 0) (wC A a b c d C e) (.exit 0) (AZ a b c d C e):=
 h.a' [5,6,3] [3]
theorem ami(h:ak [.f A a false]):
 bb (az f237 0) (wC A b c d e C a) (.exit 0) (AZ b c d e C a):=
 h.a' [5,6,3] [3]
theorem amj(h:ak [.r 297 [a7 4 A] [a7 4 C],.r 303 [a7 4 A,.agg [I a,I b,I c,I d]] [aI q],.b q false,.l [] [6,0,3,5] [3] (az f237 0) (wC A a b c d C 0) (.exit 0) (AZ a b c d C e),.a (.rT [[some none],[none],[some none]] 0 [] [a7 4 E]),.p (nm prog 305 [GA.one (eR.eM 4 C none),GA.one (eR.ro (I e)),GA.one (eR.eM 4 [[I a,I b,I c,I d]] none)] [a7 4 E])]):
 aK 237 [a7 4 A,.agg [I a,I b,I c,I d]] [a7 4 E]:=
 h.of
theorem Rr(h:ak [.v ((A.length:Int)-1),.r 190 [al a,al 0,al ((A.length:Int)-1)] [aI q]]):
 aK 250 [.agg (bS A b c),al a] [aI q]:=
 h.of
def sW(A:ai)(a:Int)(C E:ai)(b c:Int):aE:=bi 34 [(2,aS 2),(5,aB.aD (bd.one (ay 31 4 C))),(8,dX 4 A),(9,aZ (A.length:Int)),(10,aZ a)] [(2,[.J .free 4 E,aq b,aq c])]
theorem amk(h:ak (hN C e a b c d [.r 250 [.agg (bS A f g),al a] [aI q],.b q true,.x A a (cz i j k F),.b (i==8) true,.g E [[I a,I b,I c,I d]] 32,.h [[I a,I b,I c,I d]],.u e])):
 bb (az f134 0) (sW C e E A f g) .normal (sW C (e+1) (E++[[I a,I b,I c,I d]]) A f g):=
 h.a' [10,9,8,2,5] [2]
theorem aml(h:ak (hN C a d f g i [.r 250 [.agg (bS A b c),al d] [aI q],.b q true,.x A d (cz e j k F),.b (e==8) false,.u a])):
 bb (az f134 0) (sW C a E A b c) .normal (sW C (a+1) E A b c):=
 h.a' [10,9,8,2,5] [2]
theorem amm(h:ak (hN A a d e f g [.r 250 [.agg (bS C b c),al d] [aI q],.b q false,.u a])):
 bb (az f134 0) (sW A a E C b c) .normal (sW A (a+1) E C b c):=
 h.a' [10,9,8,2,5] [2]
def Rs(A:ai):aE:=bi 34 [(5,aB.aD (bd.one (ay 31 4 A)))] []
theorem amn(h:ak [.f A a false]):
 bb (az f134 0) (sW A a C E b c) (.exit 0) (Rs C):=
 h.a' [5] []
theorem amo(h:ak [.l [(5,31,4)] [10,9,8,2,5] [2] (az f134 0) (sW C 0 [] A a b) (.exit 0) (Rs E)]):
 aK 134 [.agg (bS A a b),a7 4 C] [a7 4 E]:=
 h.of
def A0(A:ai)(a:Int)(C:ai):aE:=bi 28 [(3,aB.aD (bd.one (ay 250000 4 C))),(9,dX 8 A),(10,aZ (A.length:Int)),(11,aZ a)] []
def yx(A:ai)(a:Int)(C:ai)(b:Int)(E:ai):aE:=bi 28 [(3,aB.aD (bd.one (ay 250000 4 E))),(9,dX 8 A),(10,aZ (A.length:Int)),(11,aZ a),(16,dX 4 C),(17,aZ (C.length:Int)),(18,aZ b)] []
theorem anS(h:ak (hN A a b c d e [.r 237 [a7 4 C,.agg [I b,I c,I d,I e]] [a7 4 E],.u a])):
 bb (az f104 1) (yx F f A a C) .normal (yx F f A (a+1) E):=
 h.a' [18,17,16,3,11,10,9] []
def IX(A:ai)(a:Int)(C:ai):aE:=bi 28 [(3,aB.aD (bd.one (ay 250000 4 C))),(9,dX 8 A),(10,aZ (A.length:Int)),(11,aZ a)] []
theorem anT(h:ak [.f A a false]):
 bb (az f104 1) (yx E b A a C) (.exit 2) (IX E b C):=
 h.a' [11,10,9,3] []
theorem anU(h:ak [.i A a (bz N G H C aw K L M),.l [] [18,17,16,3,11,10,9] [] (az f104 1) (yx A a C 0 F) (.exit 2) (IX A a E),.u a]):
 bb (az f104 0) (A0 A a F) .normal (A0 A (a+1) E):=
 h.a' [11,10,9,3] []
def Rt(A:ai):aE:=bi 28 [(3,aB.aD (bd.one (ay 250000 4 A)))] []
theorem anV(h:ak [.f A a false]):
 bb (az f104 0) (A0 A a C) (.exit 0) (Rt C):=
 h.a' [3] []
theorem anW(h:ak [.l [(3,250000,4)] [11,10,9,3] [] (az f104 0) (A0 A 0 []) (.exit 0) (Rt C)]):
 aK 104 [.agg (cl E a b A F G H)] [a7 4 C]:=
 h.of
def wD(a:Int)(A:ai)(b:Int)(C:ai):aE:=bi 28 [(1,aZ a),(5,aB.aD (bd.one (ay 25 4 C))),(12,aB.aD (bd.one (ay 130000 4 A))),(13,aZ (A.length:Int)),(14,aZ b)] []
theorem anX(h:ak (hN C b c a d e [.b (a==f) true,.g A [[I c,I a,I d,I e]] 32,.h [[I c,I a,I d,I e]],.u b])):
 bb (az f114 0) (wD f C b A) .normal (wD f C (b+1) (A++[[I c,I a,I d,I e]])):=
 h.a' [14,13,12,1,5] []
theorem anY(h:ak (hN A a d c e f [.b (c==b) false,.u a])):
 bb (az f114 0) (wD b A a C) .normal (wD b A (a+1) C):=
 h.a' [14,13,12,1,5] []
def Ru(A:ai):aE:=bi 28 [(5,aB.aD (bd.one (ay 25 4 A)))] []
theorem anZ(h:ak [.f C a false]):
 bb (az f114 0) (wD b C a A) (.exit 0) (Ru A):=
 h.a' [5] []
theorem an0(h:ak [.r 104 [.agg (cl A a b E F G H)] [a7 4 aw],.r 134 [.agg (bS A a b),a7 4 aw] [a7 4 K],.l [(5,25,4)] [14,13,12,1,5] [] (az f114 0) (wD c K 0 []) (.exit 0) (Ru C)]):
 aK 114 [.agg (cl A a b E F G H),al c] [a7 4 C]:=
 h.of
def wE(a b c d e:Int):aE:=bi 41 [(5,.aD (.one (.J (.own 27) 1 [[I a],[I b],[I c],[I d]]))),(6,aZ e)] []
def IY(a:Int):aE:=bi 41 [(4,aZ a)] []
theorem an1(h:ak (FD a d e b c f [.b (f != 0) true,.x [[I d],[I e],[I b],[I c]] a [I g]])):
 bb (az f307 0) (wE d e b c a) .ret (IY g):=
 h.a' [4] []
theorem an2(h:ak (FD a d e b c f [.b (f != 0) false,.u a])):
 bb (az f307 0) (wE d e b c a) .normal (wE d e b c (a+1)):=
 h.a' [6,5] []
def Rv:aE:=bi 41 [] []
theorem an3(h:ak [.b (decide (a<4)) false]):
 bb (az f307 0) (wE d e b c a) (.exit 0) Rv:=
 h.a' [] []
theorem an4(h:ak [.r 322 [al b,al j] [al m],.r 322 [al a,al i] [al n],.r 322 [al f,al k] [al c],.r 322 [al g,al l] [al d],.l [] [6,5] [] (az f307 0) (wE m n c d 0) .ret (IY e)]):
 aK 307 [.agg [I a,I b,I f,I g],.agg [I i,I j,I k,I l]] [al e]:=
 h.of
theorem an5(h:ak [.r 322 [al b,al i] [al l],.r 322 [al a,al g] [al m],.r 322 [al e,al j] [al c],.r 322 [al f,al k] [al d],.l [] [6,5] [] (az f307 0) (wE l m c d 0) (.exit 0) Rv]):
 aK 307 [.agg [I a,I b,I e,I f],.agg [I g,I i,I j,I k]] [al 0]:=
 h.of
def wF(A:ai)(a b c d e:Int):aE:=bi 18 [(0,dX 4 A),(3,aS 3),(5,aZ e)] [(3,[aq a,aq b,aq c,aq d])]
def IZ(q:Bool):aE:=bi 18 [(4,.aD (.one (.bg q)))] []
theorem an6(h:ak (hN A e f g i j [.b (f==a&&(g==b&&(i==c&&j==d))) true])):
 bb (az f306 0) (wF A a b c d e) .ret (IZ true):=
 h.a' [4] []
theorem an7(h:ak (hN A a f g i j [.b (f==b&&(g==c&&(i==d&&j==e))) false,.u a])):
 bb (az f306 0) (wF A b c d e a) .normal (wF A b c d e (a+1)):=
 h.a' [5,0,3] [3]
def Rw:aE:=bi 18 [] []
theorem an8(h:ak [.f A a false]):
 bb (az f306 0) (wF A b c d e a) (.exit 0) Rw:=
 h.a' [] []
theorem an9(h:ak [.l [] [5,0,3] [3] (az f306 0) (wF A a b c d 0) .ret (IZ q)]):
 aK 306 [a7 4 A,.agg [I a,I b,I c,I d]] [aI q]:=
 h.of
theorem aoa(h:ak [.l [] [5,0,3] [3] (az f306 0) (wF A a b c d 0) (.exit 0) Rw]):
 aK 306 [a7 4 A,.agg [I a,I b,I c,I d]] [aI false]:=
 h.of
theorem aob(h:ak [.r 306 [a7 4 A,.agg [I a,I b,I c,I d]] [aI q],.b q true,.g ([]:ai) A 32,.h A]):
 aK 238 [a7 4 A,.agg [I a,I b,I c,I d]] [a7 4 ([]++A)]:=
 h.of
def wG(A:ai)(a b c d e:Int):aE:=bi 41 [(0,dX 4 A),(3,aS 3),(5,aZ e)] [(3,[aq a,aq b,aq c,aq d])]
theorem aoc(h:ak (hN A a i j k f [.r 307 [.agg [I i,I j,I k,I f],.agg [I b,I c,I d,I e]] [al g],.b (decide (g<0)) true,.u a])):
 bb (az f238 0) (wG A b c d e a) .normal (wG A b c d e (a+1)):=
 h.a' [5,0,3] [3]
def A1(A:ai)(a b c d e:Int):aE:=bi 41 [(0,dX 4 A),(3,aS 3),(5,aZ e)] [(3,[aq a,aq b,aq c,aq d])]
theorem aod(h:ak (hN A e i j k f [.r 307 [.agg [I i,I j,I k,I f],.agg [I a,I b,I c,I d]] [al g],.b (decide (g<0)) false])):
 bb (az f238 0) (wG A a b c d e) (.exit 0) (A1 A a b c d e):=
 h.a' [0,5,3] [3]
theorem aoe(h:ak [.f A a false]):
 bb (az f238 0) (wG A b c d e a) (.exit 0) (A1 A b c d e a):=
 h.a' [0,5,3] [3]
theorem aof(h:ak [.r 306 [a7 4 A,.agg [I b,I c,I d,I e]] [aI q],.b q false,.l [] [5,0,3] [3] (az f238 0) (wG A b c d e 0) (.exit 0) (A1 A b c d e a),.p ((0:Int)<=none.getD 0),.p (none.getD 0<=(some a).getD (A.length:Int)),.p ((some a).getD (A.length:Int)<=(A.length:Int)),.p ((([]:ai).length+(List.take (((some a).getD (A.length:Int)).toNat-0) (List.drop 0 A)).length)*32<=140737488355328),.p (([]:ai).length+(List.take (((some a).getD (A.length:Int)).toNat-0) (List.drop 0 A)).length<=9223372036854775807),.p (Flat (List.take (((some a).getD (A.length:Int)).toNat-0) (List.drop 0 A))),.p ((([]++List.take (((some a).getD (A.length:Int)).toNat-0) (List.drop 0 A)).length+[[I b,I c,I d,I e]].length)*32<=140737488355328),.p (([]++List.take (((some a).getD (A.length:Int)).toNat-0) (List.drop 0 A)).length+[[I b,I c,I d,I e]].length<=9223372036854775807),.h [[I b,I c,I d,I e]],.p (0<=(some a).getD 0),.p ((some a).getD 0<=none.getD (A.length:Int)),.p (none.getD (A.length:Int)<=(A.length:Int)),.p ((([]++List.take (((some a).getD (A.length:Int)).toNat-0) (List.drop 0 A)++[[I b,I c,I d,I e]]).length+(List.take (A.length-((some a).getD 0).toNat) (List.drop ((some a).getD 0).toNat A)).length)*32<=140737488355328),.p (([]++List.take (((some a).getD (A.length:Int)).toNat-0) (List.drop 0 A)++[[I b,I c,I d,I e]]).length+(List.take (A.length-((some a).getD 0).toNat) (List.drop ((some a).getD 0).toNat A)).length<=9223372036854775807),.p (Flat (List.take (A.length-((some a).getD 0).toNat) (List.drop ((some a).getD 0).toNat A)))]):
 aK 238 [a7 4 A,.agg [I b,I c,I d,I e]] [.one (.J 4 ([]++List.take (((some a).getD (A.length:Int)).toNat-0) (List.drop 0 A)++[[I b,I c,I d,I e]]++List.take (A.length-((some a).getD 0).toNat) (List.drop ((some a).getD 0).toNat A)))]:=
 h.of
theorem aog(h:ak [.v ((A.length:Int)-1),.r 168 [al a,al 0,al ((A.length:Int)-1)] [aI q],.n q true]):
 aK 249 [.agg (bS A b c),al a] [.agg (cz 0 0 0 []),aI false]:=
 h.of
theorem aoh(h:ak [.v ((A.length:Int)-1),.r 168 [al a,al 0,al ((A.length:Int)-1)] [aI q],.n q false,.x A a (cz b c d C),.g ([]:ai) C 8,.h C]):
 aK 249 [.agg (bS A e f),al a] [.agg (cz b c d ([]++C)),aI true]:=
 h.of
def sX(A:ai)(a:Int)(C E:ai)(b c:Int):aE:=bi 40 [(1,dX 4 A),(2,aS 2),(5,aB.aD (bd.one (ay 9 4 C))),(6,aZ a)] [(2,[.J .free 4 E,aq b,aq c])]
theorem anq(h:ak (hN A a j k l m [.r 249 [.agg (bS E f g),al j] [.agg (cz i n o F),aI q],.b q true,.b (i==8) true,.x A a [I b,I c,I d,I e],.g C [[I b,I c,I d,I e]] 32,.h [[I b,I c,I d,I e]],.u a])):
 bb (az f133 0) (sX A a C E f g) .normal (sX A (a+1) (C++[[I b,I c,I d,I e]]) E f g):=
 h.a' [6,1,2,5] [2]
theorem anr(h:ak (hN A a e f g i [.r 249 [.agg (bS C b c),al e] [.agg (cz d j k F),aI q],.b q true,.b (d==8) false,.u a])):
 bb (az f133 0) (sX A a E C b c) .normal (sX A (a+1) E C b c):=
 h.a' [6,1,2,5] [2]
theorem ant(h:ak (hN A a d e f g [.r 249 [.agg (bS C b c),al d] [.agg (cz i j k F),aI q],.b q false,.u a])):
 bb (az f133 0) (sX A a E C b c) .normal (sX A (a+1) E C b c):=
 h.a' [6,1,2,5] [2]
def Rx(A:ai):aE:=bi 40 [(5,aB.aD (bd.one (ay 9 4 A)))] []
theorem anu(h:ak [.f A a false]):
 bb (az f133 0) (sX A a C E b c) (.exit 0) (Rx C):=
 h.a' [5] []
theorem anv(h:ak [.l [] [6,1,2,5] [2] (az f133 0) (sX C 0 [] A a b) (.exit 0) (Rx E)]):
 aK 133 [.agg (bS A a b),a7 4 C] [a7 4 E]:=
 h.of
def A2(A:ai)(a b:Int)(C E F G:ai)(c:Int)(H:ai):aE:=bi 37 [(1,aS 1),(3,aB.aD (bd.one (ay 3 4 H))),(4,aZ c)] [(1,[.J .free 4 A,aq a,aq b,.J .free 8 C,.J .free 6 E,.J .free 5 F,.J .free 3 G])]
def yy(A:ai)(a b:Int)(C E F G:ai)(c d:Int)(H:ai):aE:=bi 37 [(1,aS 1),(3,aB.aD (bd.one (ay 3 4 H))),(4,aZ c),(5,aZ d)] [(1,[.J .free 4 A,aq a,aq b,.J .free 8 C,.J .free 6 E,.J .free 5 F,.J .free 3 G])]
theorem anw(h:ak [.x A b (bz M N Q F R S bO V),.f F a true,.x A b (bz X Y Z G fu kt lj lR),.x G a [I e,I f,I g,I i],.r 238 [a7 4 E,.agg [I e,I f,I g,I i]] [a7 4 H],.u a]):
 bb (az f105 1) (yy C c d A aw K L b a E) .normal (yy C c d A aw K L b (a+1) H):=
 h.lu [(3,3,4)] [5,1,4,3] [1]
def I0(A:ai)(a b:Int)(C E F G:ai)(c:Int)(H:ai):aE:=bi 37 [(1,aS 1),(3,aB.aD (bd.one (ay 3 4 H))),(4,aZ c)] [(1,[.J .free 4 A,aq a,aq b,.J .free 8 C,.J .free 6 E,.J .free 5 F,.J .free 3 G])]
theorem anx(h:ak [.x A a (bz K L M F N Q R S),.f F d false]):
 bb (az f105 1) (yy C b c A G H aw a d E) (.exit 2) (I0 C b c A G H aw a E):=
 h.a' [4,1,3] [1]
theorem anz(h:ak [.f A a true,.l [(3,3,4)] [5,1,4,3] [1] (az f105 1) (yy C b c A E F G a 0 H) (.exit 2) (I0 C b c A E F G a aw),.u a]):
 bb (az f105 0) (A2 C b c A E F G a H) .normal (A2 C b c A E F G (a+1) aw):=
 h.lu [(3,3,4)] [4,1,3] [1]
def Ry(A:ai):aE:=bi 37 [(3,aB.aD (bd.one (ay 3 4 A)))] []
theorem anA(h:ak [.f A a false]):
 bb (az f105 0) (A2 E b c A F G H a C) (.exit 0) (Ry C):=
 h.a' [3] []
theorem anB(h:ak [.l [(3,3,4)] [4,1,3] [1] (az f105 0) (A2 A a b C E F G 0 []) (.exit 0) (Ry H)]):
 aK 105 [.agg (cl A a b C E F G)] [a7 4 H]:=
 h.of
def wH(a:Int)(A:ai)(b:Int)(C:ai):aE:=bi 35 [(1,aZ a),(5,aB.aD (bd.one (ay 8 4 C))),(6,aB.aD (bd.one (ay 140000 4 A))),(7,aZ b)] []
theorem anC(h:ak (hN A a i g j k [.b (g==f) true,.x A a [I b,I c,I d,I e],.g C [[I b,I c,I d,I e]] 32,.h [[I b,I c,I d,I e]],.u a])):
 bb (az f20 0) (wH f A a C) .normal (wH f A (a+1) (C++[[I b,I c,I d,I e]])):=
 h.a' [7,6,1,5] []
theorem anD(h:ak (hN A a d c e f [.b (c==b) false,.u a])):
 bb (az f20 0) (wH b A a C) .normal (wH b A (a+1) C):=
 h.a' [7,6,1,5] []
def Rz(A:ai):aE:=bi 35 [(5,aB.aD (bd.one (ay 8 4 A)))] []
theorem anE(h:ak [.f C a false]):
 bb (az f20 0) (wH b C a A) (.exit 0) (Rz A):=
 h.a' [5] []
theorem anF(h:ak [.r 105 [.agg (cl A a b E F G H)] [a7 4 aw],.r 133 [.agg (bS A a b),a7 4 aw] [a7 4 K],.l [] [7,6,1,5] [] (az f20 0) (wH c K 0 []) (.exit 0) (Rz C)]):
 aK 20 [.agg (cl A a b E F G H),al c] [a7 4 C]:=
 h.of
def lz(A:ai)(a b c d:Int)(q:Bool)(e:Int):aE:=bi 54 [(0,dX 4 A),(1,aZ a),(2,aZ b),(3,aZ c),(10,aZ e),(11,.aD (.one (.bg q))),(12,aZ d)] []
theorem anG(h:ak (hN A a f g i e [.b (f==b) true,.b (g==c) true,.b (i==d) true,.n q true,.u a])):
 bb (az f324 0) (lz A b c d a q j) .normal (lz A b c d (a+1) true e):=
 h.a' [12,0,1,2,3,11,10] []
theorem anH(h:ak (hN A a g i j c [.b (g==b) true,.b (i==d) true,.b (j==e) true,.n q false,.b (decide (c<f)) true,.u a])):
 bb (az f324 0) (lz A b d e a q f) .normal (lz A b d e (a+1) true c):=
 h.a' [12,0,1,2,3,11,10] []
theorem anI(h:ak (hN A a g i j f [.b (g==b) true,.b (i==c) true,.b (j==d) true,.n q false,.b (decide (f<e)) false,.u a])):
 bb (az f324 0) (lz A b c d a q e) .normal (lz A b c d (a+1) q e):=
 h.a' [12,0,1,2,3,11,10] []
theorem anJ(h:ak (hN A a f g i j [.b (f==b) true,.b (g==c) true,.b (i==d) false,.u a])):
 bb (az f324 0) (lz A b c d a q e) .normal (lz A b c d (a+1) q e):=
 h.a' [12,0,1,2,3,11,10] []
theorem anK(h:ak (hN A a f g j i [.b (f==b) true,.b (g==c) false,.u a])):
 bb (az f324 0) (lz A b c d a q e) .normal (lz A b c d (a+1) q e):=
 h.a' [12,0,1,2,3,11,10] []
theorem anL(h:ak (hN A a f i j g [.b (f==b) false,.u a])):
 bb (az f324 0) (lz A b c d a q e) .normal (lz A b c d (a+1) q e):=
 h.a' [12,0,1,2,3,11,10] []
def RA(a:Int)(q:Bool):aE:=bi 54 [(10,aZ a),(11,.aD (.one (.bg q)))] []
theorem anM(h:ak [.f A a false]):
 bb (az f324 0) (lz A c d e a q b) (.exit 0) (RA b q):=
 h.a' [10,11] []
theorem anN(h:ak [.l [] [12,0,1,2,3,11,10] [] (az f324 0) (lz A a b c 0 false 0) (.exit 0) (RA d q)]):
 aK 324 [a7 4 A,al a,al b,al c] [al d,aI q]:=
 h.of
theorem anO(h:ak [.b (a==5) true]):
 aK 268 [al a] [aI true]:=
 h.of
theorem anP(h:ak [.b (a==5) false,.b (a==6) true]):
 aK 268 [al a] [aI true]:=
 h.of
theorem anQ(h:ak [.b (a==5) false,.b (a==6) false]):
 aK 268 [al a] [aI (a==8)]:=
 h.of
theorem anR(h:ak (Fz A [.b (a==6) true,.r 306 [a7 4 A,.agg [I b,I c,I d,I e]] [aI q],.b q true])):
 aK 269 [al a,a7 4 A,.agg [I b,I c,I d,I e]] [a7 4 ([]++A),aI false]:=
 h.of
theorem ang(h:ak (Fz A [.b (e==6) true,.r 306 [a7 4 A,.agg [I a,I b,I c,I d]] [aI q],.b q false,.r 238 [a7 4 A,.agg [I a,I b,I c,I d]] [a7 4 C]])):
 aK 269 [al e,a7 4 A,.agg [I a,I b,I c,I d]] [a7 4 C,aI true]:=
 h.of
def L7(A:ai)(a:Int)(l:List O):List O:=Fz A (.b (a==6) false::l)
def L8(A:ai)(a b c d e:Int)(q:Bool)(l:List O):List O:=L7 A a (.b (a==5) true::.b (a==5) true::.r 324 [a7 4 A,al b,al c,al d] [al e,aI q]::l)
theorem anh(h:ak (L8 A a b c d f q [.b q true,.b (decide (f<=e)) true])):
 aK 269 [al a,a7 4 A,.agg [I b,I c,I d,I e]] [a7 4 ([]++A),aI false]:=
 h.of
def lA(A:ai)(a b c d e:Int)(C:ai):aE:=bi 94 [(1,dX 4 A),(5,aS 5),(11,aB.aD (bd.one (ay 48 4 C))),(12,aZ e)] [(5,[aq a,aq b,aq c,aq d])]
theorem ani(h:ak (hN A a g l m n [.b (g != f) true,.x A a [I b,I c,I d,I e],.g C [[I b,I c,I d,I e]] 32,.h [[I b,I c,I d,I e]],.u a])):
 bb (az f269 0) (lA A f i j k a C) .normal (lA A f i j k (a+1) (C++[[I b,I c,I d,I e]])):=
 h.a' [12,1,5,11] [5]
theorem anj(h:ak (hN A a i m n o [.b (i != f) false,.x A a [I p,I j,I a0,I cf],.b (j != g) true,.x A a [I b,I c,I d,I e],.g C [[I b,I c,I d,I e]] 32,.h [[I b,I c,I d,I e]],.u a])):
 bb (az f269 0) (lA A f g k l a C) .normal (lA A f g k l (a+1) (C++[[I b,I c,I d,I e]])):=
 h.a' [12,1,5,11] [5]
theorem ank(h:ak (hN A a j n o p [.b (j != f) false,.x A a [I a0,I k,I cf,I dg],.b (k != g) false,.x A a [I d0,I bE,I l,I f0],.b (l != i) true,.x A a [I b,I c,I d,I e],.g C [[I b,I c,I d,I e]] 32,.h [[I b,I c,I d,I e]],.u a])):
 bb (az f269 0) (lA A f g i m a C) .normal (lA A f g i m (a+1) (C++[[I b,I c,I d,I e]])):=
 h.a' [12,1,5,11] [5]
theorem anl(h:ak (hN A a e j k l [.b (e != b) false,.x A a [I m,I f,I n,I o],.b (f != c) false,.x A a [I p,I a0,I g,I cf],.b (g != d) false,.u a])):
 bb (az f269 0) (lA A b c d i a C) .normal (lA A b c d i (a+1) C):=
 h.a' [12,1,5,11] [5]
def yz(a b c d:Int)(A:ai):aE:=bi 94 [(5,aS 5),(11,aB.aD (bd.one (ay 48 4 A)))] [(5,[aq a,aq b,aq c,aq d])]
theorem anm(h:ak [.f A e false]):
 bb (az f269 0) (lA A a b c d e C) (.exit 1) (yz a b c d C):=
 h.a' [11,5] [5]
theorem ann(h:ak (L8 A e a b c f q [.b q true,.b (decide (f<=d)) false,.l [] [12,1,5,11] [5] (az f269 0) (lA A a b c d 0 []) (.exit 1) (yz a b c d C),.r 238 [a7 4 C,.agg [I a,I b,I c,I d]] [a7 4 E]])):
 aK 269 [al e,a7 4 A,.agg [I a,I b,I c,I d]] [a7 4 E,aI true]:=
 h.of
theorem ano(h:ak (L8 A d a b c f q [.b q false,.l [] [12,1,5,11] [5] (az f269 0) (lA A a b c e 0 []) (.exit 1) (yz a b c e C),.r 238 [a7 4 C,.agg [I a,I b,I c,I e]] [a7 4 E]])):
 aK 269 [al d,a7 4 A,.agg [I a,I b,I c,I e]] [a7 4 E,aI true]:=
 h.of
def L9(A:ai)(a b c d e:Int)(q:Bool)(l:List O):List O:=L7 A a (.b (a==5) false::.b (a==8) true::.r 324 [a7 4 A,al b,al c,al d] [al e,aI q]::l)
theorem anp(h:ak (L9 A a b c d f q [.b q true,.b (decide (f<=e)) true])):
 aK 269 [al a,a7 4 A,.agg [I b,I c,I d,I e]] [a7 4 ([]++A),aI false]:=
 h.of
theorem aoS(h:ak (L9 A e a b c f q [.b q true,.b (decide (f<=d)) false,.l [] [12,1,5,11] [5] (az f269 0) (lA A a b c d 0 []) (.exit 1) (yz a b c d C),.r 238 [a7 4 C,.agg [I a,I b,I c,I d]] [a7 4 E]])):
 aK 269 [al e,a7 4 A,.agg [I a,I b,I c,I d]] [a7 4 E,aI true]:=
 h.of
theorem aoT(h:ak (L9 A d a b c f q [.b q false,.l [] [12,1,5,11] [5] (az f269 0) (lA A a b c e 0 []) (.exit 1) (yz a b c e C),.r 238 [a7 4 C,.agg [I a,I b,I c,I e]] [a7 4 E]])):
 aK 269 [al d,a7 4 A,.agg [I a,I b,I c,I e]] [a7 4 E,aI true]:=
 h.of
theorem aoU(h:ak (L7 A a [.b (a==5) false,.b (a==8) false])):
 aK 269 [al a,a7 4 A,.agg [I b,I c,I d,I e]] [a7 4 ([]++A),aI true]:=
 h.of
