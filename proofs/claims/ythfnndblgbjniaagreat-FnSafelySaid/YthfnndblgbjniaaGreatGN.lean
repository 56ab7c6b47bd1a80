import Derived.Test.YthfnndblgbjniaaGreatGE
namespace Go.Proofs.YthfnndblgbjniaaGreat
open Go.Sx Go.RowKit Go.Proofs.Tryz
variable {a b c d e f g i j k l m n o p a0 b8 c9 d0 bE f0 : Int} {A C E F G H aj K L M N Q R S bc V X Y Z dz e6 fD : af} {q r : Bool}
theorem aCr(h:ad [.g ([]:af) A 40,.h A]):
 ar 168 [aP 5 A] [aP 5 ([]++A)]:=
 h.of
def tC(a b:Int)(l:List O):List O:=.b (decide (a<b)) true::l
theorem aCs(h:ad (tC b a [])):
 ar 96 [ae c,ae a,ae b] [ae a]:=
 h.of
def p5(a b:Int)(l:List O):List O:=.b (decide (a<b)) false::l
theorem aCt(h:ad (p5 c a [.b (decide (b<a)) true])):
 ar 96 [ae b,ae a,ae c] [ae a]:=
 h.of
theorem aCu(h:ad (p5 a c [.b (decide (b<c)) false,.b (decide (b>a)) true])):
 ar 96 [ae b,ae c,ae a] [ae a]:=
 h.of
theorem aCv(h:ad (p5 c b [.b (decide (a<b)) false,.b (decide (a>c)) false])):
 ar 96 [ae a,ae b,ae c] [ae a]:=
 h.of
theorem aCw(h:ad (tC b a [])):
 ar 87 [ae c,ae a,ae b] [ae a]:=
 h.of
theorem aCx(h:ad (p5 c a [.b (decide (b<a)) true])):
 ar 87 [ae b,ae a,ae c] [ae a]:=
 h.of
theorem aCy(h:ad (p5 b c [.b (decide (a<c)) false])):
 ar 87 [ae a,ae c,ae b] [ae (if b<a then b else a)]:=
 h.of
def CO(a b:Int)(A:af):aD:=a' 62 [(3,aI.aF (bp.one (aB 9 3 A))),(4,aT a),(5,aT b)] []
theorem aCz(h:ad (tC a b [.g A [[I 1,I a,I 0],[I 3,I a,I 0],[I 2,I a,I 0],[I 7,I a,I 0]] 24,.h [[I 1,I a,I 0],[I 3,I a,I 0],[I 2,I a,I 0],[I 7,I a,I 0]],.u a])):
 aV (ap f51 0) (CO b a A) .normal (CO b (a+1) (A++[[I 1,I a,I 0],[I 3,I a,I 0],[I 2,I a,I 0],[I 7,I a,I 0]])):=
 h.aQ [5,4,3] []
def UR(a:Int)(A:af):aD:=a' 62 [(3,aI.aF (bp.one (aB 9 3 A))),(4,aT a)] []
theorem aCA(h:ad (p5 b a [])):
 aV (ap f51 0) (CO a b A) (.exit 0) (UR a A):=
 h.aQ [4,3] []
def CP(a b:Int)(A:af):aD:=a' 62 [(3,aI.aF (bp.one (aB 9 3 A))),(4,aT a),(6,aT b)] []
def ym(a b c:Int)(A:af):aD:=a' 62 [(3,aI.aF (bp.one (aB 9 3 A))),(4,aT a),(6,aT b),(7,aT c)] []
def aa1(a b c:Int)(A:af)(l:List O):List O:=tC a b (.b (c != a) true::.g A [[I 4,I c,I a],[I 5,I c,I a]] 24::.h [[I 4,I c,I a],[I 5,I c,I a]]::.u a::l)
theorem aCB(h:ad (aa1 a c b A [])):
 aV (ap f51 2) (ym c b a A) .normal (ym c b (a+1) (A++[[I 4,I b,I a],[I 5,I b,I a]])):=
 h.aQ [7,4,6,3] []
theorem aCC(h:ad (tC a b [.b (c != a) false,.u a])):
 aV (ap f51 2) (ym b c a A) .normal (ym b c (a+1) A):=
 h.aQ [7,4,6,3] []
def US(a b:Int)(A:af):aD:=a' 62 [(3,aI.aF (bp.one (aB 9 3 A))),(4,aT a),(6,aT b)] []
theorem aCD(h:ad (p5 b a [])):
 aV (ap f51 2) (ym a c b A) (.exit 4) (US a c A):=
 h.aQ [6,4,3] []
theorem aCE(h:ad (tC a b [.l [] [7,4,6,3] [] (ap f51 2) (ym b a 0 A) (.exit 4) (US b a C),.u a])):
 aV (ap f51 1) (CP b a A) .normal (CP b (a+1) C):=
 h.aQ [6,4,3] []
def UT(A:af):aD:=a' 62 [(3,aI.aF (bp.one (aB 9 3 A)))] []
theorem aCF(h:ad (p5 b a [])):
 aV (ap f51 1) (CP a b A) (.exit 2) (UT A):=
 h.aQ [3] []
def CQ(a:Int)(A:af):aD:=a' 62 [(3,aI.aF (bp.one (aB 9 3 A))),(8,aT a)] []
theorem aCG(h:ad [.b (decide (a<=3)) true,.g A [[I 6,I a,I 0]] 24,.h [[I 6,I a,I 0]],.u a]):
 aV (ap f51 3) (CQ a A) .normal (CQ (a+1) (A++[[I 6,I a,I 0]])):=
 h.aQ [8,3] []
def UU(A:af):aD:=a' 62 [(3,aI.aF (bp.one (aB 9 3 A)))] []
theorem aCH(h:ad [.b (decide (a<=3)) false]):
 aV (ap f51 3) (CQ a A) (.exit 6) (UU A):=
 h.aQ [3] []
theorem aCI(h:ad [.r 96 [ae b,ae 0,ae 4] [ae a],.l [] [5,4,3] [] (ap f51 0) (CO a 0 []) (.exit 0) (UR a C),.l [] [6,4,3] [] (ap f51 1) (CP a 0 C) (.exit 2) (UT E),.l [] [8,3] [] (ap f51 3) (CQ 0 E) (.exit 6) (UU A)]):
 ar 51 [.agg (cl F b c G H aj K)] [aP 3 A]:=
 h.of
def CR(a b:Int)(A:af):aD:=a' 65 [(3,aT a),(4,aI.aF (bp.one (aB 31 3 A))),(5,aT b)] []
def uR(a b c:Int)(A:af):aD:=a' 65 [(3,aT a),(4,aI.aF (bp.one (aB 31 3 A))),(5,aT b),(20,.aF (.one (.J (.own 20) 1 [[I 1],[I 3],[I 2],[I 7]]))),(21,aT (↑[[I 1],[I 3],[I 2],[I 7]].length:Int)),(22,aT c)] []
theorem GV(h:ad [.i [[I 1],[I 3],[I 2],[I 7]] b [I c],.g A [[I c,I a,I 0]] 24,.h [[I c,I a,I 0]],.u b]):
 aV (ap f48 1) (uR d a b A) .normal (uR d a (b+1) (A++[[I c,I a,I 0]])):=
 h.aQ [22,21,20,4,5,3] []
def UW(a b:Int)(A:af):aD:=a' 65 [(3,aT a),(4,aI.aF (bp.one (aB 31 3 A))),(5,aT b)] []
theorem aCJ(h:ad [.f [[I 1],[I 3],[I 2],[I 7]] a false]):
 aV (ap f48 1) (uR b c a A) (.exit 2) (UW b c A):=
 h.aQ [5,3,4] []
theorem aCK(h:ad (tC a b [.l [] [22,21,20,4,5,3] [] (ap f48 1) (uR b a 0 C) (.exit 2) (UW b a A),.u a])):
 aV (ap f48 0) (CR b a C) .normal (CR b (a+1) A):=
 h.aQ [5,3,4] []
def UX(a:Int)(A:af):aD:=a' 65 [(3,aT a),(4,aI.aF (bp.one (aB 31 3 A)))] []
theorem aCL(h:ad (p5 b a [])):
 aV (ap f48 0) (CR a b A) (.exit 0) (UX a A):=
 h.aQ [3,4] []
def CS(a b:Int)(A:af):aD:=a' 65 [(3,aT a),(4,aI.aF (bp.one (aB 31 3 A))),(8,aT b)] []
def yn(a b c:Int)(A:af):aD:=a' 65 [(3,aT a),(4,aI.aF (bp.one (aB 31 3 A))),(8,aT b),(9,aT c)] []
theorem aBW(h:ad (aa1 a c b A [])):
 aV (ap f48 3) (yn c b a A) .normal (yn c b (a+1) (A++[[I 4,I b,I a],[I 5,I b,I a]])):=
 h.aQ [9,3,8,4] []
theorem aBX(h:ad (tC a b [.b (c != a) false,.u a])):
 aV (ap f48 3) (yn b c a A) .normal (yn b c (a+1) A):=
 h.aQ [9,3,8,4] []
def UY(a b:Int)(A:af):aD:=a' 65 [(3,aT a),(4,aI.aF (bp.one (aB 31 3 A))),(8,aT b)] []
theorem aBY(h:ad (p5 b a [])):
 aV (ap f48 3) (yn a c b A) (.exit 6) (UY a c A):=
 h.aQ [8,3,4] []
theorem aBZ(h:ad (tC a b [.l [] [9,3,8,4] [] (ap f48 3) (yn b a 0 A) (.exit 6) (UY b a C),.u a])):
 aV (ap f48 2) (CS b a A) .normal (CS b (a+1) C):=
 h.aQ [8,3,4] []
def Wn(A:af):aD:=a' 65 [(4,aI.aF (bp.one (aB 31 3 A)))] []
theorem aB0(h:ad (p5 b a [])):
 aV (ap f48 2) (CS a b A) (.exit 4) (Wn A):=
 h.aQ [4] []
def CT(a:Int)(A:af):aD:=a' 65 [(4,aI.aF (bp.one (aB 31 3 A))),(10,aT a)] []
theorem aB1(h:ad [.b (decide (a<=3)) true,.g A [[I 6,I a,I 0]] 24,.h [[I 6,I a,I 0]],.u a]):
 aV (ap f48 4) (CT a A) .normal (CT (a+1) (A++[[I 6,I a,I 0]])):=
 h.aQ [10,4] []
def Wo(A:af):aD:=a' 65 [(4,aI.aF (bp.one (aB 31 3 A)))] []
theorem aB2(h:ad [.b (decide (a<=3)) false]):
 aV (ap f48 4) (CT a A) (.exit 8) (Wo A):=
 h.aQ [4] []
theorem aB3(h:ad [.r 87 [ae b,ae 0,ae 4] [ae a],.l [(4,31,3)] [5,3,4] [] (ap f48 0) (CR a 0 []) (.exit 0) (UX a C),.l [] [8,3,4] [] (ap f48 2) (CS a 0 C) (.exit 4) (Wn E),.l [] [10,4] [] (ap f48 4) (CT 0 E) (.exit 8) (Wo A)]):
 ar 48 [.agg (cl F b c G H aj K)] [aP 3 A]:=
 h.of
theorem aB4(h:ad [.b (decide (a>=b)) true]):
 ar 43 [ae a,ae b,ae c] [ak (decide (a<=c))]:=
 h.of
theorem aB5(h:ad [.b (decide (a>=b)) false]):
 ar 43 [ae a,ae b,ae c] [ak false]:=
 h.of
theorem aB6(h:ad [.b (decide (a>=b)) true]):
 ar 44 [ae a,ae b,ae c] [ak (decide (a<=c))]:=
 h.of
theorem aB7(h:ad [.b (decide (a>=b)) false]):
 ar 44 [ae a,ae b,ae c] [ak false]:=
 h.of
theorem aB8(h:ad (tC a b [])):
 ar 151 [ae a,ae b] [ae (-1)]:=
 h.of
theorem aB9(h:ad (p5 a b [.b (decide (a>b)) true])):
 ar 151 [ae a,ae b] [ae 1]:=
 h.of
theorem aCa(h:ad (p5 a b [.b (decide (a>b)) false])):
 ar 151 [ae a,ae b] [ae 0]:=
 h.of
theorem aCb(a:Int)(h:ad []):
 ar 233 [ae a] [ak (a != a)]:=
 h.of
def QD(a:Int)(q:Bool)(b:Int)(r:Bool)(l:List O):List O:=.r 233 [ae a] [ak q]::.r 233 [ae b] [ak r]::.b q false::.b r false::l
theorem aCc(h:ad (QD a q b r [.b (decide (a<b)) true])):
 ar 221 [ae a,ae b] [ae (-1)]:=
 h.of
theorem aCd(h:ad (QD a q b r [.b (decide (a<b)) false,.b (decide (a>b)) true])):
 ar 221 [ae a,ae b] [ae 1]:=
 h.of
theorem aCe(h:ad (QD a q b r [.b (decide (a<b)) false,.b (decide (a>b)) false])):
 ar 221 [ae a,ae b] [ae 0]:=
 h.of
def yo(A C:af)(a:Int):aD:=a' 36 [(0,dW 1 A),(1,dW 1 C),(9,dW 1 A),(10,aT (A.length:Int)),(11,aT a)] []
def Ol(a:Int):aD:=a' 36 [(4,aT a)] []
theorem aCf(h:ad [.i C a [I c],.b (decide (a>=(A.length:Int))) false,.x A a [I d],.r 221 [ae c,ae d] [ae b],.b (b != 0) true]):
 aV (ap f203 0) (yo C A a) .ret (Ol b):=
 h.aQ [4] []
theorem aCg(h:ad [.i C a [I b],.b (decide (a>=(A.length:Int))) false,.x A a [I c],.r 221 [ae b,ae c] [ae d],.b (d != 0) false,.u a]):
 aV (ap f203 0) (yo C A a) .normal (yo C A (a+1)):=
 h.aQ [11,10,9,1,0] []
def Wp(A C:af):aD:=a' 36 [(0,dW 1 A),(1,dW 1 C)] []
theorem aCh(h:ad [.f A a false]):
 aV (ap f203 0) (yo A C a) (.exit 0) (Wp A C):=
 h.aQ [0,1] []
theorem aCi(h:ad [.l [] [11,10,9,1,0] [] (ap f203 0) (yo A C 0) .ret (Ol a)]):
 ar 203 [aP 1 A,aP 1 C] [ae a]:=
 h.of
theorem aCj(h:ad [.l [] [11,10,9,1,0] [] (ap f203 0) (yo A C 0) (.exit 0) (Wp A C),.f C (A.length:Int) false]):
 ar 203 [aP 1 A,aP 1 C] [ae 0]:=
 h.of
theorem aCk(h:ad [.r 203 [aP 1 A,aP 1 C] [ae a]]):
 ar 188 [aP 1 A,aP 1 C] [ae a]:=
 h.of
theorem aCl(h:ad [.r 151 [ae b,ae c] [ae a],.b (a != 0) true]):
 ar 150 [.agg [I b,I d],.agg [I c,I e]] [ae a]:=
 h.of
theorem aBM(h:ad [.r 151 [ae a,ae c] [ae e],.b (e != 0) false,.r 151 [ae b,ae d] [ae f]]):
 ar 150 [.agg [I a,I b],.agg [I c,I d]] [ae f]:=
 h.of
theorem aBN(h:ad [.r 188 [.one (.J 1 [[I a],[I b]]),.one (.J 1 [[I c],[I d]])] [ae e]]):
 ar 191 [.agg [I a,I b],.agg [I c,I d]] [ae e]:=
 h.of
def yp(a b c d e:Int):aD:=a' 41 [(5,.aF (.one (.J (.own 27) 1 [[I a],[I b],[I c],[I d]]))),(6,aT e)] []
def Om(a:Int):aD:=a' 41 [(4,aT a)] []
def IN(a b c d e f:Int)(l:List O):List O:=.b (decide (a<4)) true::.x [[I b],[I c],[I d],[I e]] a [I f]::l
theorem aBO(h:ad (IN a b c d e f [.b (f != 0) true,.x [[I b],[I c],[I d],[I e]] a [I g]])):
 aV (ap f103 0) (yp b c d e a) .ret (Om g):=
 h.aQ [4] []
theorem aBP(h:ad (IN a b c d e f [.b (f != 0) false,.u a])):
 aV (ap f103 0) (yp b c d e a) .normal (yp b c d e (a+1)):=
 h.aQ [6,5] []
def Wq:aD:=a' 41 [] []
theorem aBQ(h:ad [.b (decide (a<4)) false]):
 aV (ap f103 0) (yp b c d e a) (.exit 0) Wq:=
 h.aQ [] []
theorem aBR(h:ad [.r 150 [.agg [I b,I i],.agg [I m,I n]] [ae c],.r 151 [ae a,ae l] [ae d],.r 151 [ae j,ae o] [ae e],.r 151 [ae k,ae p] [ae f],.l [] [6,5] [] (ap f103 0) (yp c d e f 0) .ret (Om g)]):
 ar 103 [.agg (bi a b i j k),.agg (bi l m n o p)] [ae g]:=
 h.of
theorem aBS(h:ad [.r 150 [.agg [I b,I g],.agg [I l,I m]] [ae c],.r 151 [ae a,ae k] [ae d],.r 151 [ae i,ae n] [ae e],.r 151 [ae j,ae o] [ae f],.l [] [6,5] [] (ap f103 0) (yp c d e f 0) (.exit 0) Wq]):
 ar 103 [.agg (bi a b g i j),.agg (bi k l m n o)] [ae 0]:=
 h.of
theorem aBT(h:ad [.r 191 [.agg [I b,I c],.agg [I d,I e]] [ae a],.b (a != 0) true]):
 ar 170 [.agg (bi f b c g i),.agg (bi j d e k l)] [ae a]:=
 h.of
theorem aBU(h:ad [.r 191 [.agg [I b,I e],.agg [I j,I k]] [ae c],.b (c != 0) false,.r 188 [.one (.J 1 [[I a],[I f],[I g]]),.one (.J 1 [[I i],[I l],[I m]])] [ae d]]):
 ar 170 [.agg (bi a b e f g),.agg (bi i j k l m)] [ae d]:=
 h.of
def qR(a:Int)(A:af):aD:=a' 48 [(3,aI.aF (bp.one (aB 7 5 A))),(4,aT a)] []
def wC(a b:Int)(A:af)(c d e f g:Int):aD:=a' 48 [(3,aI.aF (bp.one (aB 7 5 A))),(4,aT a),(5,aS 5),(6,aT b)] [(5,[av c,av d,av e,av f,av g])]
def aa2(a:Int)(A:af)(b c d e f g i j k m n:Int)(l:List O):List O:=.b (decide (a>0)) true::.v (a-1)::.p (0<=a-1)::.p (a-1<(A.length:Int))::.e A ((a-1).toNat) (bi b c d e f)::.r 103 [.agg (bi g i j k m),.agg (bi b c d e f)] [ae n]::l
theorem aBV{g a:Int}{A:af}{b c d e f i j k l m n o p a0 b8 c9:Int}{d26 d27 d28 d29 d30:D}(h:ad (aa2 a A i j k l m b c d e f n [.b (decide (n<0)) true,.v (a-1),.p (0<=a-1),.p (a-1<(A.length:Int)),.e A ((a-1).toNat) (bi o p a0 b8 c9),.x A a [d26,d27,d28,d29,d30],.v (a-1)])):
 aV (ap f54 1) (wC g a A b c d e f) .normal (wC g (a-1) (A.set a.toNat (bi o p a0 b8 c9)) b c d e f):=
 h.aQ [6,5,3,4] [5]
def GX(a:Int)(A:af)(b c d e f g:Int):aD:=a' 48 [(3,aI.aF (bp.one (aB 7 5 A))),(4,aT a),(5,aS 5),(6,aT b)] [(5,[av c,av d,av e,av f,av g])]
theorem aDm(h:ad (aa2 a A i j k l m b c d e f n [.b (decide (n<0)) false])):
 aV (ap f54 1) (wC g a A b c d e f) (.exit 2) (GX g A a b c d e f):=
 h.aQ [3,6,5,4] [5]
theorem aDn(h:ad [.b (decide (a>0)) false]):
 aV (ap f54 1) (wC b a A c d e f g) (.exit 2) (GX b A a c d e f g):=
 h.aQ [3,6,5,4] [5]
theorem aDo{a:Int}{A:af}{i j k l m:Int}{C:af}{b c d e f g:Int}{d15 d16 d17 d18 d19:D}(h:ad [.i A a (bi i j k l m),.l [] [6,5,3,4] [5] (ap f54 1) (wC a a A i j k l m) (.exit 2) (GX a C b c d e f g),.x C b [d15,d16,d17,d18,d19],.u a]):
 aV (ap f54 0) (qR a A) .normal (qR (a+1) (C.set b.toNat (bi c d e f g))):=
 h.aQ [4,3] []
def GY(A:af):aD:=a' 48 [(3,aI.aF (bp.one (aB 7 5 A)))] []
theorem Wr(h:ad [.f A a false]):
 aV (ap f54 0) (qR a A) (.exit 0) (GY A):=
 h.aQ [3] []
theorem aDp(h:ad [.g ([]:af) A 40,.h A,.l [] [4,3] [] (ap f54 0) (qR 1 ([]++A)) (.exit 0) (GY C)]):
 ar 54 [aP 5 A] [aP 5 C]:=
 h.of
theorem aDq(h:ad [.r 168 [aP 5 C] [aP 5 E],.a (.qS [[some (some A)],[none]] 0 [] []),.p (ks prog 169 [GA.one (eM.e5 5 E (some A)),GA.one (eM.ro (D.cl 170 []))] [])]):
 ar 121 [aP 5 C] [aP 5 A]:=
 h.of
def AT(A:af)(a b:Int)(C E F G:af)(c:Int)(H:af):aD:=a' 46 [(1,aS 1),(3,aI.aF (bp.one (aB 6 5 H))),(4,aT c)] [(1,[.J .free 4 A,av a,av b,.J .free 8 C,.J .free 6 E,.J .free 5 F,.J .free 3 G])]
theorem aDr(h:ad [.i E a (aX A L M N Q R S bc),.g F A 40,.h A,.x E a (aX V C X Y Z dz e6 fD),.g (F++A) C 40,.h C,.u a]):
 aV (ap f21 0) (AT G b c E H aj K a F) .normal (AT G b c E H aj K (a+1) (F++A++C)):=
 h.aQ [4,1,3] [1]
def Ws(A:af)(a b:Int)(C E F G H:af):aD:=a' 46 [(1,aS 1),(3,aI.aF (bp.one (aB 6 5 H)))] [(1,[.J .free 4 A,av a,av b,.J .free 8 C,.J .free 6 E,.J .free 5 F,.J .free 3 G])]
theorem aDs(h:ad [.f A c false]):
 aV (ap f21 0) (AT C a b A E F G c H) (.exit 0) (Ws C a b A E F G H):=
 h.aQ [1,3] [1]
def AU(A:af)(a b:Int)(C E F G:af)(c:Int)(H:af):aD:=a' 46 [(1,aS 1),(3,aI.aF (bp.one (aB 6 5 H))),(5,aT c)] [(1,[.J .free 4 A,av a,av b,.J .free 8 C,.J .free 6 E,.J .free 5 F,.J .free 3 G])]
theorem aDt(h:ad [.i C a (bU d A e f g i),.g E A 40,.h A,.u a]):
 aV (ap f21 1) (AU F b c G C H aj a E) .normal (AU F b c G C H aj (a+1) (E++A)):=
 h.aQ [5,1,3] [1]
def Wt(A:af):aD:=a' 46 [(3,aI.aF (bp.one (aB 6 5 A)))] []
theorem aDu(h:ad [.f A a false]):
 aV (ap f21 1) (AU E b c F A G H a C) (.exit 2) (Wt C):=
 h.aQ [3] []
theorem aDv(h:ad [.l [] [4,1,3] [1] (ap f21 0) (AT A a b C E F G 0 []) (.exit 0) (Ws A a b C E F G H),.l [] [5,1,3] [1] (ap f21 1) (AU A a b C E F G 0 H) (.exit 2) (Wt aj),.r 54 [aP 5 aj] [aP 5 K]]):
 ar 21 [.agg (cl A a b C E F G)] [aP 5 K]:=
 h.of
def AV(A:af)(a:Int)(C E:af)(b c:Int)(F G H aj:af):aD:=a' 37 [(1,aS 1),(3,aI.aF (bp.one (aB 18 5 C))),(9,dW 8 A),(10,aT (A.length:Int)),(11,aT a)] [(1,[.J .free 4 E,av b,av c,.J .free 8 F,.J .free 6 G,.J .free 5 H,.J .free 3 aj])]
theorem aDw(h:ad [.i F a (aX A C M N Q R S bc),.g E A 40,.h A,.g (E++A) C 40,.h C,.u a]):
 aV (ap f80 0) (AV F a E L b c G H aj K) .normal (AV F (a+1) (E++A++C) L b c G H aj K):=
 h.aQ [11,10,9,3,1] [1]
def Wu(A C:af)(a b:Int)(E F G H:af):aD:=a' 37 [(1,aS 1),(3,aI.aF (bp.one (aB 18 5 A)))] [(1,[.J .free 4 C,av a,av b,.J .free 8 E,.J .free 6 F,.J .free 5 G,.J .free 3 H])]
theorem aDx(h:ad [.f G c false]):
 aV (ap f80 0) (AV G c H aj a b A C E F) (.exit 0) (Wu H aj a b A C E F):=
 h.aQ [1,3] [1]
def z6(A:af)(a:Int)(C:af):aD:=a' 37 [(3,aI.aF (bp.one (aB 18 5 C))),(24,dW 6 A),(25,aT (A.length:Int)),(26,aT a)] []
theorem aDy(h:ad [.i C a (bU b A c d e f),.g E A 40,.h A,.u a]):
 aV (ap f80 1) (z6 C a E) .normal (z6 C (a+1) (E++A)):=
 h.aQ [26,25,24,3] []
def Wv(A:af):aD:=a' 37 [(3,aI.aF (bp.one (aB 18 5 A)))] []
theorem aDz(h:ad [.f A a false]):
 aV (ap f80 1) (z6 A a C) (.exit 2) (Wv C):=
 h.aQ [3] []
theorem aDA(h:ad [.l [(3,18,5)] [11,10,9,3,1] [1] (ap f80 0) (AV A 0 [] C a b A H aj K) (.exit 0) (Wu L R d c M E N Q),.l [] [26,25,24,3] [] (ap f80 1) (z6 E 0 L) (.exit 2) (Wv F),.r 121 [aP 5 F] [aP 5 G]]):
 ar 80 [.agg (cl C a b A H aj K)] [aP 5 G]:=
 h.of
def yq(A:af)(a b:Int)(C:af):aD:=a' 30 [(0,dW 5 A),(1,aT a),(5,aI.aF (bp.one (aB 7 5 C))),(6,aT b)] []
theorem aDB(h:ad [.i A a (bi j i k l m),.b (i==g) true,.x A a (bi f b c d e),.g C [(bi f b c d e)] 40,.h [(bi f b c d e)],.u a]):
 aV (ap f81 0) (yq A g a C) .normal (yq A g (a+1) (C++[(bi f b c d e)])):=
 h.aQ [6,0,1,5] []
theorem aDC(h:ad [.i A a (bi d c e f g),.b (c==b) false,.u a]):
 aV (ap f81 0) (yq A b a C) .normal (yq A b (a+1) C):=
 h.aQ [6,0,1,5] []
def Ww(A:af):aD:=a' 30 [(5,aI.aF (bp.one (aB 7 5 A)))] []
theorem aDD(h:ad [.f A a false]):
 aV (ap f81 0) (yq A b a C) (.exit 0) (Ww C):=
 h.aQ [5] []
theorem aDE(h:ad [.l [] [6,0,1,5] [] (ap f81 0) (yq A a 0 []) (.exit 0) (Ww C)]):
 ar 81 [aP 5 A,ae a] [aP 5 C]:=
 h.of
def yr(A:af)(a b:Int)(C:af):aD:=a' 25 [(1,aT a),(5,aI.aF (bp.one (aB 22 5 C))),(8,dW 5 A),(9,aT (A.length:Int)),(10,aT b)] []
theorem aDF(h:ad [.i A b (bi c a d e f),.b (a==g) true,.g C [(bi c a d e f)] 40,.h [(bi c a d e f)],.u b]):
 aV (ap f79 0) (yr A g b C) .normal (yr A g (b+1) (C++[(bi c a d e f)])):=
 h.aQ [10,9,8,1,5] []
theorem aDG(h:ad [.i A a (bi d c e f g),.b (c==b) false,.u a]):
 aV (ap f79 0) (yr A b a C) .normal (yr A b (a+1) C):=
 h.aQ [10,9,8,1,5] []
def Wx(A:af):aD:=a' 25 [(5,aI.aF (bp.one (aB 22 5 A)))] []
theorem aDH(h:ad [.f A a false]):
 aV (ap f79 0) (yr A b a C) (.exit 0) (Wx C):=
 h.aQ [5] []
theorem aDI(h:ad [.l [(5,22,5)] [10,9,8,1,5] [] (ap f79 0) (yr A a 0 []) (.exit 0) (Wx C)]):
 ar 79 [aP 5 A,ae a] [aP 5 C]:=
 h.of
theorem aDJ(h:ad [.r 21 [.agg (cl A a b C E F G)] [aP 5 H],.r 81 [aP 5 H,ae c] [aP 5 aj]]):
 ar 37 [.agg (cl A a b C E F G),ae c] [aP 5 aj]:=
 h.of
theorem aDK(h:ad [.r 80 [.agg (cl A a b C E F G)] [aP 5 H],.r 79 [aP 5 H,ae c] [aP 5 aj]]):
 ar 34 [.agg (cl A a b C E F G),ae c] [aP 5 aj]:=
 h.of
def yt(A C E F G H aj K:af)(a b:Int):aD:=a' 21 [(1,aT a),(2,aS 2),(5,aT b)] [(2,[.J .free 5 A,.J .free 5 C,.J .free 5 E,.J .free 4 F,.J .free 1 G,.J .free 1 H,.J .free 1 aj,.J .free 2 K])]
def Nw(q:Bool):aD:=a' 21 [(4,.aF (.one (.bg q)))] []
theorem aDL(h:ad [.i A c [I a,B q],.b (a==b) true]):
 aV (ap f36 0) (yt C E F G H aj K A b c) .ret (Nw true):=
 h.aQ [4] []
theorem aCW(h:ad [.i A a [I c,B q],.b (c==b) false,.u a]):
 aV (ap f36 0) (yt C E F G H aj K A b a) .normal (yt C E F G H aj K A b (a+1)):=
 h.aQ [5,2,1] [2]
def Wy:aD:=a' 21 [] []
theorem aCX(h:ad [.f A a false]):
 aV (ap f36 0) (yt C E F G H aj K A b a) (.exit 0) Wy:=
 h.aQ [] []
theorem aCY(h:ad [.l [] [5,2,1] [2] (ap f36 0) (yt A C E F G H aj K a 0) .ret (Nw q)]):
 ar 36 [.agg (aX A C E F G H aj K),ae a] [ak q]:=
 h.of
theorem aCZ(h:ad [.l [] [5,2,1] [2] (ap f36 0) (yt A C E F G H aj K a 0) (.exit 0) Wy]):
 ar 36 [.agg (aX A C E F G H aj K),ae a] [ak false]:=
 h.of
theorem aC0(h:ad [.r 119 [aP 2 A,.one (.cl 120 [D.ptr [I a]])] [ak q]]):
 ar 77 [aP 2 A,ae a] [ak q]:=
 h.of
theorem aC1(h:ad []):
 ar 120 [.agg [I a,B q],.one (.ptr [I b])] [ak (a==b)]:=
 h.of
theorem aC2(h:ad [.r 77 [aP 2 A,ae a] [ak q]]):
 ar 31 [.agg (aX C E F G H aj K A),ae a] [ak q]:=
 h.of
def CU(A:af)(a b:Int)(C E F G:af)(c d:Int)(H:af):aD:=a' 26 [(1,aT c),(2,aS 2),(5,aI.aF (bp.one (aB 7 5 H))),(6,aT d)] [(2,[.J .free 4 A,av a,av b,.J .free 8 C,.J .free 6 E,.J .free 5 F,.J .free 3 G])]
theorem aC3(h:ad [.i C a (aX L M G N Q R S bc),.r 81 [aP 5 G,ae b] [aP 5 A],.g E A 40,.h A,.u a]):
 aV (ap f38 0) (CU F c d C H aj K b a E) .normal (CU F c d C H aj K b (a+1) (E++A)):=
 h.aQ [6,2,5,1] [2]
def Wz(A:af):aD:=a' 26 [(5,aI.aF (bp.one (aB 7 5 A)))] []
theorem aC4(h:ad [.f A a false]):
 aV (ap f38 0) (CU E b c A F G H d a C) (.exit 0) (Wz C):=
 h.aQ [5] []
theorem aC5(h:ad [.l [] [6,2,5,1] [2] (ap f38 0) (CU A a b C E F G c 0 []) (.exit 0) (Wz H)]):
 ar 38 [.agg (cl A a b C E F G),ae c] [aP 5 H]:=
 h.of
def CV(A:af)(a b:Int)(C:af):aD:=a' 23 [(1,aT a),(5,aI.aF (bp.one (aB 20 5 C))),(9,dW 8 A),(10,aT (A.length:Int)),(11,aT b)] []
theorem aC6(h:ad [.i C a (aX G H F aj K L M N),.r 79 [aP 5 F,ae b] [aP 5 A],.g E A 40,.h A,.u a]):
 aV (ap f35 0) (CV C b a E) .normal (CV C b (a+1) (E++A)):=
 h.aQ [11,10,9,5,1] []
def WA(A:af):aD:=a' 23 [(5,aI.aF (bp.one (aB 20 5 A)))] []
theorem aC7(h:ad [.f A a false]):
 aV (ap f35 0) (CV A b a C) (.exit 0) (WA C):=
 h.aQ [5] []
theorem aC8(h:ad [.l [(5,20,5)] [11,10,9,5,1] [] (ap f35 0) (CV A a 0 []) (.exit 0) (WA C)]):
 ar 35 [.agg (cl E b c A F G H),ae a] [aP 5 C]:=
 h.of
def vN(A:af)(a b:Int)(C E F G:af)(c d:Int)(q:Bool):aD:=a' 59 [(1,aT c),(2,aS 2),(5,.aF (.one (.bg q))),(6,aT d)] [(2,[.J .free 4 A,av a,av b,.J .free 8 C,.J .free 6 E,.J .free 5 F,.J .free 3 G])]
theorem aC9(h:ad [.f A a true,.b q true,.u a]):
 aV (ap f11 0) (vN C b c A E F G d a q) .normal (vN C b c A E F G d (a+1) true):=
 h.aQ [6,2,5,1] [2]
theorem aDa(h:ad [.f A a true,.b r false,.x A a (aX E F G H aj K L M),.r 36 [.agg (aX E F G H aj K L M),ae b] [ak q],.u a]):
 aV (ap f11 0) (vN C c d A N Q R b a r) .normal (vN C c d A N Q R b (a+1) q):=
 h.aQ [6,2,5,1] [2]
def LY(A:af)(a b:Int)(C E F G:af)(c:Int)(q:Bool):aD:=a' 59 [(1,aT c),(2,aS 2),(5,.aF (.one (.bg q)))] [(2,[.J .free 4 A,av a,av b,.J .free 8 C,.J .free 6 E,.J .free 5 F,.J .free 3 G])]
theorem aDb(h:ad [.f A d false]):
 aV (ap f11 0) (vN C a b A E F G c d q) (.exit 0) (LY C a b A E F G c q):=
 h.aQ [2,5,1] [2]
def vO(A:af)(a b:Int)(C E F G:af)(c d:Int)(q:Bool):aD:=a' 59 [(1,aT c),(2,aS 2),(5,.aF (.one (.bg q))),(7,aT d)] [(2,[.J .free 4 A,av a,av b,.J .free 8 C,.J .free 6 E,.J .free 5 F,.J .free 3 G])]
theorem aDc(h:ad [.f A a true,.b q true,.u a]):
 aV (ap f11 1) (vO C b c E F G A d a q) .normal (vO C b c E F G A d (a+1) true):=
 h.aQ [7,2,5,1] [2]
theorem aDd(h:ad [.f A a true,.b q false,.x A a [I f,I d,B r],.u a]):
 aV (ap f11 1) (vO C c e E F G A b a q) .normal (vO C c e E F G A b (a+1) (d==b)):=
 h.aQ [7,2,5,1] [2]
def LZ(A:af)(a b:Int)(C E F G:af)(c:Int)(q:Bool):aD:=a' 59 [(1,aT c),(2,aS 2),(5,.aF (.one (.bg q)))] [(2,[.J .free 4 A,av a,av b,.J .free 8 C,.J .free 6 E,.J .free 5 F,.J .free 3 G])]
theorem aDe(h:ad [.f A d false]):
 aV (ap f11 1) (vO C a b E F G A c d q) (.exit 2) (LZ C a b E F G A c q):=
 h.aQ [5,2,1] [2]
def Qr(W:Code)(A:af)(a b:Int)(C E F G:af)(c:Int)(q:Bool)(iq:Code)(r:Bool)(l:List O):List O:=.l [] [6,2,5,1] [2] W (vN A a b C E F G c 0 false) (.exit 0) (LY A a b C E F G c q)::.l [] [7,2,5,1] [2] iq (vO A a b C E F G c 0 q) (.exit 2) (LZ A a b C E F G c r)::l
theorem aDf(h:ad (Qr (ap f11 0) A a b C E F G c q (ap f11 1) r [.n r true])):
 ar 11 [.agg (cl A a b C E F G),ae c] [ak true]:=
 h.of
theorem aDg(h:ad (Qr (ap f11 0) A a b C E F G c q (ap f11 1) r [.n r false,.r 37 [.agg (cl A a b C E F G),ae c] [aP 5 H],.b ((H.length:Int)==0) true,.r 38 [.agg (cl A a b C E F G),ae c] [aP 5 aj]])):
 ar 11 [.agg (cl A a b C E F G),ae c] [ak ((aj.length:Int)==0)]:=
 h.of
theorem aDh(h:ad (Qr (ap f11 0) A a b C E F G c q (ap f11 1) r [.n r false,.r 37 [.agg (cl A a b C E F G),ae c] [aP 5 H],.b ((H.length:Int)==0) false])):
 ar 11 [.agg (cl A a b C E F G),ae c] [ak false]:=
 h.of
def Qs(A:af)(a:Int)(q:Bool)(l:List O):List O:=.r 29 [aP 8 A,.one (.cl 30 [D.ptr [I a]])] [ak q]::l
theorem aDi(h:ad (Qs A a q [.b q true,.r 34 [.agg (cl C b c A E F G),ae a] [aP 5 aj],.b ((aj.length:Int)==0) true,.r 35 [.agg (cl C b c A E F G),ae a] [aP 5 H]])):
 ar 10 [.agg (cl C b c A E F G),ae a] [ak ((H.length:Int)==0)]:=
 h.of
theorem aDj(h:ad (Qs A a q [.b q true,.r 34 [.agg (cl C b c A E F G),ae a] [aP 5 H],.b ((H.length:Int)==0) false])):
 ar 10 [.agg (cl C b c A E F G),ae a] [ak false]:=
 h.of
def Qt(A:af)(a:Int)(q:Bool)(C:af)(r:Bool)(l:List O):List O:=Qs A a q (.b q false::.r 32 [aP 3 C,.one (.cl 33 [D.ptr [I a]])] [ak r]::l)
theorem aDk(h:ad (Qt A a q C r [.n r true])):
 ar 10 [.agg (cl E b c A F G C),ae a] [ak true]:=
 h.of
theorem aDl(h:ad (Qt A a q C r [.n r false,.r 34 [.agg (cl E b c A F G C),ae a] [aP 5 H],.b ((H.length:Int)==0) true,.r 35 [.agg (cl E b c A F G C),ae a] [aP 5 aj]])):
 ar 10 [.agg (cl E b c A F G C),ae a] [ak ((aj.length:Int)==0)]:=
 h.of
theorem aCM(h:ad (Qt A a q C r [.n r false,.r 34 [.agg (cl E b c A G H C),ae a] [aP 5 F],.b ((F.length:Int)==0) false])):
 ar 10 [.agg (cl E b c A G H C),ae a] [ak false]:=
 h.of
theorem aCN(h:ad [.r 31 [.agg (aX A C E F G H aj K),ae a] [ak q]]):
 ar 30 [.agg (aX A C E F G H aj K),.one (.ptr [I a])] [ak q]:=
 h.of
theorem aCO(h:ad []):
 ar 33 [.agg [I c,I a,B q],.one (.ptr [I b])] [ak (a==b)]:=
 h.of
def yu(A:af)(g1:Nat)(bm:List D)(a:Int):aD:=a' 19 [(0,dW 8 A),(1,.aF (.one (.fd (D.cl g1 bm)))),(7,aT (A.length:Int)),(8,aT a)] []
def Nx(a:Int):aD:=a' 19 [(4,aT a)] []
theorem aCP{A:af}{g1:Nat}{bm:List D}{a:Int}{F G H aj K L C E:af}{q:Bool}(h:ad [.i A a (aX F G H aj K L C E),.p (fX prog g1=true),.r g1 ([.agg (aX F G H aj K L C E)]++List.map .one bm) [ak q],.b q true]):
 aV (ap f76 0) (yu A g1 bm a) .ret (Nx a):=
 h.aQ [4] []
theorem aCQ{A:af}{g1:Nat}{bm:List D}{a:Int}{F G H aj K L C E:af}{q:Bool}(h:ad [.i A a (aX F G H aj K L C E),.p (fX prog g1=true),.r g1 ([.agg (aX F G H aj K L C E)]++List.map .one bm) [ak q],.b q false,.u a]):
 aV (ap f76 0) (yu A g1 bm a) .normal (yu A g1 bm (a+1)):=
 h.aQ [8,7,1,0] []
def WB:aD:=a' 19 [] []
theorem aCR{A:af}{g1:Nat}{bm:List D}{a:Int}(h:ad [.f A a false]):
 aV (ap f76 0) (yu A g1 bm a) (.exit 0) WB:=
 h.aQ [] []
theorem aCS{A:af}{g1:Nat}{bm:List D}{a:Int}(h:ad [.l [] [8,7,1,0] [] (ap f76 0) (yu A g1 bm 0) .ret (Nx a)]):
 ar 76 [aP 8 A,.one (.cl g1 bm)] [ae a]:=
 h.of
theorem aCT{A:af}{g1:Nat}{bm:List D}(h:ad [.l [] [8,7,1,0] [] (ap f76 0) (yu A g1 bm 0) (.exit 0) WB]):
 ar 76 [aP 8 A,.one (.cl g1 bm)] [ae (-1)]:=
 h.of
def yv(A:af)(g1:Nat)(bm:List D)(a:Int):aD:=a' 19 [(0,dW 5 A),(1,.aF (.one (.fd (D.cl g1 bm)))),(7,aT (A.length:Int)),(8,aT a)] []
def Ny(a:Int):aD:=a' 19 [(4,aT a)] []
theorem aCU{A:af}{g1:Nat}{bm:List D}{a b c d e f:Int}{q:Bool}(h:ad [.i A a (bi b c d e f),.p (fX prog g1=true),.r g1 ([.agg (bi b c d e f)]++List.map .one bm) [ak q],.b q true]):
 aV (ap f122 0) (yv A g1 bm a) .ret (Ny a):=
 h.aQ [4] []
theorem aCV{A:af}{g1:Nat}{bm:List D}{a b c d e f:Int}{q:Bool}(h:ad [.i A a (bi b c d e f),.p (fX prog g1=true),.r g1 ([.agg (bi b c d e f)]++List.map .one bm) [ak q],.b q false,.u a]):
 aV (ap f122 0) (yv A g1 bm a) .normal (yv A g1 bm (a+1)):=
 h.aQ [8,7,1,0] []
def WC:aD:=a' 19 [] []
theorem agk{A:af}{g1:Nat}{bm:List D}{a:Int}(h:ad [.f A a false]):
 aV (ap f122 0) (yv A g1 bm a) (.exit 0) WC:=
 h.aQ [] []
theorem agl{A:af}{g1:Nat}{bm:List D}{a:Int}(h:ad [.l [] [8,7,1,0] [] (ap f122 0) (yv A g1 bm 0) .ret (Ny a)]):
 ar 122 [aP 5 A,.one (.cl g1 bm)] [ae a]:=
 h.of
theorem agm{A:af}{g1:Nat}{bm:List D}(h:ad [.l [] [8,7,1,0] [] (ap f122 0) (yv A g1 bm 0) (.exit 0) WC]):
 ar 122 [aP 5 A,.one (.cl g1 bm)] [ae (-1)]:=
 h.of
def yw(A:af)(g1:Nat)(bm:List D)(a:Int):aD:=a' 19 [(0,dW 2 A),(1,.aF (.one (.fd (D.cl g1 bm)))),(7,aT (A.length:Int)),(8,aT a)] []
def Nz(a:Int):aD:=a' 19 [(4,aT a)] []
theorem agn{A:af}{g1:Nat}{bm:List D}{a b:Int}{q r:Bool}(h:ad [.i A a [I b,B q],.p (fX prog g1=true),.r g1 ([.agg [I b,B q]]++List.map .one bm) [ak r],.b r true]):
 aV (ap f167 0) (yw A g1 bm a) .ret (Nz a):=
 h.aQ [4] []
theorem ago{A:af}{g1:Nat}{bm:List D}{a b:Int}{q r:Bool}(h:ad [.i A a [I b,B q],.p (fX prog g1=true),.r g1 ([.agg [I b,B q]]++List.map .one bm) [ak r],.b r false,.u a]):
 aV (ap f167 0) (yw A g1 bm a) .normal (yw A g1 bm (a+1)):=
 h.aQ [8,7,1,0] []
def WD:aD:=a' 19 [] []
theorem agp{A:af}{g1:Nat}{bm:List D}{a:Int}(h:ad [.f A a false]):
 aV (ap f167 0) (yw A g1 bm a) (.exit 0) WD:=
 h.aQ [] []
theorem agq{A:af}{g1:Nat}{bm:List D}{a:Int}(h:ad [.l [] [8,7,1,0] [] (ap f167 0) (yw A g1 bm 0) .ret (Nz a)]):
 ar 167 [aP 2 A,.one (.cl g1 bm)] [ae a]:=
 h.of
theorem agr{A:af}{g1:Nat}{bm:List D}(h:ad [.l [] [8,7,1,0] [] (ap f167 0) (yw A g1 bm 0) (.exit 0) WD]):
 ar 167 [aP 2 A,.one (.cl g1 bm)] [ae (-1)]:=
 h.of
def yx(A:af)(g1:Nat)(bm:List D)(a:Int):aD:=a' 19 [(0,dW 3 A),(1,.aF (.one (.fd (D.cl g1 bm)))),(7,aT (A.length:Int)),(8,aT a)] []
def NA(a:Int):aD:=a' 19 [(4,aT a)] []
theorem ags{A:af}{g1:Nat}{bm:List D}{a b c:Int}{q r:Bool}(h:ad [.i A a [I b,I c,B q],.p (fX prog g1=true),.r g1 ([.agg [I b,I c,B q]]++List.map .one bm) [ak r],.b r true]):
 aV (ap f78 0) (yx A g1 bm a) .ret (NA a):=
 h.aQ [4] []
theorem agt{A:af}{g1:Nat}{bm:List D}{a b c:Int}{q r:Bool}(h:ad [.i A a [I b,I c,B q],.p (fX prog g1=true),.r g1 ([.agg [I b,I c,B q]]++List.map .one bm) [ak r],.b r false,.u a]):
 aV (ap f78 0) (yx A g1 bm a) .normal (yx A g1 bm (a+1)):=
 h.aQ [8,7,1,0] []
def WE:aD:=a' 19 [] []
theorem agu{A:af}{g1:Nat}{bm:List D}{a:Int}(h:ad [.f A a false]):
 aV (ap f78 0) (yx A g1 bm a) (.exit 0) WE:=
 h.aQ [] []
theorem agv{A:af}{g1:Nat}{bm:List D}{a:Int}(h:ad [.l [] [8,7,1,0] [] (ap f78 0) (yx A g1 bm 0) .ret (NA a)]):
 ar 78 [aP 3 A,.one (.cl g1 bm)] [ae a]:=
 h.of
theorem agw{A:af}{g1:Nat}{bm:List D}(h:ad [.l [] [8,7,1,0] [] (ap f78 0) (yx A g1 bm 0) (.exit 0) WE]):
 ar 78 [aP 3 A,.one (.cl g1 bm)] [ae (-1)]:=
 h.of
def yy(A:af)(g1:Nat)(bm:List D)(a:Int):aD:=a' 19 [(0,dW 4 A),(1,.aF (.one (.fd (D.cl g1 bm)))),(7,aT (A.length:Int)),(8,aT a)] []
def NB(a:Int):aD:=a' 19 [(4,aT a)] []
def kp(A:af)(a b c d e:Int)(l:List O):List O:=.i A a [I b,I c,I d,I e]::l
theorem agx{A:af}{g1:Nat}{bm:List D}{a b c d e:Int}{q:Bool}(h:ad (kp A a b c d e [.p (fX prog g1=true),.r g1 ([.agg [I b,I c,I d,I e]]++List.map .one bm) [ak q],.b q true])):
 aV (ap f235 0) (yy A g1 bm a) .ret (NB a):=
 h.aQ [4] []
theorem agy{A:af}{g1:Nat}{bm:List D}{a b c d e:Int}{q:Bool}(h:ad (kp A a b c d e [.p (fX prog g1=true),.r g1 ([.agg [I b,I c,I d,I e]]++List.map .one bm) [ak q],.b q false,.u a])):
 aV (ap f235 0) (yy A g1 bm a) .normal (yy A g1 bm (a+1)):=
 h.aQ [8,7,1,0] []
def WG:aD:=a' 19 [] []
theorem agz{A:af}{g1:Nat}{bm:List D}{a:Int}(h:ad [.f A a false]):
 aV (ap f235 0) (yy A g1 bm a) (.exit 0) WG:=
 h.aQ [] []
theorem agA{A:af}{g1:Nat}{bm:List D}{a:Int}(h:ad [.l [] [8,7,1,0] [] (ap f235 0) (yy A g1 bm 0) .ret (NB a)]):
 ar 235 [aP 4 A,.one (.cl g1 bm)] [ae a]:=
 h.of
theorem agB{A:af}{g1:Nat}{bm:List D}(h:ad [.l [] [8,7,1,0] [] (ap f235 0) (yy A g1 bm 0) (.exit 0) WG]):
 ar 235 [aP 4 A,.one (.cl g1 bm)] [ae (-1)]:=
 h.of
def yz(A:af)(g1:Nat)(bm:List D)(a:Int):aD:=a' 19 [(0,dW 3 A),(1,.aF (.one (.fd (D.cl g1 bm)))),(7,aT (A.length:Int)),(8,aT a)] []
def NC(a:Int):aD:=a' 19 [(4,aT a)] []
theorem agC{A:af}{g1:Nat}{bm:List D}{a b c d:Int}{q:Bool}(h:ad [.i A a [I b,I c,I d],.p (fX prog g1=true),.r g1 ([.agg [I b,I c,I d]]++List.map .one bm) [ak q],.b q true]):
 aV (ap f86 0) (yz A g1 bm a) .ret (NC a):=
 h.aQ [4] []
theorem agD{A:af}{g1:Nat}{bm:List D}{a b c d:Int}{q:Bool}(h:ad [.i A a [I b,I c,I d],.p (fX prog g1=true),.r g1 ([.agg [I b,I c,I d]]++List.map .one bm) [ak q],.b q false,.u a]):
 aV (ap f86 0) (yz A g1 bm a) .normal (yz A g1 bm (a+1)):=
 h.aQ [8,7,1,0] []
def WH:aD:=a' 19 [] []
theorem agE{A:af}{g1:Nat}{bm:List D}{a:Int}(h:ad [.f A a false]):
 aV (ap f86 0) (yz A g1 bm a) (.exit 0) WH:=
 h.aQ [] []
theorem agF{A:af}{g1:Nat}{bm:List D}{a:Int}(h:ad [.l [] [8,7,1,0] [] (ap f86 0) (yz A g1 bm 0) .ret (NC a)]):
 ar 86 [aP 3 A,.one (.cl g1 bm)] [ae a]:=
 h.of
theorem agG{A:af}{g1:Nat}{bm:List D}(h:ad [.l [] [8,7,1,0] [] (ap f86 0) (yz A g1 bm 0) (.exit 0) WH]):
 ar 86 [aP 3 A,.one (.cl g1 bm)] [ae (-1)]:=
 h.of
theorem agH{A:af}{g1:Nat}{bm:List D}{a:Int}(h:ad [.r 76 [aP 8 A,.one (.cl g1 bm)] [ae a]]):
 ar 29 [aP 8 A,.one (.cl g1 bm)] [ak (decide (a>=0))]:=
 h.of
theorem agI{A:af}{g1:Nat}{bm:List D}{a:Int}(h:ad [.r 122 [aP 5 A,.one (.cl g1 bm)] [ae a]]):
 ar 82 [aP 5 A,.one (.cl g1 bm)] [ak (decide (a>=0))]:=
 h.of
theorem agJ{A:af}{g1:Nat}{bm:List D}{a:Int}(h:ad [.r 167 [aP 2 A,.one (.cl g1 bm)] [ae a]]):
 ar 119 [aP 2 A,.one (.cl g1 bm)] [ak (decide (a>=0))]:=
 h.of
theorem afT{A:af}{g1:Nat}{bm:List D}{a:Int}(h:ad [.r 78 [aP 3 A,.one (.cl g1 bm)] [ae a]]):
 ar 32 [aP 3 A,.one (.cl g1 bm)] [ak (decide (a>=0))]:=
 h.of
theorem afU{A:af}{g1:Nat}{bm:List D}{a:Int}(h:ad [.r 86 [aP 3 A,.one (.cl g1 bm)] [ae a]]):
 ar 47 [aP 3 A,.one (.cl g1 bm)] [ak (decide (a>=0))]:=
 h.of
end Go.Proofs.YthfnndblgbjniaaGreat
namespace Go.Proofs.YthfnndblgbjniaaGreat
open Go.Sx Go.RowKit Go.Proofs.Tryz
variable {a b c d e f g i j k l m n o p a0 b8 c9 d0 bE f0 : Int} {A C E F G H aj K L M N Q R S bc V X Y Z dz e6 fD : af} {q r : Bool}
def IF(A:af)(l:List O):List O:=.g ([]:af) A 32::.h A::l
theorem afV(h:ad (IF A [])):
 ar 176 [aP 4 A] [aP 4 ([]++A)]:=
 h.of
theorem afW(h:ad [.r 232 [aP 4 A,.agg [I a,I b,I c,I d]] [ak q]]):
 ar 216 [aP 4 A,.agg [I a,I b,I c,I d]] [ak q]:=
 h.of
theorem afX(h:ad [.r 188 [.one (.J 1 [[I b],[I a],[I c],[I d]]),.one (.J 1 [[I f],[I e],[I g],[I i]])] [ae j]]):
 ar 163 [.agg [I a,I b,I c,I d],.agg [I e,I f,I g,I i]] [ae j]:=
 h.of
theorem afY(h:ad [.r 238 [aP 4 A,.agg [I a,I b,I c,I d]] [ae e]]):
 ar 232 [aP 4 A,.agg [I a,I b,I c,I d]] [ak (decide (e>=0))]:=
 h.of
def yA(A:af)(a b c d e:Int):aD:=a' 19 [(0,dW 4 A),(3,aS 3),(7,aT (A.length:Int)),(8,aT e)] [(3,[av a,av b,av c,av d])]
def ND(a:Int):aD:=a' 19 [(4,aT a)] []
theorem afZ(h:ad (kp A a f g i j [.b (b==f&&(c==g&&(d==i&&e==j))) true])):
 aV (ap f238 0) (yA A b c d e a) .ret (ND a):=
 h.aQ [4] []
theorem af0(h:ad (kp A a f g i j [.b (b==f&&(c==g&&(d==i&&e==j))) false,.u a])):
 aV (ap f238 0) (yA A b c d e a) .normal (yA A b c d e (a+1)):=
 h.aQ [8,7,3,0] [3]
def WI:aD:=a' 19 [] []
theorem af1(h:ad [.f A a false]):
 aV (ap f238 0) (yA A b c d e a) (.exit 0) WI:=
 h.aQ [] []
theorem af2(h:ad [.l [] [8,7,3,0] [3] (ap f238 0) (yA A a b c d 0) .ret (ND e)]):
 ar 238 [aP 4 A,.agg [I a,I b,I c,I d]] [ae e]:=
 h.of
theorem af3(h:ad [.l [] [8,7,3,0] [3] (ap f238 0) (yA A a b c d 0) (.exit 0) WI]):
 ar 238 [aP 4 A,.agg [I a,I b,I c,I d]] [ae (-1)]:=
 h.of
theorem af4(h:ad [.r 176 [aP 4 A] [aP 4 C],.r 216 [aP 4 A,.agg [I a,I b,I c,I d]] [ak q],.b q true]):
 ar 215 [aP 4 A,.agg [I a,I b,I c,I d]] [aP 4 C]:=
 h.of
def yB(A:af)(a b c d:Int)(C:af)(e:Int):aD:=a' 33 [(0,dW 4 A),(3,aS 3),(5,aI.aF (bp.one (aB 90000 4 C))),(6,aT e)] [(3,[av a,av b,av c,av d])]
theorem af5(h:ad (kp A a j k f g [.r 163 [.agg [I j,I k,I f,I g],.agg [I b,I c,I d,I e]] [ae i],.b (decide (i<0)) true,.u a])):
 aV (ap f215 0) (yB A b c d e C a) .normal (yB A b c d e C (a+1)):=
 h.aQ [6,0,3,5] [3]
def CW(a b c d:Int)(A:af)(e:Int):aD:=a' 33 [(3,aS 3),(5,aI.aF (bp.one (aB 90000 4 A))),(6,aT e)] [(3,[av a,av b,av c,av d])]
theorem af6(h:ad (kp A e j k f g [.r 163 [.agg [I j,I k,I f,I g],.agg [I a,I b,I c,I d]] [ae i],.b (decide (i<0)) false])):
 aV (ap f215 0) (yB A a b c d C e) (.exit 0) (CW a b c d C e):=
 h.aQ [5,6,3] [3]
theorem af7(h:ad [.f A a false]):
 aV (ap f215 0) (yB A b c d e C a) (.exit 0) (CW b c d e C a):=
 h.aQ [5,6,3] [3]
theorem af8(h:ad [.r 176 [aP 4 A] [aP 4 C],.r 216 [aP 4 A,.agg [I a,I b,I c,I d]] [ak q],.b q false,.l [] [6,0,3,5] [3] (ap f215 0) (yB A a b c d C 0) (.exit 0) (CW a b c d C e),.a (.qS [[some none],[none],[some none]] 0 [] [aP 4 E]),.p (ks prog 231 [GA.one (eM.e5 4 C none),GA.one (eM.ro (I e)),GA.one (eM.e5 4 [[I a,I b,I c,I d]] none)] [aP 4 E])]):
 ar 215 [aP 4 A,.agg [I a,I b,I c,I d]] [aP 4 E]:=
 h.of
theorem WJ(h:ad [.v ((A.length:Int)-1),.r 43 [ae a,ae 0,ae ((A.length:Int)-1)] [ak q]]):
 ar 117 [.agg (bz A b c),ae a] [ak q]:=
 h.of
theorem af9(h:ad [.b (a==d) true,.b (b==e) true]):
 ar 230 [.agg [I a,I b,I c,I g],.agg [I d,I e,I f,I i]] [ak (c==f)]:=
 h.of
theorem aga(h:ad [.b (a==c) true,.b (b==d) false]):
 ar 230 [.agg [I a,I b,I e,I f],.agg [I c,I d,I g,I i]] [ak false]:=
 h.of
theorem agb(h:ad [.b (a==b) false]):
 ar 230 [.agg [I a,I c,I d,I e],.agg [I b,I f,I g,I i]] [ak false]:=
 h.of
theorem agc(h:ad [.r 230 [.agg [I e,I f,I g,I i],.agg [I a,I b,I c,I d]] [ak q]]):
 ar 229 [.agg [I a,I b,I c,I d],.one (.ptr [I e,I f,I g,I i])] [ak q]:=
 h.of
theorem agd{A:af}{g1:Nat}{bm:List D}{a:Int}(h:ad [.r 235 [aP 4 A,.one (.cl g1 bm)] [ae a],.b (a==-1) true]):
 RC 228 [GA.one (eM.e5 4 A none),GA.one (eM.ro (D.cl g1 bm))] [aP 4 A]:=
 h.Tm
def wD(g0:Nat)(cA:List D)(a b:Int)(A:af):aD:=a' 42 [(0,aI.aF (bp.one (aB 1000000000 4 A))),(1,.aF (.one (.fd (D.cl g0 cA)))),(5,aT b),(6,aT a)] []
theorem age{g1:Nat}{bm:List D}{b a:Int}{A:af}{d e f c:Int}{q:Bool}{d12 d13 d14 d15:D}(h:ad (kp A b d e f c [.p (fX prog g1=true),.r g1 ([.agg [I d,I e,I f,I c]]++List.map .one bm) [ak q],.n q true,.x A a [d12,d13,d14,d15],.u a,.u b])):
 aV (ap f228 0) (wD g1 bm b a A) .normal (wD g1 bm (b+1) (a+1) (A.set a.toNat [I d,I e,I f,I c])):=
 h.aQ [6,0,1,5] []
theorem agf{g1:Nat}{bm:List D}{a c:Int}{A:af}{d e f b:Int}{q:Bool}(h:ad (kp A a d e f b [.p (fX prog g1=true),.r g1 ([.agg [I d,I e,I f,I b]]++List.map .one bm) [ak q],.n q false,.u a])):
 aV (ap f228 0) (wD g1 bm a c A) .normal (wD g1 bm (a+1) c A):=
 h.aQ [6,0,1,5] []
def NE(A:af)(a:Int):aD:=a' 42 [(0,aI.aF (bp.one (aB 1000000000 4 A))),(5,aT a)] []
theorem agh{g1:Nat}{bm:List D}{a b:Int}{A:af}(h:ad [.f A a false]):
 aV (ap f228 0) (wD g1 bm a b A) (.exit 0) (NE A b):=
 h.aQ [0,5] []
theorem agi{C:af}{g1:Nat}{bm:List D}{b:Int}{A:af}{a:Int}(h:ad [.r 235 [aP 4 C,.one (.cl g1 bm)] [ae b],.b (b==-1) false,.u b,.l [] [6,0,1,5] [] (ap f228 0) (wD g1 bm (b+1) b C) (.exit 0) (NE A a),.a .own,.p (0<=(some a).getD 0),.p ((some a).getD 0<(A.length:Int)),.h A,.p ((0:Int)<=none.getD 0),.p (none.getD 0<=(some a).getD (↑(List.take ((some a).getD 0).toNat A++List.replicate (A.length-((some a).getD 0).toNat) [I 0,I 0,I 0,I 0]).length:Int)),.p ((some a).getD (↑(List.take ((some a).getD 0).toNat A++List.replicate (A.length-((some a).getD 0).toNat) [I 0,I 0,I 0,I 0]).length:Int)<=(↑(List.take ((some a).getD 0).toNat A++List.replicate (A.length-((some a).getD 0).toNat) [I 0,I 0,I 0,I 0]).length:Int))]):
 RC 228 [GA.one (eM.e5 4 C none),GA.one (eM.ro (D.cl g1 bm))] [.one (.J 4 (List.take (((some a).getD (↑(List.take ((some a).getD 0).toNat A++List.replicate (A.length-((some a).getD 0).toNat) [I 0,I 0,I 0,I 0]).length:Int)).toNat-0) (List.drop 0 (List.take ((some a).getD 0).toNat A++List.replicate (A.length-((some a).getD 0).toNat) [I 0,I 0,I 0,I 0]))))]:=
 h.Tm
def pT(A:af)(a b c d:Int)(q:Bool)(e:Int):aD:=a' 41 [(1,aT a),(2,aT b),(3,aT c),(10,aT e),(11,.aF (.one (.bg q))),(14,dW 4 A),(15,aT (A.length:Int)),(16,aT d)] []
def IE(A:af)(a b c d e f g i:Int)(q:Bool)(l:List O):List O:=kp A a b c d e (.r 230 [.agg [I b,I c,I d,I e],.agg [I f,I g,I i,I 0]] [ak q]::l)
theorem agj(h:ad (IE A a f g i c b d e q [.b q true,.n r true,.u a])):
 aV (ap f227 0) (pT A b d e a r j) .normal (pT A b d e (a+1) true c):=
 h.aQ [16,15,14,1,2,3,11,10] []
theorem afJ(h:ad (IE A b g i j a c d e q [.b q true,.n r false,.b (decide (a<f)) true,.u b])):
 aV (ap f227 0) (pT A c d e b r f) .normal (pT A c d e (b+1) true a):=
 h.aQ [16,15,14,1,2,3,11,10] []
theorem afK(h:ad (IE A a g i j c b d e r [.b r true,.n q false,.b (decide (c<f)) false,.u a])):
 aV (ap f227 0) (pT A b d e a q f) .normal (pT A b d e (a+1) q f):=
 h.aQ [16,15,14,1,2,3,11,10] []
theorem afL(h:ad (IE A a g i j e b c d q [.b q false,.u a])):
 aV (ap f227 0) (pT A b c d a r f) .normal (pT A b c d (a+1) r f):=
 h.aQ [16,15,14,1,2,3,11,10] []
def WK(a:Int)(q:Bool):aD:=a' 41 [(10,aT a),(11,.aF (.one (.bg q)))] []
theorem afM(h:ad [.f A a false]):
 aV (ap f227 0) (pT A c d e a q b) (.exit 0) (WK b q):=
 h.aQ [10,11] []
theorem afN(h:ad [.l [] [16,15,14,1,2,3,11,10] [] (ap f227 0) (pT A a b c 0 false 0) (.exit 0) (WK d q)]):
 ar 227 [aP 4 A,ae a,ae b,ae c] [ae d,ak q]:=
 h.of
theorem afO(h:ad [.r 227 [aP 4 A,ae a,ae b,ae c] [ae e,ak q],.b q true,.b (decide (e<=d)) true,.r 176 [aP 4 A] [aP 4 C]]):
 ar 214 [aP 4 A,.agg [I a,I b,I c,I d]] [aP 4 C,ak false]:=
 h.of
theorem afP(h:ad [.r 227 [aP 4 A,ae a,ae b,ae c] [ae e,ak q],.b q true,.b (decide (e<=d)) false,.r 176 [aP 4 A] [aP 4 F],.a (.qS [[some none],[none]] 0 [] [aP 4 C]),.p (ks prog 228 [GA.one (eM.e5 4 F none),GA.one (eM.ro (D.cl 229 [D.ptr [I a,I b,I c,I d]]))] [aP 4 C]),.r 215 [aP 4 C,.agg [I a,I b,I c,I d]] [aP 4 E]]):
 ar 214 [aP 4 A,.agg [I a,I b,I c,I d]] [aP 4 E,ak true]:=
 h.of
theorem afQ(h:ad [.r 227 [aP 4 A,ae a,ae b,ae c] [ae e,ak q],.b q false,.r 176 [aP 4 A] [aP 4 F],.a (.qS [[some none],[none]] 0 [] [aP 4 C]),.p (ks prog 228 [GA.one (eM.e5 4 F none),GA.one (eM.ro (D.cl 229 [D.ptr [I a,I b,I c,I d]]))] [aP 4 C]),.r 215 [aP 4 C,.agg [I a,I b,I c,I d]] [aP 4 E]]):
 ar 214 [aP 4 A,.agg [I a,I b,I c,I d]] [aP 4 E,ak true]:=
 h.of
theorem afR(h:ad [.b (a==5) true,.b (a==5) true,.r 214 [aP 4 A,.agg [I b,I c,I d,I e]] [aP 4 C,ak q]]):
 ar 193 [ae a,aP 4 A,.agg [I b,I c,I d,I e]] [aP 4 C,ak q]:=
 h.of
theorem afS(h:ad [.b (a==5) false,.b (a==8) true,.r 214 [aP 4 A,.agg [I b,I c,I d,I e]] [aP 4 C,ak q]]):
 ar 193 [ae a,aP 4 A,.agg [I b,I c,I d,I e]] [aP 4 C,ak q]:=
 h.of
theorem ahk(h:ad [.b (a==5) false,.b (a==8) false,.b (a==6) true,.r 215 [aP 4 A,.agg [I b,I c,I d,I e]] [aP 4 C],.r 216 [aP 4 A,.agg [I b,I c,I d,I e]] [ak q]]):
 ar 193 [ae a,aP 4 A,.agg [I b,I c,I d,I e]] [aP 4 C,.one (B !q)]:=
 h.of
theorem ahl(h:ad [.b (a==5) false,.b (a==8) false,.b (a==6) false,.r 176 [aP 4 A] [aP 4 C]]):
 ar 193 [ae a,aP 4 A,.agg [I b,I c,I d,I e]] [aP 4 C,ak true]:=
 h.of
def yC(a b c d e:Int):aD:=a' 41 [(5,.aF (.one (.J (.own 27) 1 [[I a],[I b],[I c],[I d]]))),(6,aT e)] []
def NF(a:Int):aD:=a' 41 [(4,aT a)] []
theorem ahm(h:ad (IN a d e b c f [.b (f != 0) true,.x [[I d],[I e],[I b],[I c]] a [I g]])):
 aV (ap f166 0) (yC d e b c a) .ret (NF g):=
 h.aQ [4] []
theorem ahn(h:ad (IN a d e b c f [.b (f != 0) false,.u a])):
 aV (ap f166 0) (yC d e b c a) .normal (yC d e b c (a+1)):=
 h.aQ [6,5] []
def WL:aD:=a' 41 [] []
theorem aho(h:ad [.b (decide (a<4)) false]):
 aV (ap f166 0) (yC d e b c a) (.exit 0) WL:=
 h.aQ [] []
theorem ahp(h:ad [.r 151 [ae b,ae j] [ae m],.r 151 [ae a,ae i] [ae n],.r 151 [ae f,ae k] [ae c],.r 151 [ae g,ae l] [ae d],.l [] [6,5] [] (ap f166 0) (yC m n c d 0) .ret (NF e)]):
 ar 166 [.agg [I a,I b,I f,I g],.agg [I i,I j,I k,I l]] [ae e]:=
 h.of
theorem ahq(h:ad [.r 151 [ae b,ae i] [ae l],.r 151 [ae a,ae g] [ae m],.r 151 [ae e,ae j] [ae c],.r 151 [ae f,ae k] [ae d],.l [] [6,5] [] (ap f166 0) (yC l m c d 0) (.exit 0) WL]):
 ar 166 [.agg [I a,I b,I e,I f],.agg [I g,I i,I j,I k]] [ae 0]:=
 h.of
def yD(A:af)(a b c d e:Int):aD:=a' 18 [(0,dW 4 A),(3,aS 3),(5,aT e)] [(3,[av a,av b,av c,av d])]
def NG(q:Bool):aD:=a' 18 [(4,.aF (.one (.bg q)))] []
theorem ahr(h:ad (kp A e f g i j [.b (f==a&&(g==b&&(i==c&&j==d))) true])):
 aV (ap f218 0) (yD A a b c d e) .ret (NG true):=
 h.aQ [4] []
theorem ahs(h:ad (kp A a f g i j [.b (f==b&&(g==c&&(i==d&&j==e))) false,.u a])):
 aV (ap f218 0) (yD A b c d e a) .normal (yD A b c d e (a+1)):=
 h.aQ [5,0,3] [3]
def WM:aD:=a' 18 [] []
theorem aht(h:ad [.f A a false]):
 aV (ap f218 0) (yD A b c d e a) (.exit 0) WM:=
 h.aQ [] []
theorem ahu(h:ad [.l [] [5,0,3] [3] (ap f218 0) (yD A a b c d 0) .ret (NG q)]):
 ar 218 [aP 4 A,.agg [I a,I b,I c,I d]] [ak q]:=
 h.of
theorem ahv(h:ad [.l [] [5,0,3] [3] (ap f218 0) (yD A a b c d 0) (.exit 0) WM]):
 ar 218 [aP 4 A,.agg [I a,I b,I c,I d]] [ak false]:=
 h.of
theorem ahw(h:ad [.r 218 [aP 4 A,.agg [I a,I b,I c,I d]] [ak q],.b q true,.g ([]:af) A 32,.h A]):
 ar 219 [aP 4 A,.agg [I a,I b,I c,I d]] [aP 4 ([]++A)]:=
 h.of
def yE(A:af)(a b c d e:Int):aD:=a' 41 [(0,dW 4 A),(3,aS 3),(5,aT e)] [(3,[av a,av b,av c,av d])]
theorem ahx(h:ad (kp A a i j k f [.r 166 [.agg [I i,I j,I k,I f],.agg [I b,I c,I d,I e]] [ae g],.b (decide (g<0)) true,.u a])):
 aV (ap f219 0) (yE A b c d e a) .normal (yE A b c d e (a+1)):=
 h.aQ [5,0,3] [3]
def CX(A:af)(a b c d e:Int):aD:=a' 41 [(0,dW 4 A),(3,aS 3),(5,aT e)] [(3,[av a,av b,av c,av d])]
theorem ahy(h:ad (kp A e i j k f [.r 166 [.agg [I i,I j,I k,I f],.agg [I a,I b,I c,I d]] [ae g],.b (decide (g<0)) false])):
 aV (ap f219 0) (yE A a b c d e) (.exit 0) (CX A a b c d e):=
 h.aQ [0,5,3] [3]
theorem ahz(h:ad [.f A a false]):
 aV (ap f219 0) (yE A b c d e a) (.exit 0) (CX A b c d e a):=
 h.aQ [0,5,3] [3]
theorem ahA(h:ad [.r 218 [aP 4 A,.agg [I b,I c,I d,I e]] [ak q],.b q false,.l [] [5,0,3] [3] (ap f219 0) (yE A b c d e 0) (.exit 0) (CX A b c d e a),.p ((0:Int)<=none.getD 0),.p (none.getD 0<=(some a).getD (A.length:Int)),.p ((some a).getD (A.length:Int)<=(A.length:Int)),.p ((([]:af).length+(List.take (((some a).getD (A.length:Int)).toNat-0) (List.drop 0 A)).length)*32<=140737488355328),.p (([]:af).length+(List.take (((some a).getD (A.length:Int)).toNat-0) (List.drop 0 A)).length<=9223372036854775807),.p (Flat (List.take (((some a).getD (A.length:Int)).toNat-0) (List.drop 0 A))),.p ((([]++List.take (((some a).getD (A.length:Int)).toNat-0) (List.drop 0 A)).length+[[I b,I c,I d,I e]].length)*32<=140737488355328),.p (([]++List.take (((some a).getD (A.length:Int)).toNat-0) (List.drop 0 A)).length+[[I b,I c,I d,I e]].length<=9223372036854775807),.h [[I b,I c,I d,I e]],.p (0<=(some a).getD 0),.p ((some a).getD 0<=none.getD (A.length:Int)),.p (none.getD (A.length:Int)<=(A.length:Int)),.p ((([]++List.take (((some a).getD (A.length:Int)).toNat-0) (List.drop 0 A)++[[I b,I c,I d,I e]]).length+(List.take (A.length-((some a).getD 0).toNat) (List.drop ((some a).getD 0).toNat A)).length)*32<=140737488355328),.p (([]++List.take (((some a).getD (A.length:Int)).toNat-0) (List.drop 0 A)++[[I b,I c,I d,I e]]).length+(List.take (A.length-((some a).getD 0).toNat) (List.drop ((some a).getD 0).toNat A)).length<=9223372036854775807),.p (Flat (List.take (A.length-((some a).getD 0).toNat) (List.drop ((some a).getD 0).toNat A)))]):
 ar 219 [aP 4 A,.agg [I b,I c,I d,I e]] [.one (.J 4 ([]++List.take (((some a).getD (A.length:Int)).toNat-0) (List.drop 0 A)++[[I b,I c,I d,I e]]++List.take (A.length-((some a).getD 0).toNat) (List.drop ((some a).getD 0).toNat A)))]:=
 h.of
theorem ahB(h:ad [.v ((A.length:Int)-1),.r 44 [ae a,ae 0,ae ((A.length:Int)-1)] [ak q],.n q true]):
 ar 196 [.agg (bz A b c),ae a] [.agg (br 0 0 0 []),ak false]:=
 h.of
theorem ahC(h:ad [.v ((A.length:Int)-1),.r 44 [ae a,ae 0,ae ((A.length:Int)-1)] [ak q],.n q false,.x A a (br b c d C),.g ([]:af) C 8,.h C]):
 ar 196 [.agg (bz A e f),ae a] [.agg (br b c d ([]++C)),ak true]:=
 h.of
def mK(A:af)(a b c d:Int)(q:Bool)(e:Int):aD:=a' 54 [(0,dW 4 A),(1,aT a),(2,aT b),(3,aT c),(10,aT e),(11,.aF (.one (.bg q))),(12,aT d)] []
theorem ahD(h:ad (kp A a f g i e [.b (f==b) true,.b (g==c) true,.b (i==d) true,.n q true,.u a])):
 aV (ap f220 0) (mK A b c d a q j) .normal (mK A b c d (a+1) true e):=
 h.aQ [12,0,1,2,3,11,10] []
theorem ahE(h:ad (kp A a g i j c [.b (g==b) true,.b (i==d) true,.b (j==e) true,.n q false,.b (decide (c<f)) true,.u a])):
 aV (ap f220 0) (mK A b d e a q f) .normal (mK A b d e (a+1) true c):=
 h.aQ [12,0,1,2,3,11,10] []
theorem ahF(h:ad (kp A a g i j f [.b (g==b) true,.b (i==c) true,.b (j==d) true,.n q false,.b (decide (f<e)) false,.u a])):
 aV (ap f220 0) (mK A b c d a q e) .normal (mK A b c d (a+1) q e):=
 h.aQ [12,0,1,2,3,11,10] []
theorem ahG(h:ad (kp A a f g i j [.b (f==b) true,.b (g==c) true,.b (i==d) false,.u a])):
 aV (ap f220 0) (mK A b c d a q e) .normal (mK A b c d (a+1) q e):=
 h.aQ [12,0,1,2,3,11,10] []
theorem ahH(h:ad (kp A a f g j i [.b (f==b) true,.b (g==c) false,.u a])):
 aV (ap f220 0) (mK A b c d a q e) .normal (mK A b c d (a+1) q e):=
 h.aQ [12,0,1,2,3,11,10] []
theorem ahI(h:ad (kp A a f i j g [.b (f==b) false,.u a])):
 aV (ap f220 0) (mK A b c d a q e) .normal (mK A b c d (a+1) q e):=
 h.aQ [12,0,1,2,3,11,10] []
def WN(a:Int)(q:Bool):aD:=a' 54 [(10,aT a),(11,.aF (.one (.bg q)))] []
theorem ahJ(h:ad [.f A a false]):
 aV (ap f220 0) (mK A c d e a q b) (.exit 0) (WN b q):=
 h.aQ [10,11] []
theorem agU(h:ad [.l [] [12,0,1,2,3,11,10] [] (ap f220 0) (mK A a b c 0 false 0) (.exit 0) (WN d q)]):
 ar 220 [aP 4 A,ae a,ae b,ae c] [ae d,ak q]:=
 h.of
theorem agV(h:ad [.b (a==5) true]):
 ar 198 [ae a] [ak true]:=
 h.of
theorem agW(h:ad [.b (a==5) false,.b (a==6) true]):
 ar 198 [ae a] [ak true]:=
 h.of
theorem agX(h:ad [.b (a==5) false,.b (a==6) false]):
 ar 198 [ae a] [ak (a==8)]:=
 h.of
theorem agY(h:ad (IF A [.b (a==6) true,.r 218 [aP 4 A,.agg [I b,I c,I d,I e]] [ak q],.b q true])):
 ar 199 [ae a,aP 4 A,.agg [I b,I c,I d,I e]] [aP 4 ([]++A),ak false]:=
 h.of
theorem agZ(h:ad (IF A [.b (e==6) true,.r 218 [aP 4 A,.agg [I a,I b,I c,I d]] [ak q],.b q false,.r 219 [aP 4 A,.agg [I a,I b,I c,I d]] [aP 4 C]])):
 ar 199 [ae e,aP 4 A,.agg [I a,I b,I c,I d]] [aP 4 C,ak true]:=
 h.of
def Qu(A:af)(a:Int)(l:List O):List O:=IF A (.b (a==6) false::l)
def Qv(A:af)(a b c d e:Int)(q:Bool)(l:List O):List O:=Qu A a (.b (a==5) true::.b (a==5) true::.r 220 [aP 4 A,ae b,ae c,ae d] [ae e,ak q]::l)
theorem ag0(h:ad (Qv A a b c d f q [.b q true,.b (decide (f<=e)) true])):
 ar 199 [ae a,aP 4 A,.agg [I b,I c,I d,I e]] [aP 4 ([]++A),ak false]:=
 h.of
def mL(A:af)(a b c d e:Int)(C:af):aD:=a' 94 [(1,dW 4 A),(5,aS 5),(11,aI.aF (bp.one (aB 48 4 C))),(12,aT e)] [(5,[av a,av b,av c,av d])]
theorem ag1(h:ad (kp A a g l m n [.b (g != f) true,.x A a [I b,I c,I d,I e],.g C [[I b,I c,I d,I e]] 32,.h [[I b,I c,I d,I e]],.u a])):
 aV (ap f199 0) (mL A f i j k a C) .normal (mL A f i j k (a+1) (C++[[I b,I c,I d,I e]])):=
 h.aQ [12,1,5,11] [5]
theorem ag2(h:ad (kp A a i m n o [.b (i != f) false,.x A a [I p,I j,I a0,I b8],.b (j != g) true,.x A a [I b,I c,I d,I e],.g C [[I b,I c,I d,I e]] 32,.h [[I b,I c,I d,I e]],.u a])):
 aV (ap f199 0) (mL A f g k l a C) .normal (mL A f g k l (a+1) (C++[[I b,I c,I d,I e]])):=
 h.aQ [12,1,5,11] [5]
theorem ag3(h:ad (kp A a j n o p [.b (j != f) false,.x A a [I a0,I k,I b8,I c9],.b (k != g) false,.x A a [I d0,I bE,I l,I f0],.b (l != i) true,.x A a [I b,I c,I d,I e],.g C [[I b,I c,I d,I e]] 32,.h [[I b,I c,I d,I e]],.u a])):
 aV (ap f199 0) (mL A f g i m a C) .normal (mL A f g i m (a+1) (C++[[I b,I c,I d,I e]])):=
 h.aQ [12,1,5,11] [5]
theorem ag4(h:ad (kp A a e j k l [.b (e != b) false,.x A a [I m,I f,I n,I o],.b (f != c) false,.x A a [I p,I a0,I g,I b8],.b (g != d) false,.u a])):
 aV (ap f199 0) (mL A b c d i a C) .normal (mL A b c d i (a+1) C):=
 h.aQ [12,1,5,11] [5]
def z7(a b c d:Int)(A:af):aD:=a' 94 [(5,aS 5),(11,aI.aF (bp.one (aB 48 4 A)))] [(5,[av a,av b,av c,av d])]
theorem ag5(h:ad [.f A e false]):
 aV (ap f199 0) (mL A a b c d e C) (.exit 1) (z7 a b c d C):=
 h.aQ [11,5] [5]
theorem ag6(h:ad (Qv A e a b c f q [.b q true,.b (decide (f<=d)) false,.l [] [12,1,5,11] [5] (ap f199 0) (mL A a b c d 0 []) (.exit 1) (z7 a b c d C),.r 219 [aP 4 C,.agg [I a,I b,I c,I d]] [aP 4 E]])):
 ar 199 [ae e,aP 4 A,.agg [I a,I b,I c,I d]] [aP 4 E,ak true]:=
 h.of
theorem ag7(h:ad (Qv A d a b c f q [.b q false,.l [] [12,1,5,11] [5] (ap f199 0) (mL A a b c e 0 []) (.exit 1) (z7 a b c e C),.r 219 [aP 4 C,.agg [I a,I b,I c,I e]] [aP 4 E]])):
 ar 199 [ae d,aP 4 A,.agg [I a,I b,I c,I e]] [aP 4 E,ak true]:=
 h.of
def Qw(A:af)(a b c d e:Int)(q:Bool)(l:List O):List O:=Qu A a (.b (a==5) false::.b (a==8) true::.r 220 [aP 4 A,ae b,ae c,ae d] [ae e,ak q]::l)
theorem ag8(h:ad (Qw A a b c d f q [.b q true,.b (decide (f<=e)) true])):
 ar 199 [ae a,aP 4 A,.agg [I b,I c,I d,I e]] [aP 4 ([]++A),ak false]:=
 h.of
theorem ag9(h:ad (Qw A e a b c f q [.b q true,.b (decide (f<=d)) false,.l [] [12,1,5,11] [5] (ap f199 0) (mL A a b c d 0 []) (.exit 1) (z7 a b c d C),.r 219 [aP 4 C,.agg [I a,I b,I c,I d]] [aP 4 E]])):
 ar 199 [ae e,aP 4 A,.agg [I a,I b,I c,I d]] [aP 4 E,ak true]:=
 h.of
theorem aha(h:ad (Qw A d a b c f q [.b q false,.l [] [12,1,5,11] [5] (ap f199 0) (mL A a b c e 0 []) (.exit 1) (z7 a b c e C),.r 219 [aP 4 C,.agg [I a,I b,I c,I e]] [aP 4 E]])):
 ar 199 [ae d,aP 4 A,.agg [I a,I b,I c,I e]] [aP 4 E,ak true]:=
 h.of
theorem ahb(h:ad (Qu A a [.b (a==5) false,.b (a==8) false])):
 ar 199 [ae a,aP 4 A,.agg [I b,I c,I d,I e]] [aP 4 ([]++A),ak true]:=
 h.of
