import Derived.Test.YtdchjefneblpgaaGreatGE
set_option linter.unusedVariables false
set_option linter.unusedSimpArgs false
namespace Go.Proofs.YtdchjefneblpgaaGreat
open Go.Sx Go.RowKit Go.Proofs.Tryz
variable {a b c d e f g i j k l m n o p a0 b4 cW d0 bz f0 : Int} {A C E F G H al K L M N Q R S bl V X Y Z dL fS fT : af} {q r : Bool}
theorem amK(h:ad [.g ([]:af) A 40,.h A]):
 av 233 [a7 5 A] [a7 5 ([]++A)]:=
 h.of
def x6(a b:Int)(l:List O):List O:=.b (decide (a<b)) true::l
theorem amL(h:ad (x6 b a [])):
 av 130 [ae c,ae a,ae b] [ae a]:=
 h.of
def ub(a b:Int)(l:List O):List O:=.b (decide (a<b)) false::l
theorem amM(h:ad (ub c a [.b (decide (b<a)) true])):
 av 130 [ae b,ae a,ae c] [ae a]:=
 h.of
theorem amN(h:ad (ub a c [.b (decide (b<c)) false,.b (decide (b>a)) true])):
 av 130 [ae b,ae c,ae a] [ae a]:=
 h.of
theorem amO(h:ad (ub c b [.b (decide (a<b)) false,.b (decide (a>c)) false])):
 av 130 [ae a,ae b,ae c] [ae a]:=
 h.of
def Aq(a b:Int)(A:af):aH:=bj 62 [(3,aI.aJ (bq.one (aG 9 3 A))),(4,aZ a),(5,aZ b)] []
theorem amP(h:ad (x6 a b [.g A [[I 1,I a,I 0],[I 3,I a,I 0],[I 2,I a,I 0],[I 7,I a,I 0]] 24,.h [[I 1,I a,I 0],[I 3,I a,I 0],[I 2,I a,I 0],[I 7,I a,I 0]],.u a])):
 a1 (ar f129 0) (Aq b a A) .normal (Aq b (a+1) (A++[[I 1,I a,I 0],[I 3,I a,I 0],[I 2,I a,I 0],[I 7,I a,I 0]])):=
 h.aW [5,4,3] []
def Re(a:Int)(A:af):aH:=bj 62 [(3,aI.aJ (bq.one (aG 9 3 A))),(4,aZ a)] []
theorem amQ(h:ad (ub b a [])):
 a1 (ar f129 0) (Aq a b A) (.exit 0) (Re a A):=
 h.aW [4,3] []
def Ar(a b:Int)(A:af):aH:=bj 62 [(3,aI.aJ (bq.one (aG 9 3 A))),(4,aZ a),(6,aZ b)] []
def vQ(a b c:Int)(A:af):aH:=bj 62 [(3,aI.aJ (bq.one (aG 9 3 A))),(4,aZ a),(6,aZ b),(7,aZ c)] []
theorem amR(h:ad (x6 a c [.b (b != a) true,.g A [[I 4,I b,I a],[I 5,I b,I a]] 24,.h [[I 4,I b,I a],[I 5,I b,I a]],.u a])):
 a1 (ar f129 2) (vQ c b a A) .normal (vQ c b (a+1) (A++[[I 4,I b,I a],[I 5,I b,I a]])):=
 h.aW [7,4,6,3] []
theorem amS(h:ad (x6 a b [.b (c != a) false,.u a])):
 a1 (ar f129 2) (vQ b c a A) .normal (vQ b c (a+1) A):=
 h.aW [7,4,6,3] []
def Rf(a b:Int)(A:af):aH:=bj 62 [(3,aI.aJ (bq.one (aG 9 3 A))),(4,aZ a),(6,aZ b)] []
theorem amT(h:ad (ub b a [])):
 a1 (ar f129 2) (vQ a c b A) (.exit 4) (Rf a c A):=
 h.aW [6,4,3] []
theorem amU(h:ad (x6 a b [.l [] [7,4,6,3] [] (ar f129 2) (vQ b a 0 A) (.exit 4) (Rf b a C),.u a])):
 a1 (ar f129 1) (Ar b a A) .normal (Ar b (a+1) C):=
 h.aW [6,4,3] []
def Rg(A:af):aH:=bj 62 [(3,aI.aJ (bq.one (aG 9 3 A)))] []
theorem amV(h:ad (ub b a [])):
 a1 (ar f129 1) (Ar a b A) (.exit 2) (Rg A):=
 h.aW [3] []
def As(a:Int)(A:af):aH:=bj 62 [(3,aI.aJ (bq.one (aG 9 3 A))),(8,aZ a)] []
theorem amW(h:ad [.b (decide (a<=3)) true,.g A [[I 6,I a,I 0]] 24,.h [[I 6,I a,I 0]],.u a]):
 a1 (ar f129 3) (As a A) .normal (As (a+1) (A++[[I 6,I a,I 0]])):=
 h.aW [8,3] []
def Rh(A:af):aH:=bj 62 [(3,aI.aJ (bq.one (aG 9 3 A)))] []
theorem al7(h:ad [.b (decide (a<=3)) false]):
 a1 (ar f129 3) (As a A) (.exit 6) (Rh A):=
 h.aW [3] []
theorem al8(h:ad [.r 130 [ae b,ae 0,ae 4] [ae a],.l [] [5,4,3] [] (ar f129 0) (Aq a 0 []) (.exit 0) (Re a C),.l [] [6,4,3] [] (ar f129 1) (Ar a 0 C) (.exit 2) (Rg E),.l [] [8,3] [] (ar f129 3) (As 0 E) (.exit 6) (Rh A)]):
 av 129 [.agg (cl F b c G H al K)] [a7 3 A]:=
 h.of
theorem al9(h:ad [.b (decide (a>=b)) true]):
 av 190 [ae a,ae b,ae c] [ao (decide (a<=c))]:=
 h.of
theorem ama(h:ad [.b (decide (a>=b)) false]):
 av 190 [ae a,ae b,ae c] [ao false]:=
 h.of
theorem amb(h:ad [.b (decide (a>=b)) true]):
 av 168 [ae a,ae b,ae c] [ao (decide (a<=c))]:=
 h.of
theorem amc(h:ad [.b (decide (a>=b)) false]):
 av 168 [ae a,ae b,ae c] [ao false]:=
 h.of
theorem amd(h:ad (x6 a b [])):
 av 322 [ae a,ae b] [ae (-1)]:=
 h.of
theorem ame(h:ad (ub a b [.b (decide (a>b)) true])):
 av 322 [ae a,ae b] [ae 1]:=
 h.of
theorem amf(h:ad (ub a b [.b (decide (a>b)) false])):
 av 322 [ae a,ae b] [ae 0]:=
 h.of
theorem amg(a:Int)(h:ad []):
 av 388 [ae a] [ao (a != a)]:=
 h.of
def LI(a:Int)(q:Bool)(b:Int)(r:Bool)(l:List O):List O:=.r 388 [ae a] [ao q]::.r 388 [ae b] [ao r]::.b q false::.b r false::l
theorem amh(h:ad (LI a q b r [.b (decide (a<b)) true])):
 av 382 [ae a,ae b] [ae (-1)]:=
 h.of
theorem ami(h:ad (LI a q b r [.b (decide (a<b)) false,.b (decide (a>b)) true])):
 av 382 [ae a,ae b] [ae 1]:=
 h.of
theorem amj(h:ad (LI a q b r [.b (decide (a<b)) false,.b (decide (a>b)) false])):
 av 382 [ae a,ae b] [ae 0]:=
 h.of
def vR(A C:af)(a:Int):aH:=bj 36 [(0,dJ 1 A),(1,dJ 1 C),(9,dJ 1 A),(10,aZ (A.length:Int)),(11,aZ a)] []
def Ke(a:Int):aH:=bj 36 [(4,aZ a)] []
theorem amk(h:ad [.i C a [I c],.b (decide (a>=(A.length:Int))) false,.x A a [I d],.r 382 [ae c,ae d] [ae b],.b (b != 0) true]):
 a1 (ar f364 0) (vR C A a) .ret (Ke b):=
 h.aW [4] []
theorem aml(h:ad [.i C a [I b],.b (decide (a>=(A.length:Int))) false,.x A a [I c],.r 382 [ae b,ae c] [ae d],.b (d != 0) false,.u a]):
 a1 (ar f364 0) (vR C A a) .normal (vR C A (a+1)):=
 h.aW [11,10,9,1,0] []
def Ri(A C:af):aH:=bj 36 [(0,dJ 1 A),(1,dJ 1 C)] []
theorem amm(h:ad [.f A a false]):
 a1 (ar f364 0) (vR A C a) (.exit 0) (Ri A C):=
 h.aW [0,1] []
theorem amn(h:ad [.l [] [11,10,9,1,0] [] (ar f364 0) (vR A C 0) .ret (Ke a)]):
 av 364 [a7 1 A,a7 1 C] [ae a]:=
 h.of
theorem amo(h:ad [.l [] [11,10,9,1,0] [] (ar f364 0) (vR A C 0) (.exit 0) (Ri A C),.f C (A.length:Int) false]):
 av 364 [a7 1 A,a7 1 C] [ae 0]:=
 h.of
theorem amp(h:ad [.r 364 [a7 1 A,a7 1 C] [ae a]]):
 av 335 [a7 1 A,a7 1 C] [ae a]:=
 h.of
theorem amq(h:ad [.r 322 [ae b,ae c] [ae a],.b (a != 0) true]):
 av 314 [.agg [I b,I d],.agg [I c,I e]] [ae a]:=
 h.of
theorem amr(h:ad [.r 322 [ae a,ae c] [ae e],.b (e != 0) false,.r 322 [ae b,ae d] [ae f]]):
 av 314 [.agg [I a,I b],.agg [I c,I d]] [ae f]:=
 h.of
def vS(a b c d e:Int):aH:=bj 41 [(5,.aJ (.one (.J (.own 27) 1 [[I a],[I b],[I c],[I d]]))),(6,aZ e)] []
def Kf(a:Int):aH:=bj 41 [(4,aZ a)] []
def EP(a b c d e f:Int)(l:List O):List O:=.b (decide (a<4)) true::.x [[I b],[I c],[I d],[I e]] a [I f]::l
theorem ams(h:ad (EP a b c d e f [.b (f != 0) true,.x [[I b],[I c],[I d],[I e]] a [I g]])):
 a1 (ar f264 0) (vS b c d e a) .ret (Kf g):=
 h.aW [4] []
theorem amt(h:ad (EP a b c d e f [.b (f != 0) false,.u a])):
 a1 (ar f264 0) (vS b c d e a) .normal (vS b c d e (a+1)):=
 h.aW [6,5] []
def Rj:aH:=bj 41 [] []
theorem amu(h:ad [.b (decide (a<4)) false]):
 a1 (ar f264 0) (vS b c d e a) (.exit 0) Rj:=
 h.aW [] []
theorem amv(h:ad [.r 314 [.agg [I b,I i],.agg [I m,I n]] [ae c],.r 322 [ae a,ae l] [ae d],.r 322 [ae j,ae o] [ae e],.r 322 [ae k,ae p] [ae f],.l [] [6,5] [] (ar f264 0) (vS c d e f 0) .ret (Kf g)]):
 av 264 [.agg (bi a b i j k),.agg (bi l m n o p)] [ae g]:=
 h.of
theorem amw(h:ad [.r 314 [.agg [I b,I g],.agg [I l,I m]] [ae c],.r 322 [ae a,ae k] [ae d],.r 322 [ae i,ae n] [ae e],.r 322 [ae j,ae o] [ae f],.l [] [6,5] [] (ar f264 0) (vS c d e f 0) (.exit 0) Rj]):
 av 264 [.agg (bi a b g i j),.agg (bi k l m n o)] [ae 0]:=
 h.of
def oY(a:Int)(A:af):aH:=bj 48 [(3,aI.aJ (bq.one (aG 7 5 A))),(4,aZ a)] []
def tI(a b:Int)(A:af)(c d e f g:Int):aH:=bj 48 [(3,aI.aJ (bq.one (aG 7 5 A))),(4,aZ a),(5,aR 5),(6,aZ b)] [(5,[aw c,aw d,aw e,aw f,aw g])]
def UG(a:Int)(A:af)(b c d e f g i j k m n:Int)(l:List O):List O:=.b (decide (a>0)) true::.v (a-1)::.p (0<=a-1)::.p (a-1<(A.length:Int))::.e A ((a-1).toNat) (bi b c d e f)::.r 264 [.agg (bi g i j k m),.agg (bi b c d e f)] [ae n]::l
theorem alX{g a:Int}{A:af}{b c d e f i j k l m n o p a0 b4 cW:Int}{d26 d27 d28 d29 d30:D}(h:ad (UG a A i j k l m b c d e f n [.b (decide (n<0)) true,.v (a-1),.p (0<=a-1),.p (a-1<(A.length:Int)),.e A ((a-1).toNat) (bi o p a0 b4 cW),.x A a [d26,d27,d28,d29,d30],.v (a-1)])):
 a1 (ar f165 1) (tI g a A b c d e f) .normal (tI g (a-1) (A.set a.toNat (bi o p a0 b4 cW)) b c d e f):=
 h.aW [6,5,3,4] [5]
def De(a:Int)(A:af)(b c d e f g:Int):aH:=bj 48 [(3,aI.aJ (bq.one (aG 7 5 A))),(4,aZ a),(5,aR 5),(6,aZ b)] [(5,[aw c,aw d,aw e,aw f,aw g])]
theorem alY(h:ad (UG a A i j k l m b c d e f n [.b (decide (n<0)) false])):
 a1 (ar f165 1) (tI g a A b c d e f) (.exit 2) (De g A a b c d e f):=
 h.aW [3,6,5,4] [5]
theorem alZ(h:ad [.b (decide (a>0)) false]):
 a1 (ar f165 1) (tI b a A c d e f g) (.exit 2) (De b A a c d e f g):=
 h.aW [3,6,5,4] [5]
theorem al0{a:Int}{A:af}{i j k l m:Int}{C:af}{b c d e f g:Int}{d15 d16 d17 d18 d19:D}(h:ad [.i A a (bi i j k l m),.l [] [6,5,3,4] [5] (ar f165 1) (tI a a A i j k l m) (.exit 2) (De a C b c d e f g),.x C b [d15,d16,d17,d18,d19],.u a]):
 a1 (ar f165 0) (oY a A) .normal (oY (a+1) (C.set b.toNat (bi c d e f g))):=
 h.aW [4,3] []
def Df(A:af):aH:=bj 48 [(3,aI.aJ (bq.one (aG 7 5 A)))] []
theorem Rk(h:ad [.f A a false]):
 a1 (ar f165 0) (oY a A) (.exit 0) (Df A):=
 h.aW [3] []
theorem al1(h:ad [.g ([]:af) A 40,.h A,.l [] [4,3] [] (ar f165 0) (oY 1 ([]++A)) (.exit 0) (Df C)]):
 av 165 [a7 5 A] [a7 5 C]:=
 h.of
def xF(A:af)(a b:Int)(C E F G:af)(c:Int)(H:af):aH:=bj 46 [(1,aR 1),(3,aI.aJ (bq.one (aG 6 5 H))),(4,aZ c)] [(1,[.J .free 4 A,aw a,aw b,.J .free 8 C,.J .free 6 E,.J .free 5 F,.J .free 3 G])]
theorem al2(h:ad [.i E a (ba A L M N Q R S bl),.g F A 40,.h A,.x E a (ba V C X Y Z dL fS fT),.g (F++A) C 40,.h C,.u a]):
 a1 (ar f38 0) (xF G b c E H al K a F) .normal (xF G b c E H al K (a+1) (F++A++C)):=
 h.aW [4,1,3] [1]
def Rl(A:af)(a b:Int)(C E F G H:af):aH:=bj 46 [(1,aR 1),(3,aI.aJ (bq.one (aG 6 5 H)))] [(1,[.J .free 4 A,aw a,aw b,.J .free 8 C,.J .free 6 E,.J .free 5 F,.J .free 3 G])]
theorem al3(h:ad [.f A c false]):
 a1 (ar f38 0) (xF C a b A E F G c H) (.exit 0) (Rl C a b A E F G H):=
 h.aW [1,3] [1]
def xG(A:af)(a b:Int)(C E F G:af)(c:Int)(H:af):aH:=bj 46 [(1,aR 1),(3,aI.aJ (bq.one (aG 6 5 H))),(5,aZ c)] [(1,[.J .free 4 A,aw a,aw b,.J .free 8 C,.J .free 6 E,.J .free 5 F,.J .free 3 G])]
theorem al4(h:ad [.i C a (bO d A e f g i),.g E A 40,.h A,.u a]):
 a1 (ar f38 1) (xG F b c G C H al a E) .normal (xG F b c G C H al (a+1) (E++A)):=
 h.aW [5,1,3] [1]
def Rm(A:af):aH:=bj 46 [(3,aI.aJ (bq.one (aG 6 5 A)))] []
theorem al5(h:ad [.f A a false]):
 a1 (ar f38 1) (xG E b c F A G H a C) (.exit 2) (Rm C):=
 h.aW [3] []
theorem al6(h:ad [.l [] [4,1,3] [1] (ar f38 0) (xF A a b C E F G 0 []) (.exit 0) (Rl A a b C E F G H),.l [] [5,1,3] [1] (ar f38 1) (xG A a b C E F G 0 H) (.exit 2) (Rm al),.r 165 [a7 5 al] [a7 5 K]]):
 av 38 [.agg (cl A a b C E F G)] [a7 5 K]:=
 h.of
def vT(A:af)(a b:Int)(C:af):aH:=bj 30 [(0,dJ 5 A),(1,aZ a),(5,aI.aJ (bq.one (aG 7 5 C))),(6,aZ b)] []
theorem anA(h:ad [.i A a (bi j i k l m),.b (i==g) true,.x A a (bi f b c d e),.g C [(bi f b c d e)] 40,.h [(bi f b c d e)],.u a]):
 a1 (ar f116 0) (vT A g a C) .normal (vT A g (a+1) (C++[(bi f b c d e)])):=
 h.aW [6,0,1,5] []
theorem anB(h:ad [.i A a (bi d c e f g),.b (c==b) false,.u a]):
 a1 (ar f116 0) (vT A b a C) .normal (vT A b (a+1) C):=
 h.aW [6,0,1,5] []
def Rn(A:af):aH:=bj 30 [(5,aI.aJ (bq.one (aG 7 5 A)))] []
theorem anC(h:ad [.f A a false]):
 a1 (ar f116 0) (vT A b a C) (.exit 0) (Rn C):=
 h.aW [5] []
theorem anD(h:ad [.l [] [6,0,1,5] [] (ar f116 0) (vT A a 0 []) (.exit 0) (Rn C)]):
 av 116 [a7 5 A,ae a] [a7 5 C]:=
 h.of
def vU(A C E F G H al K:af)(a b:Int):aH:=bj 21 [(1,aZ a),(2,aR 2),(5,aZ b)] [(2,[.J .free 5 A,.J .free 5 C,.J .free 5 E,.J .free 4 F,.J .free 1 G,.J .free 1 H,.J .free 1 al,.J .free 2 K])]
def Kg(q:Bool):aH:=bj 21 [(4,.aJ (.one (.bc q)))] []
theorem anE(h:ad [.i A c [I a,B q],.b (a==b) true]):
 a1 (ar f213 0) (vU C E F G H al K A b c) .ret (Kg true):=
 h.aW [4] []
theorem anF(h:ad [.i A a [I c,B q],.b (c==b) false,.u a]):
 a1 (ar f213 0) (vU C E F G H al K A b a) .normal (vU C E F G H al K A b (a+1)):=
 h.aW [5,2,1] [2]
def Ro:aH:=bj 21 [] []
theorem anG(h:ad [.f A a false]):
 a1 (ar f213 0) (vU C E F G H al K A b a) (.exit 0) Ro:=
 h.aW [] []
theorem anH(h:ad [.l [] [5,2,1] [2] (ar f213 0) (vU A C E F G H al K a 0) .ret (Kg q)]):
 av 213 [.agg (ba A C E F G H al K),ae a] [ao q]:=
 h.of
theorem anI(h:ad [.l [] [5,2,1] [2] (ar f213 0) (vU A C E F G H al K a 0) (.exit 0) Ro]):
 av 213 [.agg (ba A C E F G H al K),ae a] [ao false]:=
 h.of
theorem anJ(h:ad [.r 328 [a7 2 A,.one (.cl 329 [D.ptr [I a]])] [ao q]]):
 av 281 [a7 2 A,ae a] [ao q]:=
 h.of
theorem anK(h:ad []):
 av 329 [.agg [I a,B q],.one (.ptr [I b])] [ao (a==b)]:=
 h.of
def vV(A:af)(g1:Nat)(cA:List D)(a:Int):aH:=bj 19 [(0,dJ 2 A),(1,.aJ (.one (.fd (D.cl g1 cA)))),(7,aZ (A.length:Int)),(8,aZ a)] []
def Kh(a:Int):aH:=bj 19 [(4,aZ a)] []
theorem anL{A:af}{g1:Nat}{cA:List D}{a b:Int}{q r:Bool}(h:ad [.i A a [I b,B q],.p (lj prog g1=true),.r g1 ([.agg [I b,B q]]++List.map .one cA) [ao r],.b r true]):
 a1 (ar f352 0) (vV A g1 cA a) .ret (Kh a):=
 h.aW [4] []
theorem anM{A:af}{g1:Nat}{cA:List D}{a b:Int}{q r:Bool}(h:ad [.i A a [I b,B q],.p (lj prog g1=true),.r g1 ([.agg [I b,B q]]++List.map .one cA) [ao r],.b r false,.u a]):
 a1 (ar f352 0) (vV A g1 cA a) .normal (vV A g1 cA (a+1)):=
 h.aW [8,7,1,0] []
def Rp:aH:=bj 19 [] []
theorem anN{A:af}{g1:Nat}{cA:List D}{a:Int}(h:ad [.f A a false]):
 a1 (ar f352 0) (vV A g1 cA a) (.exit 0) Rp:=
 h.aW [] []
theorem anO{A:af}{g1:Nat}{cA:List D}{a:Int}(h:ad [.l [] [8,7,1,0] [] (ar f352 0) (vV A g1 cA 0) .ret (Kh a)]):
 av 352 [a7 2 A,.one (.cl g1 cA)] [ae a]:=
 h.of
theorem anP{A:af}{g1:Nat}{cA:List D}(h:ad [.l [] [8,7,1,0] [] (ar f352 0) (vV A g1 cA 0) (.exit 0) Rp]):
 av 352 [a7 2 A,.one (.cl g1 cA)] [ae (-1)]:=
 h.of
theorem anQ{A:af}{g1:Nat}{cA:List D}{a:Int}(h:ad [.r 352 [a7 2 A,.one (.cl g1 cA)] [ae a]]):
 av 328 [a7 2 A,.one (.cl g1 cA)] [ao (decide (a>=0))]:=
 h.of
end Go.Proofs.YtdchjefneblpgaaGreat
namespace Go.Proofs.YtdchjefneblpgaaGreat
open Go.Sx Go.RowKit Go.Proofs.Tryz
variable {a b c d e f g i j k l m n o p a0 b4 cW d0 bz f0 : Int} {A C E F G H al K L M N Q R S bl V X Y Z dL fS fT : af} {q r : Bool}
def EQ(A:af)(l:List O):List O:=.g ([]:af) A 32::.h A::l
theorem anR(h:ad (EQ A [])):
 av 297 [a7 4 A] [a7 4 ([]++A)]:=
 h.of
theorem anS(h:ad [.r 335 [.one (.J 1 [[I b],[I a],[I c],[I d]]),.one (.J 1 [[I f],[I e],[I g],[I i]])] [ae j]]):
 av 304 [.agg [I a,I b,I c,I d],.agg [I e,I f,I g,I i]] [ae j]:=
 h.of
theorem Rq(h:ad [.v ((A.length:Int)-1),.r 190 [ae a,ae 0,ae ((A.length:Int)-1)] [ao q]]):
 av 250 [.agg (bD A b c),ae a] [ao q]:=
 h.of
def vW(a b c d e:Int):aH:=bj 41 [(5,.aJ (.one (.J (.own 27) 1 [[I a],[I b],[I c],[I d]]))),(6,aZ e)] []
def Ki(a:Int):aH:=bj 41 [(4,aZ a)] []
theorem anT(h:ad (EP a d e b c f [.b (f != 0) true,.x [[I d],[I e],[I b],[I c]] a [I g]])):
 a1 (ar f307 0) (vW d e b c a) .ret (Ki g):=
 h.aW [4] []
theorem anU(h:ad (EP a d e b c f [.b (f != 0) false,.u a])):
 a1 (ar f307 0) (vW d e b c a) .normal (vW d e b c (a+1)):=
 h.aW [6,5] []
def Rr:aH:=bj 41 [] []
theorem anV(h:ad [.b (decide (a<4)) false]):
 a1 (ar f307 0) (vW d e b c a) (.exit 0) Rr:=
 h.aW [] []
theorem anW(h:ad [.r 322 [ae b,ae j] [ae m],.r 322 [ae a,ae i] [ae n],.r 322 [ae f,ae k] [ae c],.r 322 [ae g,ae l] [ae d],.l [] [6,5] [] (ar f307 0) (vW m n c d 0) .ret (Ki e)]):
 av 307 [.agg [I a,I b,I f,I g],.agg [I i,I j,I k,I l]] [ae e]:=
 h.of
theorem anX(h:ad [.r 322 [ae b,ae i] [ae l],.r 322 [ae a,ae g] [ae m],.r 322 [ae e,ae j] [ae c],.r 322 [ae f,ae k] [ae d],.l [] [6,5] [] (ar f307 0) (vW l m c d 0) (.exit 0) Rr]):
 av 307 [.agg [I a,I b,I e,I f],.agg [I g,I i,I j,I k]] [ae 0]:=
 h.of
def ve(A:af)(a b c d e:Int):aH:=bj 18 [(0,dJ 4 A),(3,aR 3),(5,aZ e)] [(3,[aw a,aw b,aw c,aw d])]
def Kj(q:Bool):aH:=bj 18 [(4,.aJ (.one (.bc q)))] []
theorem anY(h:ad [.i A e [I f,I g,I i,I j],.b (f==a&&(g==b&&(i==c&&j==d))) true]):
 a1 (ar f306 0) (ve A a b c d e) .ret (Kj true):=
 h.aW [4] []
theorem anZ(h:ad [.i A a [I f,I g,I i,I j],.b (f==b&&(g==c&&(i==d&&j==e))) false,.u a]):
 a1 (ar f306 0) (ve A b c d e a) .normal (ve A b c d e (a+1)):=
 h.aW [5,0,3] [3]
def Rs:aH:=bj 18 [] []
theorem am7(h:ad [.f A a false]):
 a1 (ar f306 0) (ve A b c d e a) (.exit 0) Rs:=
 h.aW [] []
theorem am8(h:ad [.l [] [5,0,3] [3] (ar f306 0) (ve A a b c d 0) .ret (Kj q)]):
 av 306 [a7 4 A,.agg [I a,I b,I c,I d]] [ao q]:=
 h.of
theorem am9(h:ad [.l [] [5,0,3] [3] (ar f306 0) (ve A a b c d 0) (.exit 0) Rs]):
 av 306 [a7 4 A,.agg [I a,I b,I c,I d]] [ao false]:=
 h.of
theorem ana(h:ad [.r 306 [a7 4 A,.agg [I a,I b,I c,I d]] [ao q],.b q true,.g ([]:af) A 32,.h A]):
 av 238 [a7 4 A,.agg [I a,I b,I c,I d]] [a7 4 ([]++A)]:=
 h.of
def vf(A:af)(a b c d e:Int):aH:=bj 41 [(0,dJ 4 A),(3,aR 3),(5,aZ e)] [(3,[aw a,aw b,aw c,aw d])]
theorem anb(h:ad [.i A a [I i,I j,I k,I f],.r 307 [.agg [I i,I j,I k,I f],.agg [I b,I c,I d,I e]] [ae g],.b (decide (g<0)) true,.u a]):
 a1 (ar f238 0) (vf A b c d e a) .normal (vf A b c d e (a+1)):=
 h.aW [5,0,3] [3]
def Au(A:af)(a b c d e:Int):aH:=bj 41 [(0,dJ 4 A),(3,aR 3),(5,aZ e)] [(3,[aw a,aw b,aw c,aw d])]
theorem anc(h:ad [.i A e [I i,I j,I k,I f],.r 307 [.agg [I i,I j,I k,I f],.agg [I a,I b,I c,I d]] [ae g],.b (decide (g<0)) false]):
 a1 (ar f238 0) (vf A a b c d e) (.exit 0) (Au A a b c d e):=
 h.aW [0,5,3] [3]
theorem ane(h:ad [.f A a false]):
 a1 (ar f238 0) (vf A b c d e a) (.exit 0) (Au A b c d e a):=
 h.aW [0,5,3] [3]
theorem anf(h:ad [.r 306 [a7 4 A,.agg [I b,I c,I d,I e]] [ao q],.b q false,.l [] [5,0,3] [3] (ar f238 0) (vf A b c d e 0) (.exit 0) (Au A b c d e a),.p ((0:Int)<=none.getD 0),.p (none.getD 0<=(some a).getD (A.length:Int)),.p ((some a).getD (A.length:Int)<=(A.length:Int)),.p ((([]:af).length+(List.take (((some a).getD (A.length:Int)).toNat-0) (List.drop 0 A)).length)*32<=140737488355328),.p (([]:af).length+(List.take (((some a).getD (A.length:Int)).toNat-0) (List.drop 0 A)).length<=9223372036854775807),.p (Flat (List.take (((some a).getD (A.length:Int)).toNat-0) (List.drop 0 A))),.p ((([]++List.take (((some a).getD (A.length:Int)).toNat-0) (List.drop 0 A)).length+[[I b,I c,I d,I e]].length)*32<=140737488355328),.p (([]++List.take (((some a).getD (A.length:Int)).toNat-0) (List.drop 0 A)).length+[[I b,I c,I d,I e]].length<=9223372036854775807),.h [[I b,I c,I d,I e]],.p (0<=(some a).getD 0),.p ((some a).getD 0<=none.getD (A.length:Int)),.p (none.getD (A.length:Int)<=(A.length:Int)),.p ((([]++List.take (((some a).getD (A.length:Int)).toNat-0) (List.drop 0 A)++[[I b,I c,I d,I e]]).length+(List.take (A.length-((some a).getD 0).toNat) (List.drop ((some a).getD 0).toNat A)).length)*32<=140737488355328),.p (([]++List.take (((some a).getD (A.length:Int)).toNat-0) (List.drop 0 A)++[[I b,I c,I d,I e]]).length+(List.take (A.length-((some a).getD 0).toNat) (List.drop ((some a).getD 0).toNat A)).length<=9223372036854775807),.p (Flat (List.take (A.length-((some a).getD 0).toNat) (List.drop ((some a).getD 0).toNat A)))]):
 av 238 [a7 4 A,.agg [I b,I c,I d,I e]] [.one (.J 4 ([]++List.take (((some a).getD (A.length:Int)).toNat-0) (List.drop 0 A)++[[I b,I c,I d,I e]]++List.take (A.length-((some a).getD 0).toNat) (List.drop ((some a).getD 0).toNat A)))]:=
 h.of
theorem ang(h:ad [.v ((A.length:Int)-1),.r 168 [ae a,ae 0,ae ((A.length:Int)-1)] [ao q],.n q true]):
 av 249 [.agg (bD A b c),ae a] [.agg (bk 0 0 0 []),ao false]:=
 h.of
theorem anh(h:ad [.v ((A.length:Int)-1),.r 168 [ae a,ae 0,ae ((A.length:Int)-1)] [ao q],.n q false,.x A a (bk b c d C),.g ([]:af) C 8,.h C]):
 av 249 [.agg (bD A e f),ae a] [.agg (bk b c d ([]++C)),ao true]:=
 h.of
def kS(A:af)(a b c d:Int)(q:Bool)(e:Int):aH:=bj 54 [(0,dJ 4 A),(1,aZ a),(2,aZ b),(3,aZ c),(10,aZ e),(11,.aJ (.one (.bc q))),(12,aZ d)] []
def EG(A:af)(a b c d e f g:Int)(l:List O):List O:=.i A a [I b,I c,I d,I e]::.b (b==f) true::.b (c==g) true::l
theorem ani(h:ad (EG A a f g i e b c [.b (i==d) true,.n q true,.u a])):
 a1 (ar f324 0) (kS A b c d a q j) .normal (kS A b c d (a+1) true e):=
 h.aW [12,0,1,2,3,11,10] []
theorem anj(h:ad (EG A a g i j c b d [.b (j==e) true,.n q false,.b (decide (c<f)) true,.u a])):
 a1 (ar f324 0) (kS A b d e a q f) .normal (kS A b d e (a+1) true c):=
 h.aW [12,0,1,2,3,11,10] []
theorem ank(h:ad (EG A a g i j f b c [.b (j==d) true,.n q false,.b (decide (f<e)) false,.u a])):
 a1 (ar f324 0) (kS A b c d a q e) .normal (kS A b c d (a+1) q e):=
 h.aW [12,0,1,2,3,11,10] []
theorem anl(h:ad (EG A a f g i j b c [.b (i==d) false,.u a])):
 a1 (ar f324 0) (kS A b c d a q e) .normal (kS A b c d (a+1) q e):=
 h.aW [12,0,1,2,3,11,10] []
theorem anm(h:ad [.i A a [I f,I g,I j,I i],.b (f==b) true,.b (g==c) false,.u a]):
 a1 (ar f324 0) (kS A b c d a q e) .normal (kS A b c d (a+1) q e):=
 h.aW [12,0,1,2,3,11,10] []
theorem ann(h:ad [.i A a [I f,I i,I j,I g],.b (f==b) false,.u a]):
 a1 (ar f324 0) (kS A b c d a q e) .normal (kS A b c d (a+1) q e):=
 h.aW [12,0,1,2,3,11,10] []
def Rt(a:Int)(q:Bool):aH:=bj 54 [(10,aZ a),(11,.aJ (.one (.bc q)))] []
theorem ano(h:ad [.f A a false]):
 a1 (ar f324 0) (kS A c d e a q b) (.exit 0) (Rt b q):=
 h.aW [10,11] []
theorem anp(h:ad [.l [] [12,0,1,2,3,11,10] [] (ar f324 0) (kS A a b c 0 false 0) (.exit 0) (Rt d q)]):
 av 324 [a7 4 A,ae a,ae b,ae c] [ae d,ao q]:=
 h.of
theorem anq(h:ad [.b (a==5) true]):
 av 268 [ae a] [ao true]:=
 h.of
theorem anr(h:ad [.b (a==5) false,.b (a==6) true]):
 av 268 [ae a] [ao true]:=
 h.of
theorem ant(h:ad [.b (a==5) false,.b (a==6) false]):
 av 268 [ae a] [ao (a==8)]:=
 h.of
theorem anu(h:ad (EQ A [.b (a==6) true,.r 306 [a7 4 A,.agg [I b,I c,I d,I e]] [ao q],.b q true])):
 av 269 [ae a,a7 4 A,.agg [I b,I c,I d,I e]] [a7 4 ([]++A),ao false]:=
 h.of
theorem anv(h:ad (EQ A [.b (e==6) true,.r 306 [a7 4 A,.agg [I a,I b,I c,I d]] [ao q],.b q false,.r 238 [a7 4 A,.agg [I a,I b,I c,I d]] [a7 4 C]])):
 av 269 [ae e,a7 4 A,.agg [I a,I b,I c,I d]] [a7 4 C,ao true]:=
 h.of
def Lw(A:af)(a:Int)(l:List O):List O:=EQ A (.b (a==6) false::l)
def Lx(A:af)(a b c d e:Int)(q:Bool)(l:List O):List O:=Lw A a (.b (a==5) true::.b (a==5) true::.r 324 [a7 4 A,ae b,ae c,ae d] [ae e,ao q]::l)
theorem anw(h:ad (Lx A a b c d f q [.b q true,.b (decide (f<=e)) true])):
 av 269 [ae a,a7 4 A,.agg [I b,I c,I d,I e]] [a7 4 ([]++A),ao false]:=
 h.of
def kU(A:af)(a b c d e:Int)(C:af):aH:=bj 94 [(1,dJ 4 A),(5,aR 5),(11,aI.aJ (bq.one (aG 48 4 C))),(12,aZ e)] [(5,[aw a,aw b,aw c,aw d])]
theorem anx(h:ad [.i A a [I g,I l,I m,I n],.b (g != f) true,.x A a [I b,I c,I d,I e],.g C [[I b,I c,I d,I e]] 32,.h [[I b,I c,I d,I e]],.u a]):
 a1 (ar f269 0) (kU A f i j k a C) .normal (kU A f i j k (a+1) (C++[[I b,I c,I d,I e]])):=
 h.aW [12,1,5,11] [5]
theorem anz(h:ad [.i A a [I i,I m,I n,I o],.b (i != f) false,.x A a [I p,I j,I a0,I b4],.b (j != g) true,.x A a [I b,I c,I d,I e],.g C [[I b,I c,I d,I e]] 32,.h [[I b,I c,I d,I e]],.u a]):
 a1 (ar f269 0) (kU A f g k l a C) .normal (kU A f g k l (a+1) (C++[[I b,I c,I d,I e]])):=
 h.aW [12,1,5,11] [5]
theorem amX(h:ad [.i A a [I j,I n,I o,I p],.b (j != f) false,.x A a [I a0,I k,I b4,I cW],.b (k != g) false,.x A a [I d0,I bz,I l,I f0],.b (l != i) true,.x A a [I b,I c,I d,I e],.g C [[I b,I c,I d,I e]] 32,.h [[I b,I c,I d,I e]],.u a]):
 a1 (ar f269 0) (kU A f g i m a C) .normal (kU A f g i m (a+1) (C++[[I b,I c,I d,I e]])):=
 h.aW [12,1,5,11] [5]
theorem amY(h:ad [.i A a [I e,I j,I k,I l],.b (e != b) false,.x A a [I m,I f,I n,I o],.b (f != c) false,.x A a [I p,I a0,I g,I b4],.b (g != d) false,.u a]):
 a1 (ar f269 0) (kU A b c d i a C) .normal (kU A b c d i (a+1) C):=
 h.aW [12,1,5,11] [5]
def xH(a b c d:Int)(A:af):aH:=bj 94 [(5,aR 5),(11,aI.aJ (bq.one (aG 48 4 A)))] [(5,[aw a,aw b,aw c,aw d])]
theorem amZ(h:ad [.f A e false]):
 a1 (ar f269 0) (kU A a b c d e C) (.exit 1) (xH a b c d C):=
 h.aW [11,5] [5]
theorem am0(h:ad (Lx A e a b c f q [.b q true,.b (decide (f<=d)) false,.l [] [12,1,5,11] [5] (ar f269 0) (kU A a b c d 0 []) (.exit 1) (xH a b c d C),.r 238 [a7 4 C,.agg [I a,I b,I c,I d]] [a7 4 E]])):
 av 269 [ae e,a7 4 A,.agg [I a,I b,I c,I d]] [a7 4 E,ao true]:=
 h.of
theorem am1(h:ad (Lx A d a b c f q [.b q false,.l [] [12,1,5,11] [5] (ar f269 0) (kU A a b c e 0 []) (.exit 1) (xH a b c e C),.r 238 [a7 4 C,.agg [I a,I b,I c,I e]] [a7 4 E]])):
 av 269 [ae d,a7 4 A,.agg [I a,I b,I c,I e]] [a7 4 E,ao true]:=
 h.of
def Ly(A:af)(a b c d e:Int)(q:Bool)(l:List O):List O:=Lw A a (.b (a==5) false::.b (a==8) true::.r 324 [a7 4 A,ae b,ae c,ae d] [ae e,ao q]::l)
theorem am2(h:ad (Ly A a b c d f q [.b q true,.b (decide (f<=e)) true])):
 av 269 [ae a,a7 4 A,.agg [I b,I c,I d,I e]] [a7 4 ([]++A),ao false]:=
 h.of
theorem am3(h:ad (Ly A e a b c f q [.b q true,.b (decide (f<=d)) false,.l [] [12,1,5,11] [5] (ar f269 0) (kU A a b c d 0 []) (.exit 1) (xH a b c d C),.r 238 [a7 4 C,.agg [I a,I b,I c,I d]] [a7 4 E]])):
 av 269 [ae e,a7 4 A,.agg [I a,I b,I c,I d]] [a7 4 E,ao true]:=
 h.of
theorem am4(h:ad (Ly A d a b c f q [.b q false,.l [] [12,1,5,11] [5] (ar f269 0) (kU A a b c e 0 []) (.exit 1) (xH a b c e C),.r 238 [a7 4 C,.agg [I a,I b,I c,I e]] [a7 4 E]])):
 av 269 [ae d,a7 4 A,.agg [I a,I b,I c,I e]] [a7 4 E,ao true]:=
 h.of
theorem am5(h:ad (Lw A a [.b (a==5) false,.b (a==8) false])):
 av 269 [ae a,a7 4 A,.agg [I b,I c,I d,I e]] [a7 4 ([]++A),ao true]:=
 h.of
