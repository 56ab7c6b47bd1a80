import Derived.Test.YtdchjefneblpgaaGreatGE
set_option linter.unusedVariables false
set_option linter.unusedSimpArgs false
namespace Go.Proofs.YtdchjefneblpgaaGreat
open Go.Sx Go.RowKit Go.Proofs.Tryz
variable {a b c d e f g i j k l m n o p a0 ck dT d0 cc f0 : Int} {A C E F G H au K : ak} {q r s : Bool}
theorem aop(h:ah [.g ([]:ak) A 40,.h A]):
 aw 233 [aS 5 A] [aS 5 ([]++A)]:=
 h.of
def sR(a b:Int)(l:List O):List O:=.b (decide (a<b)) true::l
theorem aoq(h:ah (sR b a [])):
 aw 130 [ag c,ag a,ag b] [ag a]:=
 h.of
def pI(a b:Int)(l:List O):List O:=.b (decide (a<b)) false::l
theorem aor(h:ah (pI c a [.b (decide (b<a)) true])):
 aw 130 [ag b,ag a,ag c] [ag a]:=
 h.of
theorem aos(h:ah (pI a c [.b (decide (b<c)) false,.b (decide (b>a)) true])):
 aw 130 [ag b,ag c,ag a] [ag a]:=
 h.of
theorem aot(h:ah (pI c b [.b (decide (a<b)) false,.b (decide (a>c)) false])):
 aw 130 [ag a,ag b,ag c] [ag a]:=
 h.of
theorem aou(h:ah (sR b a [])):
 aw 167 [ag c,ag a,ag b] [ag a]:=
 h.of
theorem aov(h:ah (pI c a [.b (decide (b<a)) true])):
 aw 167 [ag b,ag a,ag c] [ag a]:=
 h.of
theorem aow(h:ah (pI b c [.b (decide (a<c)) false])):
 aw 167 [ag a,ag c,ag b] [ag (if b<a then b else a)]:=
 h.of
def BX(a b:Int)(A:ak):aG:=bp 62 [(3,aI.bd (bS.one (aV 9 3 A))),(4,bf a),(5,bf b)] []
theorem aox(h:ah (sR a b [.g A [[I 1,I a,I 0],[I 3,I a,I 0],[I 2,I a,I 0],[I 7,I a,I 0]] 24,.h [[I 1,I a,I 0],[I 3,I a,I 0],[I 2,I a,I 0],[I 7,I a,I 0]],.u a])):
 aY (av f129 0) (BX b a A) .normal (BX b (a+1) (A++[[I 1,I a,I 0],[I 3,I a,I 0],[I 2,I a,I 0],[I 7,I a,I 0]])):=
 h.aR [5,4,3] []
def R3(a:Int)(A:ak):aG:=bp 62 [(3,aI.bd (bS.one (aV 9 3 A))),(4,bf a)] []
theorem aoy(h:ah (pI b a [])):
 aY (av f129 0) (BX a b A) (.exit 0) (R3 a A):=
 h.aR [4,3] []
def BY(a b:Int)(A:ak):aG:=bp 62 [(3,aI.bd (bS.one (aV 9 3 A))),(4,bf a),(6,bf b)] []
def xi(a b c:Int)(A:ak):aG:=bp 62 [(3,aI.bd (bS.one (aV 9 3 A))),(4,bf a),(6,bf b),(7,bf c)] []
def Wn(a b c:Int)(A:ak)(l:List O):List O:=sR a b (.b (c != a) true::.g A [[I 4,I c,I a],[I 5,I c,I a]] 24::.h [[I 4,I c,I a],[I 5,I c,I a]]::.u a::l)
theorem aoz(h:ah (Wn a c b A [])):
 aY (av f129 2) (xi c b a A) .normal (xi c b (a+1) (A++[[I 4,I b,I a],[I 5,I b,I a]])):=
 h.aR [7,4,6,3] []
theorem aoA(h:ah (sR a b [.b (c != a) false,.u a])):
 aY (av f129 2) (xi b c a A) .normal (xi b c (a+1) A):=
 h.aR [7,4,6,3] []
def R4(a b:Int)(A:ak):aG:=bp 62 [(3,aI.bd (bS.one (aV 9 3 A))),(4,bf a),(6,bf b)] []
theorem aoB(h:ah (pI b a [])):
 aY (av f129 2) (xi a c b A) (.exit 4) (R4 a c A):=
 h.aR [6,4,3] []
theorem aoC(h:ah (sR a b [.l [] [7,4,6,3] [] (av f129 2) (xi b a 0 A) (.exit 4) (R4 b a C),.u a])):
 aY (av f129 1) (BY b a A) .normal (BY b (a+1) C):=
 h.aR [6,4,3] []
def R5(A:ak):aG:=bp 62 [(3,aI.bd (bS.one (aV 9 3 A)))] []
theorem an3(h:ah (pI b a [])):
 aY (av f129 1) (BY a b A) (.exit 2) (R5 A):=
 h.aR [3] []
def BZ(a:Int)(A:ak):aG:=bp 62 [(3,aI.bd (bS.one (aV 9 3 A))),(8,bf a)] []
theorem an4(h:ah [.b (decide (a<=3)) true,.g A [[I 6,I a,I 0]] 24,.h [[I 6,I a,I 0]],.u a]):
 aY (av f129 3) (BZ a A) .normal (BZ (a+1) (A++[[I 6,I a,I 0]])):=
 h.aR [8,3] []
def R6(A:ak):aG:=bp 62 [(3,aI.bd (bS.one (aV 9 3 A)))] []
theorem an5(h:ah [.b (decide (a<=3)) false]):
 aY (av f129 3) (BZ a A) (.exit 6) (R6 A):=
 h.aR [3] []
theorem an6(h:ah [.r 130 [ag b,ag 0,ag 4] [ag a],.l [] [5,4,3] [] (av f129 0) (BX a 0 []) (.exit 0) (R3 a C),.l [] [6,4,3] [] (av f129 1) (BY a 0 C) (.exit 2) (R5 E),.l [] [8,3] [] (av f129 3) (BZ 0 E) (.exit 6) (R6 A)]):
 aw 129 [.agg (cl F b c G H au K)] [aS 3 A]:=
 h.of
def B0(a b:Int)(A:ak):aG:=bp 65 [(3,bf a),(4,aI.bd (bS.one (aV 31 3 A))),(5,bf b)] []
def tV(a b c:Int)(A:ak):aG:=bp 65 [(3,bf a),(4,aI.bd (bS.one (aV 31 3 A))),(5,bf b),(20,.bd (.one (.J (.own 20) 1 [[I 1],[I 3],[I 2],[I 7]]))),(21,bf (↑[[I 1],[I 3],[I 2],[I 7]].length:Int)),(22,bf c)] []
theorem Fj(h:ah [.i [[I 1],[I 3],[I 2],[I 7]] b [I c],.g A [[I c,I a,I 0]] 24,.h [[I c,I a,I 0]],.u b]):
 aY (av f201 1) (tV d a b A) .normal (tV d a (b+1) (A++[[I c,I a,I 0]])):=
 h.aR [22,21,20,4,5,3] []
def R7(a b:Int)(A:ak):aG:=bp 65 [(3,bf a),(4,aI.bd (bS.one (aV 31 3 A))),(5,bf b)] []
theorem an7(h:ah [.f [[I 1],[I 3],[I 2],[I 7]] a false]):
 aY (av f201 1) (tV b c a A) (.exit 2) (R7 b c A):=
 h.aR [5,3,4] []
theorem an8(h:ah (sR a b [.l [] [22,21,20,4,5,3] [] (av f201 1) (tV b a 0 C) (.exit 2) (R7 b a A),.u a])):
 aY (av f201 0) (B0 b a C) .normal (B0 b (a+1) A):=
 h.aR [5,3,4] []
def R8(a:Int)(A:ak):aG:=bp 65 [(3,bf a),(4,aI.bd (bS.one (aV 31 3 A)))] []
theorem an9(h:ah (pI b a [])):
 aY (av f201 0) (B0 a b A) (.exit 0) (R8 a A):=
 h.aR [3,4] []
def B1(a b:Int)(A:ak):aG:=bp 65 [(3,bf a),(4,aI.bd (bS.one (aV 31 3 A))),(8,bf b)] []
def xj(a b c:Int)(A:ak):aG:=bp 65 [(3,bf a),(4,aI.bd (bS.one (aV 31 3 A))),(8,bf b),(9,bf c)] []
theorem aoa(h:ah (Wn a c b A [])):
 aY (av f201 3) (xj c b a A) .normal (xj c b (a+1) (A++[[I 4,I b,I a],[I 5,I b,I a]])):=
 h.aR [9,3,8,4] []
theorem aob(h:ah (sR a b [.b (c != a) false,.u a])):
 aY (av f201 3) (xj b c a A) .normal (xj b c (a+1) A):=
 h.aR [9,3,8,4] []
def R9(a b:Int)(A:ak):aG:=bp 65 [(3,bf a),(4,aI.bd (bS.one (aV 31 3 A))),(8,bf b)] []
theorem aoc(h:ah (pI b a [])):
 aY (av f201 3) (xj a c b A) (.exit 6) (R9 a c A):=
 h.aR [8,3,4] []
theorem apE(h:ah (sR a b [.l [] [9,3,8,4] [] (av f201 3) (xj b a 0 A) (.exit 6) (R9 b a C),.u a])):
 aY (av f201 2) (B1 b a A) .normal (B1 b (a+1) C):=
 h.aR [8,3,4] []
def R'(A:ak):aG:=bp 65 [(4,aI.bd (bS.one (aV 31 3 A)))] []
theorem apF(h:ah (pI b a [])):
 aY (av f201 2) (B1 a b A) (.exit 4) (R' A):=
 h.aR [4] []
def B2(a:Int)(A:ak):aG:=bp 65 [(4,aI.bd (bS.one (aV 31 3 A))),(10,bf a)] []
theorem apG(h:ah [.b (decide (a<=3)) true,.g A [[I 6,I a,I 0]] 24,.h [[I 6,I a,I 0]],.u a]):
 aY (av f201 4) (B2 a A) .normal (B2 (a+1) (A++[[I 6,I a,I 0]])):=
 h.aR [10,4] []
def Sa(A:ak):aG:=bp 65 [(4,aI.bd (bS.one (aV 31 3 A)))] []
theorem apH(h:ah [.b (decide (a<=3)) false]):
 aY (av f201 4) (B2 a A) (.exit 8) (Sa A):=
 h.aR [4] []
theorem apI(h:ah [.r 167 [ag b,ag 0,ag 4] [ag a],.l [(4,31,3)] [5,3,4] [] (av f201 0) (B0 a 0 []) (.exit 0) (R8 a C),.l [] [8,3,4] [] (av f201 2) (B1 a 0 C) (.exit 4) (R' E),.l [] [10,4] [] (av f201 4) (B2 0 E) (.exit 8) (Sa A)]):
 aw 201 [.agg (cl F b c G H au K)] [aS 3 A]:=
 h.of
theorem apK(h:ah [.b (decide (a>=b)) true]):
 aw 190 [ag a,ag b,ag c] [al (decide (a<=c))]:=
 h.of
theorem apL(h:ah [.b (decide (a>=b)) false]):
 aw 190 [ag a,ag b,ag c] [al false]:=
 h.of
theorem apM(h:ah [.b (decide (a>=b)) true]):
 aw 168 [ag a,ag b,ag c] [al (decide (a<=c))]:=
 h.of
theorem apN(h:ah [.b (decide (a>=b)) false]):
 aw 168 [ag a,ag b,ag c] [al false]:=
 h.of
theorem apO(h:ah (sR a b [])):
 aw 322 [ag a,ag b] [ag (-1)]:=
 h.of
theorem apP(h:ah (pI a b [.b (decide (a>b)) true])):
 aw 322 [ag a,ag b] [ag 1]:=
 h.of
theorem apQ(h:ah (pI a b [.b (decide (a>b)) false])):
 aw 322 [ag a,ag b] [ag 0]:=
 h.of
theorem apR(a:Int)(h:ah []):
 aw 388 [ag a] [al (a != a)]:=
 h.of
def Nv(a:Int)(q:Bool)(b:Int)(r:Bool)(l:List O):List O:=.r 388 [ag a] [al q]::.r 388 [ag b] [al r]::.b q false::.b r false::l
theorem apS(h:ah (Nv a q b r [.b (decide (a<b)) true])):
 aw 382 [ag a,ag b] [ag (-1)]:=
 h.of
theorem apT(h:ah (Nv a q b r [.b (decide (a<b)) false,.b (decide (a>b)) true])):
 aw 382 [ag a,ag b] [ag 1]:=
 h.of
theorem apU(h:ah (Nv a q b r [.b (decide (a<b)) false,.b (decide (a>b)) false])):
 aw 382 [ag a,ag b] [ag 0]:=
 h.of
def xk(A C:ak)(a:Int):aG:=bp 36 [(0,eP 1 A),(1,eP 1 C),(9,eP 1 A),(10,bf (A.length:Int)),(11,bf a)] []
def KM(a:Int):aG:=bp 36 [(4,bf a)] []
theorem apV(h:ah [.i C a [I c],.b (decide (a>=(A.length:Int))) false,.x A a [I d],.r 382 [ag c,ag d] [ag b],.b (b != 0) true]):
 aY (av f364 0) (xk C A a) .ret (KM b):=
 h.aR [4] []
theorem apW(h:ah [.i C a [I b],.b (decide (a>=(A.length:Int))) false,.x A a [I c],.r 382 [ag b,ag c] [ag d],.b (d != 0) false,.u a]):
 aY (av f364 0) (xk C A a) .normal (xk C A (a+1)):=
 h.aR [11,10,9,1,0] []
def Sb(A C:ak):aG:=bp 36 [(0,eP 1 A),(1,eP 1 C)] []
theorem apX(h:ah [.f A a false]):
 aY (av f364 0) (xk A C a) (.exit 0) (Sb A C):=
 h.aR [0,1] []
theorem apY(h:ah [.l [] [11,10,9,1,0] [] (av f364 0) (xk A C 0) .ret (KM a)]):
 aw 364 [aS 1 A,aS 1 C] [ag a]:=
 h.of
theorem apZ(h:ah [.l [] [11,10,9,1,0] [] (av f364 0) (xk A C 0) (.exit 0) (Sb A C),.f C (A.length:Int) false]):
 aw 364 [aS 1 A,aS 1 C] [ag 0]:=
 h.of
theorem ap0(h:ah [.r 364 [aS 1 A,aS 1 C] [ag a]]):
 aw 335 [aS 1 A,aS 1 C] [ag a]:=
 h.of
def xl(A:ak)(a b:Int)(C:ak):aG:=bp 30 [(0,eP 5 A),(1,bf a),(5,aI.bd (bS.one (aV 7 5 C))),(6,bf b)] []
theorem ap1(h:ah [.i A a (bA j i k l m),.b (i==g) true,.x A a (bA f b c d e),.g C [(bA f b c d e)] 40,.h [(bA f b c d e)],.u a]):
 aY (av f116 0) (xl A g a C) .normal (xl A g (a+1) (C++[(bA f b c d e)])):=
 h.aR [6,0,1,5] []
theorem ap2(h:ah [.i A a (bA d c e f g),.b (c==b) false,.u a]):
 aY (av f116 0) (xl A b a C) .normal (xl A b (a+1) C):=
 h.aR [6,0,1,5] []
def Sc(A:ak):aG:=bp 30 [(5,aI.bd (bS.one (aV 7 5 A)))] []
theorem ap3(h:ah [.f A a false]):
 aY (av f116 0) (xl A b a C) (.exit 0) (Sc C):=
 h.aR [5] []
theorem apd(h:ah [.l [] [6,0,1,5] [] (av f116 0) (xl A a 0 []) (.exit 0) (Sc C)]):
 aw 116 [aS 5 A,ag a] [aS 5 C]:=
 h.of
def xm(A:ak)(a b:Int)(C:ak):aG:=bp 25 [(1,bf a),(5,aI.bd (bS.one (aV 22 5 C))),(8,eP 5 A),(9,bf (A.length:Int)),(10,bf b)] []
theorem ape(h:ah [.i A b (bA c a d e f),.b (a==g) true,.g C [(bA c a d e f)] 40,.h [(bA c a d e f)],.u b]):
 aY (av f182 0) (xm A g b C) .normal (xm A g (b+1) (C++[(bA c a d e f)])):=
 h.aR [10,9,8,1,5] []
theorem apf(h:ah [.i A a (bA d c e f g),.b (c==b) false,.u a]):
 aY (av f182 0) (xm A b a C) .normal (xm A b (a+1) C):=
 h.aR [10,9,8,1,5] []
def Sd(A:ak):aG:=bp 25 [(5,aI.bd (bS.one (aV 22 5 A)))] []
theorem apg(h:ah [.f A a false]):
 aY (av f182 0) (xm A b a C) (.exit 0) (Sd C):=
 h.aR [5] []
theorem aph(h:ah [.l [(5,22,5)] [10,9,8,1,5] [] (av f182 0) (xm A a 0 []) (.exit 0) (Sd C)]):
 aw 182 [aS 5 A,ag a] [aS 5 C]:=
 h.of
def xn(A C E F G H au K:ak)(a b:Int):aG:=bp 21 [(1,bf a),(2,bE 2),(5,bf b)] [(2,[.J .free 5 A,.J .free 5 C,.J .free 5 E,.J .free 4 F,.J .free 1 G,.J .free 1 H,.J .free 1 au,.J .free 2 K])]
def Mf(q:Bool):aG:=bp 21 [(4,.bd (.one (.cg q)))] []
theorem api(h:ah [.i A c [I a,B q],.b (a==b) true]):
 aY (av f213 0) (xn C E F G H au K A b c) .ret (Mf true):=
 h.aR [4] []
theorem apj(h:ah [.i A a [I c,B q],.b (c==b) false,.u a]):
 aY (av f213 0) (xn C E F G H au K A b a) .normal (xn C E F G H au K A b (a+1)):=
 h.aR [5,2,1] [2]
def Se:aG:=bp 21 [] []
theorem apk(h:ah [.f A a false]):
 aY (av f213 0) (xn C E F G H au K A b a) (.exit 0) Se:=
 h.aR [] []
theorem apl(h:ah [.l [] [5,2,1] [2] (av f213 0) (xn A C E F G H au K a 0) .ret (Mf q)]):
 aw 213 [.agg (a' A C E F G H au K),ag a] [al q]:=
 h.of
theorem apm(h:ah [.l [] [5,2,1] [2] (av f213 0) (xn A C E F G H au K a 0) (.exit 0) Se]):
 aw 213 [.agg (a' A C E F G H au K),ag a] [al false]:=
 h.of
theorem apn(h:ah [.r 328 [aS 2 A,.one (.cl 329 [D.ptr [I a]])] [al q]]):
 aw 281 [aS 2 A,ag a] [al q]:=
 h.of
theorem apo(h:ah []):
 aw 329 [.agg [I a,B q],.one (.ptr [I b])] [al (a==b)]:=
 h.of
theorem apq(h:ah [.r 281 [aS 2 A,ag a] [al q]]):
 aw 210 [.agg (a' C E F G H au K A),ag a] [al q]:=
 h.of
def xo(a b c:Int)(q:Bool)(E F G H au K A C:ak):aG:=bp 28 [(1,bf a),(2,bE 2),(4,bE 4),(6,bf b)] [(4,[aM c,.cg q]),(2,[.J .free 5 E,.J .free 5 F,.J .free 5 G,.J .free 4 H,.J .free 1 au,.J .free 1 K,.J .free 1 A,.J .free 2 C])]
def Sf(q:Bool)(a:Int)(r:Bool):aG:=bp 28 [(4,bE 4),(5,.bd (.one (.cg q)))] [(4,[aM a,.cg r])]
theorem apr(h:ah [.i A a [I b,B s],.b (b==d) true,.x A a [I c,B q]]):
 aY (av f17 0) (xo d a e r C E F G H au K A) .ret (Sf true c q):=
 h.aR [4,5] [4]
theorem aps(h:ah [.i A a [I d,B r],.b (d==b) false,.u a]):
 aY (av f17 0) (xo b a c q C E F G H au K A) .normal (xo b (a+1) c q C E F G H au K A):=
 h.aR [6,2,1,4] [4,2]
def Sg(a:Int)(q:Bool):aG:=bp 28 [(4,bE 4)] [(4,[aM a,.cg q])]
theorem apt(h:ah [.f A b false]):
 aY (av f17 0) (xo c b a q C E F G H au K A) (.exit 0) (Sg a q):=
 h.aR [4] [4]
theorem apu(h:ah [.l [] [6,2,1,4] [4,2] (av f17 0) (xo b 0 0 false A C E F G H au K) .ret (Sf r a q)]):
 aw 17 [.agg (a' A C E F G H au K),ag b] [.agg [I a,B q],al r]:=
 h.of
theorem apv(h:ah [.l [] [6,2,1,4] [4,2] (av f17 0) (xo a 0 0 false A C E F G H au K) (.exit 0) (Sg b q)]):
 aw 17 [.agg (a' A C E F G H au K),ag a] [.agg [I 0,B false],al false]:=
 h.of
def xp(A:ak)(g1:Nat)(bw:List D)(a:Int):aG:=bp 19 [(0,eP 5 A),(1,.bd (.one (.fd (D.cl g1 bw)))),(7,bf (A.length:Int)),(8,bf a)] []
def Mg(a:Int):aG:=bp 19 [(4,bf a)] []
theorem apw{A:ak}{g1:Nat}{bw:List D}{a b c d e f:Int}{q:Bool}(h:ah [.i A a (bA b c d e f),.p (hL prog g1=true),.r g1 ([.agg (bA b c d e f)]++List.map .one bw) [al q],.b q true]):
 aY (av f330 0) (xp A g1 bw a) .ret (Mg a):=
 h.aR [4] []
theorem apx{A:ak}{g1:Nat}{bw:List D}{a b c d e f:Int}{q:Bool}(h:ah [.i A a (bA b c d e f),.p (hL prog g1=true),.r g1 ([.agg (bA b c d e f)]++List.map .one bw) [al q],.b q false,.u a]):
 aY (av f330 0) (xp A g1 bw a) .normal (xp A g1 bw (a+1)):=
 h.aR [8,7,1,0] []
def Sh:aG:=bp 19 [] []
theorem apy{A:ak}{g1:Nat}{bw:List D}{a:Int}(h:ah [.f A a false]):
 aY (av f330 0) (xp A g1 bw a) (.exit 0) Sh:=
 h.aR [] []
theorem apz{A:ak}{g1:Nat}{bw:List D}{a:Int}(h:ah [.l [] [8,7,1,0] [] (av f330 0) (xp A g1 bw 0) .ret (Mg a)]):
 aw 330 [aS 5 A,.one (.cl g1 bw)] [ag a]:=
 h.of
theorem apA{A:ak}{g1:Nat}{bw:List D}(h:ah [.l [] [8,7,1,0] [] (av f330 0) (xp A g1 bw 0) (.exit 0) Sh]):
 aw 330 [aS 5 A,.one (.cl g1 bw)] [ag (-1)]:=
 h.of
def xq(A:ak)(g1:Nat)(bw:List D)(a:Int):aG:=bp 19 [(0,eP 2 A),(1,.bd (.one (.fd (D.cl g1 bw)))),(7,bf (A.length:Int)),(8,bf a)] []
def Mh(a:Int):aG:=bp 19 [(4,bf a)] []
theorem apB{A:ak}{g1:Nat}{bw:List D}{a b:Int}{q r:Bool}(h:ah [.i A a [I b,B q],.p (hL prog g1=true),.r g1 ([.agg [I b,B q]]++List.map .one bw) [al r],.b r true]):
 aY (av f352 0) (xq A g1 bw a) .ret (Mh a):=
 h.aR [4] []
theorem apC{A:ak}{g1:Nat}{bw:List D}{a b:Int}{q r:Bool}(h:ah [.i A a [I b,B q],.p (hL prog g1=true),.r g1 ([.agg [I b,B q]]++List.map .one bw) [al r],.b r false,.u a]):
 aY (av f352 0) (xq A g1 bw a) .normal (xq A g1 bw (a+1)):=
 h.aR [8,7,1,0] []
def Si:aG:=bp 19 [] []
theorem apD{A:ak}{g1:Nat}{bw:List D}{a:Int}(h:ah [.f A a false]):
 aY (av f352 0) (xq A g1 bw a) (.exit 0) Si:=
 h.aR [] []
theorem ao3{A:ak}{g1:Nat}{bw:List D}{a:Int}(h:ah [.l [] [8,7,1,0] [] (av f352 0) (xq A g1 bw 0) .ret (Mh a)]):
 aw 352 [aS 2 A,.one (.cl g1 bw)] [ag a]:=
 h.of
theorem ao4{A:ak}{g1:Nat}{bw:List D}(h:ah [.l [] [8,7,1,0] [] (av f352 0) (xq A g1 bw 0) (.exit 0) Si]):
 aw 352 [aS 2 A,.one (.cl g1 bw)] [ag (-1)]:=
 h.of
def xr(A:ak)(g1:Nat)(bw:List D)(a:Int):aG:=bp 19 [(0,eP 3 A),(1,.bd (.one (.fd (D.cl g1 bw)))),(7,bf (A.length:Int)),(8,bf a)] []
def Mi(a:Int):aG:=bp 19 [(4,bf a)] []
theorem ao5{A:ak}{g1:Nat}{bw:List D}{a b c:Int}{q r:Bool}(h:ah [.i A a [I b,I c,B q],.p (hL prog g1=true),.r g1 ([.agg [I b,I c,B q]]++List.map .one bw) [al r],.b r true]):
 aY (av f290 0) (xr A g1 bw a) .ret (Mi a):=
 h.aR [4] []
theorem ao6{A:ak}{g1:Nat}{bw:List D}{a b c:Int}{q r:Bool}(h:ah [.i A a [I b,I c,B q],.p (hL prog g1=true),.r g1 ([.agg [I b,I c,B q]]++List.map .one bw) [al r],.b r false,.u a]):
 aY (av f290 0) (xr A g1 bw a) .normal (xr A g1 bw (a+1)):=
 h.aR [8,7,1,0] []
def Sj:aG:=bp 19 [] []
theorem ao7{A:ak}{g1:Nat}{bw:List D}{a:Int}(h:ah [.f A a false]):
 aY (av f290 0) (xr A g1 bw a) (.exit 0) Sj:=
 h.aR [] []
theorem ao8{A:ak}{g1:Nat}{bw:List D}{a:Int}(h:ah [.l [] [8,7,1,0] [] (av f290 0) (xr A g1 bw 0) .ret (Mi a)]):
 aw 290 [aS 3 A,.one (.cl g1 bw)] [ag a]:=
 h.of
theorem ao9{A:ak}{g1:Nat}{bw:List D}(h:ah [.l [] [8,7,1,0] [] (av f290 0) (xr A g1 bw 0) (.exit 0) Sj]):
 aw 290 [aS 3 A,.one (.cl g1 bw)] [ag (-1)]:=
 h.of
def xt(A:ak)(g1:Nat)(bw:List D)(a:Int):aG:=bp 19 [(0,eP 4 A),(1,.bd (.one (.fd (D.cl g1 bw)))),(7,bf (A.length:Int)),(8,bf a)] []
def Mj(a:Int):aG:=bp 19 [(4,bf a)] []
def kl(A:ak)(a b c d e:Int)(l:List O):List O:=.i A a [I b,I c,I d,I e]::l
theorem apa{A:ak}{g1:Nat}{bw:List D}{a b c d e:Int}{q:Bool}(h:ah (kl A a b c d e [.p (hL prog g1=true),.r g1 ([.agg [I b,I c,I d,I e]]++List.map .one bw) [al q],.b q true])):
 aY (av f375 0) (xt A g1 bw a) .ret (Mj a):=
 h.aR [4] []
theorem apb{A:ak}{g1:Nat}{bw:List D}{a b c d e:Int}{q:Bool}(h:ah (kl A a b c d e [.p (hL prog g1=true),.r g1 ([.agg [I b,I c,I d,I e]]++List.map .one bw) [al q],.b q false,.u a])):
 aY (av f375 0) (xt A g1 bw a) .normal (xt A g1 bw (a+1)):=
 h.aR [8,7,1,0] []
def Sk:aG:=bp 19 [] []
theorem apc{A:ak}{g1:Nat}{bw:List D}{a:Int}(h:ah [.f A a false]):
 aY (av f375 0) (xt A g1 bw a) (.exit 0) Sk:=
 h.aR [] []
theorem aqE{A:ak}{g1:Nat}{bw:List D}{a:Int}(h:ah [.l [] [8,7,1,0] [] (av f375 0) (xt A g1 bw 0) .ret (Mj a)]):
 aw 375 [aS 4 A,.one (.cl g1 bw)] [ag a]:=
 h.of
theorem aqF{A:ak}{g1:Nat}{bw:List D}(h:ah [.l [] [8,7,1,0] [] (av f375 0) (xt A g1 bw 0) (.exit 0) Sk]):
 aw 375 [aS 4 A,.one (.cl g1 bw)] [ag (-1)]:=
 h.of
theorem aqG{A:ak}{g1:Nat}{bw:List D}{a:Int}(h:ah [.r 330 [aS 5 A,.one (.cl g1 bw)] [ag a]]):
 aw 291 [aS 5 A,.one (.cl g1 bw)] [al (decide (a>=0))]:=
 h.of
theorem aqH{A:ak}{g1:Nat}{bw:List D}{a:Int}(h:ah [.r 352 [aS 2 A,.one (.cl g1 bw)] [ag a]]):
 aw 328 [aS 2 A,.one (.cl g1 bw)] [al (decide (a>=0))]:=
 h.of
end Go.Proofs.YtdchjefneblpgaaGreat
namespace Go.Proofs.YtdchjefneblpgaaGreat
open Go.Sx Go.RowKit Go.Proofs.Tryz
variable {a b c d e f g i j k l m n o p a0 ck dT d0 cc f0 : Int} {A C E F G H au K : ak} {q r s : Bool}
def G1(A:ak)(l:List O):List O:=.g ([]:ak) A 32::.h A::l
theorem aqI(h:ah (G1 A [])):
 aw 297 [aS 4 A] [aS 4 ([]++A)]:=
 h.of
theorem aqJ(h:ah [.r 336 [aS 4 A,.agg [I a,I b,I c,I d]] [al q]]):
 aw 303 [aS 4 A,.agg [I a,I b,I c,I d]] [al q]:=
 h.of
theorem aqK(h:ah [.r 335 [.one (.J 1 [[I b],[I a],[I c],[I d]]),.one (.J 1 [[I f],[I e],[I g],[I i]])] [ag j]]):
 aw 304 [.agg [I a,I b,I c,I d],.agg [I e,I f,I g,I i]] [ag j]:=
 h.of
theorem aqL(h:ah [.r 365 [aS 4 A,.agg [I a,I b,I c,I d]] [ag e]]):
 aw 336 [aS 4 A,.agg [I a,I b,I c,I d]] [al (decide (e>=0))]:=
 h.of
def xu(A:ak)(a b c d e:Int):aG:=bp 19 [(0,eP 4 A),(3,bE 3),(7,bf (A.length:Int)),(8,bf e)] [(3,[aM a,aM b,aM c,aM d])]
def Mk(a:Int):aG:=bp 19 [(4,bf a)] []
theorem aqM(h:ah (kl A a f g i j [.b (b==f&&(c==g&&(d==i&&e==j))) true])):
 aY (av f365 0) (xu A b c d e a) .ret (Mk a):=
 h.aR [4] []
theorem aqN(h:ah (kl A a f g i j [.b (b==f&&(c==g&&(d==i&&e==j))) false,.u a])):
 aY (av f365 0) (xu A b c d e a) .normal (xu A b c d e (a+1)):=
 h.aR [8,7,3,0] [3]
def RM:aG:=bp 19 [] []
theorem aqO(h:ah [.f A a false]):
 aY (av f365 0) (xu A b c d e a) (.exit 0) RM:=
 h.aR [] []
theorem aqP(h:ah [.l [] [8,7,3,0] [3] (av f365 0) (xu A a b c d 0) .ret (Mk e)]):
 aw 365 [aS 4 A,.agg [I a,I b,I c,I d]] [ag e]:=
 h.of
theorem aqQ(h:ah [.l [] [8,7,3,0] [3] (av f365 0) (xu A a b c d 0) (.exit 0) RM]):
 aw 365 [aS 4 A,.agg [I a,I b,I c,I d]] [ag (-1)]:=
 h.of
theorem aqR(h:ah [.r 297 [aS 4 A] [aS 4 C],.r 303 [aS 4 A,.agg [I a,I b,I c,I d]] [al q],.b q true]):
 aw 237 [aS 4 A,.agg [I a,I b,I c,I d]] [aS 4 C]:=
 h.of
def wT(A:ak)(a b c d:Int)(C:ak)(e:Int):aG:=bp 33 [(0,eP 4 A),(3,bE 3),(5,aI.bd (bS.one (aV 90000 4 C))),(6,bf e)] [(3,[aM a,aM b,aM c,aM d])]
theorem aqS(h:ah (kl A a j k f g [.r 304 [.agg [I j,I k,I f,I g],.agg [I b,I c,I d,I e]] [ag i],.b (decide (i<0)) true,.u a])):
 aY (av f237 0) (wT A b c d e C a) .normal (wT A b c d e C (a+1)):=
 h.aR [6,0,3,5] [3]
def B3(a b c d:Int)(A:ak)(e:Int):aG:=bp 33 [(3,bE 3),(5,aI.bd (bS.one (aV 90000 4 A))),(6,bf e)] [(3,[aM a,aM b,aM c,aM d])]
theorem aqT(h:ah (kl A e j k f g [.r 304 [.agg [I j,I k,I f,I g],.agg [I a,I b,I c,I d]] [ag i],.b (decide (i<0)) false])):
 aY (av f237 0) (wT A a b c d C e) (.exit 0) (B3 a b c d C e):=
 h.aR [5,6,3] [3]
theorem aqU(h:ah [.f A a false]):
 aY (av f237 0) (wT A b c d e C a) (.exit 0) (B3 b c d e C a):=
 h.aR [5,6,3] [3]
theorem aqV(h:ah [.r 297 [aS 4 A] [aS 4 C],.r 303 [aS 4 A,.agg [I a,I b,I c,I d]] [al q],.b q false,.l [] [6,0,3,5] [3] (av f237 0) (wT A a b c d C 0) (.exit 0) (B3 a b c d C e),.a (.rG [[some none],[none],[some none]] 0 [] [aS 4 E]),.p (k' prog 305 [GA.one (eT.fh 4 C none),GA.one (eT.ro (I e)),GA.one (eT.fh 4 [[I a,I b,I c,I d]] none)] [aS 4 E])]):
 aw 237 [aS 4 A,.agg [I a,I b,I c,I d]] [aS 4 E]:=
 h.of
theorem RN(h:ah [.v ((A.length:Int)-1),.r 190 [ag a,ag 0,ag ((A.length:Int)-1)] [al q]]):
 aw 250 [.agg (bP A b c),ag a] [al q]:=
 h.of
theorem aqW(h:ah [.b (a==d) true,.b (b==e) true]):
 aw 347 [.agg [I a,I b,I c,I g],.agg [I d,I e,I f,I i]] [al (c==f)]:=
 h.of
theorem aqX(h:ah [.b (a==c) true,.b (b==d) false]):
 aw 347 [.agg [I a,I b,I e,I f],.agg [I c,I d,I g,I i]] [al false]:=
 h.of
theorem aqY(h:ah [.b (a==b) false]):
 aw 347 [.agg [I a,I c,I d,I e],.agg [I b,I f,I g,I i]] [al false]:=
 h.of
theorem aqZ(h:ah [.r 347 [.agg [I e,I f,I g,I i],.agg [I a,I b,I c,I d]] [al q]]):
 aw 346 [.agg [I a,I b,I c,I d],.one (.ptr [I e,I f,I g,I i])] [al q]:=
 h.of
theorem aq0{A:ak}{g1:Nat}{bw:List D}{a:Int}(h:ah [.r 375 [aS 4 A,.one (.cl g1 bw)] [ag a],.b (a==-1) true]):
 OE 345 [GA.one (eT.fh 4 A none),GA.one (eT.ro (D.cl g1 bw))] [aS 4 A]:=
 h.Ql
def vb(g0:Nat)(cy:List D)(a b:Int)(A:ak):aG:=bp 42 [(0,aI.bd (bS.one (aV 1000000000 4 A))),(1,.bd (.one (.fd (D.cl g0 cy)))),(5,bf b),(6,bf a)] []
theorem aq1{g1:Nat}{bw:List D}{b a:Int}{A:ak}{d e f c:Int}{q:Bool}{d12 d13 d14 d15:D}(h:ah (kl A b d e f c [.p (hL prog g1=true),.r g1 ([.agg [I d,I e,I f,I c]]++List.map .one bw) [al q],.n q true,.x A a [d12,d13,d14,d15],.u a,.u b])):
 aY (av f345 0) (vb g1 bw b a A) .normal (vb g1 bw (b+1) (a+1) (A.set a.toNat [I d,I e,I f,I c])):=
 h.aR [6,0,1,5] []
theorem aq2{g1:Nat}{bw:List D}{a c:Int}{A:ak}{d e f b:Int}{q:Bool}(h:ah (kl A a d e f b [.p (hL prog g1=true),.r g1 ([.agg [I d,I e,I f,I b]]++List.map .one bw) [al q],.n q false,.u a])):
 aY (av f345 0) (vb g1 bw a c A) .normal (vb g1 bw (a+1) c A):=
 h.aR [6,0,1,5] []
def Ml(A:ak)(a:Int):aG:=bp 42 [(0,aI.bd (bS.one (aV 1000000000 4 A))),(5,bf a)] []
theorem aq3{g1:Nat}{bw:List D}{a b:Int}{A:ak}(h:ah [.f A a false]):
 aY (av f345 0) (vb g1 bw a b A) (.exit 0) (Ml A b):=
 h.aR [0,5] []
theorem aqe{C:ak}{g1:Nat}{bw:List D}{b:Int}{A:ak}{a:Int}(h:ah [.r 375 [aS 4 C,.one (.cl g1 bw)] [ag b],.b (b==-1) false,.u b,.l [] [6,0,1,5] [] (av f345 0) (vb g1 bw (b+1) b C) (.exit 0) (Ml A a),.a .own,.p (0<=(some a).getD 0),.p ((some a).getD 0<(A.length:Int)),.h A,.p ((0:Int)<=none.getD 0),.p (none.getD 0<=(some a).getD (↑(List.take ((some a).getD 0).toNat A++List.replicate (A.length-((some a).getD 0).toNat) [I 0,I 0,I 0,I 0]).length:Int)),.p ((some a).getD (↑(List.take ((some a).getD 0).toNat A++List.replicate (A.length-((some a).getD 0).toNat) [I 0,I 0,I 0,I 0]).length:Int)<=(↑(List.take ((some a).getD 0).toNat A++List.replicate (A.length-((some a).getD 0).toNat) [I 0,I 0,I 0,I 0]).length:Int))]):
 OE 345 [GA.one (eT.fh 4 C none),GA.one (eT.ro (D.cl g1 bw))] [.one (.J 4 (List.take (((some a).getD (↑(List.take ((some a).getD 0).toNat A++List.replicate (A.length-((some a).getD 0).toNat) [I 0,I 0,I 0,I 0]).length:Int)).toNat-0) (List.drop 0 (List.take ((some a).getD 0).toNat A++List.replicate (A.length-((some a).getD 0).toNat) [I 0,I 0,I 0,I 0]))))]:=
 h.Ql
def pu(A:ak)(a b c d:Int)(q:Bool)(e:Int):aG:=bp 41 [(1,bf a),(2,bf b),(3,bf c),(10,bf e),(11,.bd (.one (.cg q))),(14,eP 4 A),(15,bf (A.length:Int)),(16,bf d)] []
def G0(A:ak)(a b c d e f g i:Int)(q:Bool)(l:List O):List O:=kl A a b c d e (.r 347 [.agg [I b,I c,I d,I e],.agg [I f,I g,I i,I 0]] [al q]::l)
theorem aqf(h:ah (G0 A a f g i c b d e q [.b q true,.n r true,.u a])):
 aY (av f344 0) (pu A b d e a r j) .normal (pu A b d e (a+1) true c):=
 h.aR [16,15,14,1,2,3,11,10] []
theorem aqg(h:ah (G0 A b g i j a c d e q [.b q true,.n r false,.b (decide (a<f)) true,.u b])):
 aY (av f344 0) (pu A c d e b r f) .normal (pu A c d e (b+1) true a):=
 h.aR [16,15,14,1,2,3,11,10] []
theorem aqh(h:ah (G0 A a g i j c b d e r [.b r true,.n q false,.b (decide (c<f)) false,.u a])):
 aY (av f344 0) (pu A b d e a q f) .normal (pu A b d e (a+1) q f):=
 h.aR [16,15,14,1,2,3,11,10] []
theorem aqi(h:ah (G0 A a g i j e b c d q [.b q false,.u a])):
 aY (av f344 0) (pu A b c d a r f) .normal (pu A b c d (a+1) r f):=
 h.aR [16,15,14,1,2,3,11,10] []
def RO(a:Int)(q:Bool):aG:=bp 41 [(10,bf a),(11,.bd (.one (.cg q)))] []
theorem aqj(h:ah [.f A a false]):
 aY (av f344 0) (pu A c d e a q b) (.exit 0) (RO b q):=
 h.aR [10,11] []
theorem aqk(h:ah [.l [] [16,15,14,1,2,3,11,10] [] (av f344 0) (pu A a b c 0 false 0) (.exit 0) (RO d q)]):
 aw 344 [aS 4 A,ag a,ag b,ag c] [ag d,al q]:=
 h.of
theorem aql(h:ah [.r 344 [aS 4 A,ag a,ag b,ag c] [ag e,al q],.b q true,.b (decide (e<=d)) true,.r 297 [aS 4 A] [aS 4 C]]):
 aw 318 [aS 4 A,.agg [I a,I b,I c,I d]] [aS 4 C,al false]:=
 h.of
theorem aqm(h:ah [.r 344 [aS 4 A,ag a,ag b,ag c] [ag e,al q],.b q true,.b (decide (e<=d)) false,.r 297 [aS 4 A] [aS 4 F],.a (.rG [[some none],[none]] 0 [] [aS 4 C]),.p (k' prog 345 [GA.one (eT.fh 4 F none),GA.one (eT.ro (D.cl 346 [D.ptr [I a,I b,I c,I d]]))] [aS 4 C]),.r 237 [aS 4 C,.agg [I a,I b,I c,I d]] [aS 4 E]]):
 aw 318 [aS 4 A,.agg [I a,I b,I c,I d]] [aS 4 E,al true]:=
 h.of
theorem aqn(h:ah [.r 344 [aS 4 A,ag a,ag b,ag c] [ag e,al q],.b q false,.r 297 [aS 4 A] [aS 4 F],.a (.rG [[some none],[none]] 0 [] [aS 4 C]),.p (k' prog 345 [GA.one (eT.fh 4 F none),GA.one (eT.ro (D.cl 346 [D.ptr [I a,I b,I c,I d]]))] [aS 4 C]),.r 237 [aS 4 C,.agg [I a,I b,I c,I d]] [aS 4 E]]):
 aw 318 [aS 4 A,.agg [I a,I b,I c,I d]] [aS 4 E,al true]:=
 h.of
theorem aqo(h:ah [.b (a==5) true,.b (a==5) true,.r 318 [aS 4 A,.agg [I b,I c,I d,I e]] [aS 4 C,al q]]):
 aw 299 [ag a,aS 4 A,.agg [I b,I c,I d,I e]] [aS 4 C,al q]:=
 h.of
theorem aqp(h:ah [.b (a==5) false,.b (a==8) true,.r 318 [aS 4 A,.agg [I b,I c,I d,I e]] [aS 4 C,al q]]):
 aw 299 [ag a,aS 4 A,.agg [I b,I c,I d,I e]] [aS 4 C,al q]:=
 h.of
theorem aqq(h:ah [.b (a==5) false,.b (a==8) false,.b (a==6) true,.r 237 [aS 4 A,.agg [I b,I c,I d,I e]] [aS 4 C],.r 303 [aS 4 A,.agg [I b,I c,I d,I e]] [al q]]):
 aw 299 [ag a,aS 4 A,.agg [I b,I c,I d,I e]] [aS 4 C,.one (B !q)]:=
 h.of
theorem aqr(h:ah [.b (a==5) false,.b (a==8) false,.b (a==6) false,.r 297 [aS 4 A] [aS 4 C]]):
 aw 299 [ag a,aS 4 A,.agg [I b,I c,I d,I e]] [aS 4 C,al true]:=
 h.of
def wU(a b c d e:Int):aG:=bp 41 [(5,.bd (.one (.J (.own 27) 1 [[I a],[I b],[I c],[I d]]))),(6,bf e)] []
def Mm(a:Int):aG:=bp 41 [(4,bf a)] []
theorem aqs(h:ah [.b (decide (a<4)) true,.x [[I d],[I e],[I b],[I c]] a [I f],.b (f != 0) true,.x [[I d],[I e],[I b],[I c]] a [I g]]):
 aY (av f307 0) (wU d e b c a) .ret (Mm g):=
 h.aR [4] []
theorem aqt(h:ah [.b (decide (a<4)) true,.x [[I d],[I e],[I b],[I c]] a [I f],.b (f != 0) false,.u a]):
 aY (av f307 0) (wU d e b c a) .normal (wU d e b c (a+1)):=
 h.aR [6,5] []
def RP:aG:=bp 41 [] []
theorem aqu(h:ah [.b (decide (a<4)) false]):
 aY (av f307 0) (wU d e b c a) (.exit 0) RP:=
 h.aR [] []
theorem aqv(h:ah [.r 322 [ag b,ag j] [ag m],.r 322 [ag a,ag i] [ag n],.r 322 [ag f,ag k] [ag c],.r 322 [ag g,ag l] [ag d],.l [] [6,5] [] (av f307 0) (wU m n c d 0) .ret (Mm e)]):
 aw 307 [.agg [I a,I b,I f,I g],.agg [I i,I j,I k,I l]] [ag e]:=
 h.of
theorem aqw(h:ah [.r 322 [ag b,ag i] [ag l],.r 322 [ag a,ag g] [ag m],.r 322 [ag e,ag j] [ag c],.r 322 [ag f,ag k] [ag d],.l [] [6,5] [] (av f307 0) (wU l m c d 0) (.exit 0) RP]):
 aw 307 [.agg [I a,I b,I e,I f],.agg [I g,I i,I j,I k]] [ag 0]:=
 h.of
def wV(A:ak)(a b c d e:Int):aG:=bp 18 [(0,eP 4 A),(3,bE 3),(5,bf e)] [(3,[aM a,aM b,aM c,aM d])]
def Mn(q:Bool):aG:=bp 18 [(4,.bd (.one (.cg q)))] []
theorem aqx(h:ah (kl A e f g i j [.b (f==a&&(g==b&&(i==c&&j==d))) true])):
 aY (av f306 0) (wV A a b c d e) .ret (Mn true):=
 h.aR [4] []
theorem aqy(h:ah (kl A a f g i j [.b (f==b&&(g==c&&(i==d&&j==e))) false,.u a])):
 aY (av f306 0) (wV A b c d e a) .normal (wV A b c d e (a+1)):=
 h.aR [5,0,3] [3]
def RQ:aG:=bp 18 [] []
theorem aqz(h:ah [.f A a false]):
 aY (av f306 0) (wV A b c d e a) (.exit 0) RQ:=
 h.aR [] []
theorem aqA(h:ah [.l [] [5,0,3] [3] (av f306 0) (wV A a b c d 0) .ret (Mn q)]):
 aw 306 [aS 4 A,.agg [I a,I b,I c,I d]] [al q]:=
 h.of
theorem aqB(h:ah [.l [] [5,0,3] [3] (av f306 0) (wV A a b c d 0) (.exit 0) RQ]):
 aw 306 [aS 4 A,.agg [I a,I b,I c,I d]] [al false]:=
 h.of
theorem aqC(h:ah [.r 306 [aS 4 A,.agg [I a,I b,I c,I d]] [al q],.b q true,.g ([]:ak) A 32,.h A]):
 aw 238 [aS 4 A,.agg [I a,I b,I c,I d]] [aS 4 ([]++A)]:=
 h.of
def wW(A:ak)(a b c d e:Int):aG:=bp 41 [(0,eP 4 A),(3,bE 3),(5,bf e)] [(3,[aM a,aM b,aM c,aM d])]
theorem aqD(h:ah (kl A a i j k f [.r 307 [.agg [I i,I j,I k,I f],.agg [I b,I c,I d,I e]] [ag g],.b (decide (g<0)) true,.u a])):
 aY (av f238 0) (wW A b c d e a) .normal (wW A b c d e (a+1)):=
 h.aR [5,0,3] [3]
def B4(A:ak)(a b c d e:Int):aG:=bp 41 [(0,eP 4 A),(3,bE 3),(5,bf e)] [(3,[aM a,aM b,aM c,aM d])]
theorem ap4(h:ah (kl A e i j k f [.r 307 [.agg [I i,I j,I k,I f],.agg [I a,I b,I c,I d]] [ag g],.b (decide (g<0)) false])):
 aY (av f238 0) (wW A a b c d e) (.exit 0) (B4 A a b c d e):=
 h.aR [0,5,3] [3]
theorem ap5(h:ah [.f A a false]):
 aY (av f238 0) (wW A b c d e a) (.exit 0) (B4 A b c d e a):=
 h.aR [0,5,3] [3]
theorem ap6(h:ah [.r 306 [aS 4 A,.agg [I b,I c,I d,I e]] [al q],.b q false,.l [] [5,0,3] [3] (av f238 0) (wW A b c d e 0) (.exit 0) (B4 A b c d e a),.p ((0:Int)<=none.getD 0),.p (none.getD 0<=(some a).getD (A.length:Int)),.p ((some a).getD (A.length:Int)<=(A.length:Int)),.p ((([]:ak).length+(List.take (((some a).getD (A.length:Int)).toNat-0) (List.drop 0 A)).length)*32<=140737488355328),.p (([]:ak).length+(List.take (((some a).getD (A.length:Int)).toNat-0) (List.drop 0 A)).length<=9223372036854775807),.p (Flat (List.take (((some a).getD (A.length:Int)).toNat-0) (List.drop 0 A))),.p ((([]++List.take (((some a).getD (A.length:Int)).toNat-0) (List.drop 0 A)).length+[[I b,I c,I d,I e]].length)*32<=140737488355328),.p (([]++List.take (((some a).getD (A.length:Int)).toNat-0) (List.drop 0 A)).length+[[I b,I c,I d,I e]].length<=9223372036854775807),.h [[I b,I c,I d,I e]],.p (0<=(some a).getD 0),.p ((some a).getD 0<=none.getD (A.length:Int)),.p (none.getD (A.length:Int)<=(A.length:Int)),.p ((([]++List.take (((some a).getD (A.length:Int)).toNat-0) (List.drop 0 A)++[[I b,I c,I d,I e]]).length+(List.take (A.length-((some a).getD 0).toNat) (List.drop ((some a).getD 0).toNat A)).length)*32<=140737488355328),.p (([]++List.take (((some a).getD (A.length:Int)).toNat-0) (List.drop 0 A)++[[I b,I c,I d,I e]]).length+(List.take (A.length-((some a).getD 0).toNat) (List.drop ((some a).getD 0).toNat A)).length<=9223372036854775807),.p (Flat (List.take (A.length-((some a).getD 0).toNat) (List.drop ((some a).getD 0).toNat A)))]):
 aw 238 [aS 4 A,.agg [I b,I c,I d,I e]] [.one (.J 4 ([]++List.take (((some a).getD (A.length:Int)).toNat-0) (List.drop 0 A)++[[I b,I c,I d,I e]]++List.take (A.length-((some a).getD 0).toNat) (List.drop ((some a).getD 0).toNat A)))]:=
 h.of
theorem ap7(h:ah [.v ((A.length:Int)-1),.r 168 [ag a,ag 0,ag ((A.length:Int)-1)] [al q],.n q true]):
 aw 249 [.agg (bP A b c),ag a] [.agg (bF 0 0 0 []),al false]:=
 h.of
theorem ap8(h:ah [.v ((A.length:Int)-1),.r 168 [ag a,ag 0,ag ((A.length:Int)-1)] [al q],.n q false,.x A a (bF b c d C),.g ([]:ak) C 8,.h C]):
 aw 249 [.agg (bP A e f),ag a] [.agg (bF b c d ([]++C)),al true]:=
 h.of
def mv(A:ak)(a b c d:Int)(q:Bool)(e:Int):aG:=bp 54 [(0,eP 4 A),(1,bf a),(2,bf b),(3,bf c),(10,bf e),(11,.bd (.one (.cg q))),(12,bf d)] []
theorem ap9(h:ah (kl A a f g i e [.b (f==b) true,.b (g==c) true,.b (i==d) true,.n q true,.u a])):
 aY (av f324 0) (mv A b c d a q j) .normal (mv A b c d (a+1) true e):=
 h.aR [12,0,1,2,3,11,10] []
theorem aqa(h:ah (kl A a g i j c [.b (g==b) true,.b (i==d) true,.b (j==e) true,.n q false,.b (decide (c<f)) true,.u a])):
 aY (av f324 0) (mv A b d e a q f) .normal (mv A b d e (a+1) true c):=
 h.aR [12,0,1,2,3,11,10] []
theorem aqb(h:ah (kl A a g i j f [.b (g==b) true,.b (i==c) true,.b (j==d) true,.n q false,.b (decide (f<e)) false,.u a])):
 aY (av f324 0) (mv A b c d a q e) .normal (mv A b c d (a+1) q e):=
 h.aR [12,0,1,2,3,11,10] []
theorem aqc(h:ah (kl A a f g i j [.b (f==b) true,.b (g==c) true,.b (i==d) false,.u a])):
 aY (av f324 0) (mv A b c d a q e) .normal (mv A b c d (a+1) q e):=
 h.aR [12,0,1,2,3,11,10] []
theorem aqd(h:ah (kl A a f g j i [.b (f==b) true,.b (g==c) false,.u a])):
 aY (av f324 0) (mv A b c d a q e) .normal (mv A b c d (a+1) q e):=
 h.aR [12,0,1,2,3,11,10] []
theorem arH(h:ah (kl A a f i j g [.b (f==b) false,.u a])):
 aY (av f324 0) (mv A b c d a q e) .normal (mv A b c d (a+1) q e):=
 h.aR [12,0,1,2,3,11,10] []
def RR(a:Int)(q:Bool):aG:=bp 54 [(10,bf a),(11,.bd (.one (.cg q)))] []
theorem arI(h:ah [.f A a false]):
 aY (av f324 0) (mv A c d e a q b) (.exit 0) (RR b q):=
 h.aR [10,11] []
theorem arJ(h:ah [.l [] [12,0,1,2,3,11,10] [] (av f324 0) (mv A a b c 0 false 0) (.exit 0) (RR d q)]):
 aw 324 [aS 4 A,ag a,ag b,ag c] [ag d,al q]:=
 h.of
theorem arK(h:ah [.b (a==5) true]):
 aw 268 [ag a] [al true]:=
 h.of
theorem arL(h:ah [.b (a==5) false,.b (a==6) true]):
 aw 268 [ag a] [al true]:=
 h.of
theorem arM(h:ah [.b (a==5) false,.b (a==6) false]):
 aw 268 [ag a] [al (a==8)]:=
 h.of
theorem arN(h:ah (G1 A [.b (a==6) true,.r 306 [aS 4 A,.agg [I b,I c,I d,I e]] [al q],.b q true])):
 aw 269 [ag a,aS 4 A,.agg [I b,I c,I d,I e]] [aS 4 ([]++A),al false]:=
 h.of
theorem arO(h:ah (G1 A [.b (e==6) true,.r 306 [aS 4 A,.agg [I a,I b,I c,I d]] [al q],.b q false,.r 238 [aS 4 A,.agg [I a,I b,I c,I d]] [aS 4 C]])):
 aw 269 [ag e,aS 4 A,.agg [I a,I b,I c,I d]] [aS 4 C,al true]:=
 h.of
def NF(A:ak)(a:Int)(l:List O):List O:=G1 A (.b (a==6) false::l)
def NG(A:ak)(a b c d e:Int)(q:Bool)(l:List O):List O:=NF A a (.b (a==5) true::.b (a==5) true::.r 324 [aS 4 A,ag b,ag c,ag d] [ag e,al q]::l)
theorem arP(h:ah (NG A a b c d f q [.b q true,.b (decide (f<=e)) true])):
 aw 269 [ag a,aS 4 A,.agg [I b,I c,I d,I e]] [aS 4 ([]++A),al false]:=
 h.of
def mw(A:ak)(a b c d e:Int)(C:ak):aG:=bp 94 [(1,eP 4 A),(5,bE 5),(11,aI.bd (bS.one (aV 48 4 C))),(12,bf e)] [(5,[aM a,aM b,aM c,aM d])]
theorem arQ(h:ah (kl A a g l m n [.b (g != f) true,.x A a [I b,I c,I d,I e],.g C [[I b,I c,I d,I e]] 32,.h [[I b,I c,I d,I e]],.u a])):
 aY (av f269 0) (mw A f i j k a C) .normal (mw A f i j k (a+1) (C++[[I b,I c,I d,I e]])):=
 h.aR [12,1,5,11] [5]
theorem arR(h:ah (kl A a i m n o [.b (i != f) false,.x A a [I p,I j,I a0,I ck],.b (j != g) true,.x A a [I b,I c,I d,I e],.g C [[I b,I c,I d,I e]] 32,.h [[I b,I c,I d,I e]],.u a])):
 aY (av f269 0) (mw A f g k l a C) .normal (mw A f g k l (a+1) (C++[[I b,I c,I d,I e]])):=
 h.aR [12,1,5,11] [5]
theorem arS(h:ah (kl A a j n o p [.b (j != f) false,.x A a [I a0,I k,I ck,I dT],.b (k != g) false,.x A a [I d0,I cc,I l,I f0],.b (l != i) true,.x A a [I b,I c,I d,I e],.g C [[I b,I c,I d,I e]] 32,.h [[I b,I c,I d,I e]],.u a])):
 aY (av f269 0) (mw A f g i m a C) .normal (mw A f g i m (a+1) (C++[[I b,I c,I d,I e]])):=
 h.aR [12,1,5,11] [5]
theorem arT(h:ah (kl A a e j k l [.b (e != b) false,.x A a [I m,I f,I n,I o],.b (f != c) false,.x A a [I p,I a0,I g,I ck],.b (g != d) false,.u a])):
 aY (av f269 0) (mw A b c d i a C) .normal (mw A b c d i (a+1) C):=
 h.aR [12,1,5,11] [5]
def zG(a b c d:Int)(A:ak):aG:=bp 94 [(5,bE 5),(11,aI.bd (bS.one (aV 48 4 A)))] [(5,[aM a,aM b,aM c,aM d])]
theorem arU(h:ah [.f A e false]):
 aY (av f269 0) (mw A a b c d e C) (.exit 1) (zG a b c d C):=
 h.aR [11,5] [5]
theorem arV(h:ah (NG A e a b c f q [.b q true,.b (decide (f<=d)) false,.l [] [12,1,5,11] [5] (av f269 0) (mw A a b c d 0 []) (.exit 1) (zG a b c d C),.r 238 [aS 4 C,.agg [I a,I b,I c,I d]] [aS 4 E]])):
 aw 269 [ag e,aS 4 A,.agg [I a,I b,I c,I d]] [aS 4 E,al true]:=
 h.of
theorem arW(h:ah (NG A d a b c f q [.b q false,.l [] [12,1,5,11] [5] (av f269 0) (mw A a b c e 0 []) (.exit 1) (zG a b c e C),.r 238 [aS 4 C,.agg [I a,I b,I c,I e]] [aS 4 E]])):
 aw 269 [ag d,aS 4 A,.agg [I a,I b,I c,I e]] [aS 4 E,al true]:=
 h.of
def NH(A:ak)(a b c d e:Int)(q:Bool)(l:List O):List O:=NF A a (.b (a==5) false::.b (a==8) true::.r 324 [aS 4 A,ag b,ag c,ag d] [ag e,al q]::l)
theorem arX(h:ah (NH A a b c d f q [.b q true,.b (decide (f<=e)) true])):
 aw 269 [ag a,aS 4 A,.agg [I b,I c,I d,I e]] [aS 4 ([]++A),al false]:=
 h.of
theorem arY(h:ah (NH A e a b c f q [.b q true,.b (decide (f<=d)) false,.l [] [12,1,5,11] [5] (av f269 0) (mw A a b c d 0 []) (.exit 1) (zG a b c d C),.r 238 [aS 4 C,.agg [I a,I b,I c,I d]] [aS 4 E]])):
 aw 269 [ag e,aS 4 A,.agg [I a,I b,I c,I d]] [aS 4 E,al true]:=
 h.of
theorem arZ(h:ah (NH A d a b c f q [.b q false,.l [] [12,1,5,11] [5] (av f269 0) (mw A a b c e 0 []) (.exit 1) (zG a b c e C),.r 238 [aS 4 C,.agg [I a,I b,I c,I e]] [aS 4 E]])):
 aw 269 [ag d,aS 4 A,.agg [I a,I b,I c,I e]] [aS 4 E,al true]:=
 h.of
theorem ar0(h:ah (NF A a [.b (a==5) false,.b (a==8) false])):
 aw 269 [ag a,aS 4 A,.agg [I b,I c,I d,I e]] [aS 4 ([]++A),al true]:=
 h.of
