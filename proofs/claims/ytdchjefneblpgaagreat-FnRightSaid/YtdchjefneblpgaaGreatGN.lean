import Derived.Test.YtdchjefneblpgaaGreatGE
set_option linter.unusedVariables false
set_option linter.unusedSimpArgs false
namespace Go.Proofs.YtdchjefneblpgaaGreat
open Go.Sx Go.RowKit Go.Proofs.Tryz
variable {a b c d e f g i j k l m n o p a0 ch de d0 cd f0 : Int} {A C E F G H au K L M N Q R S bn V X Y Z dK eH e9 fa : ah} {q r s : Bool}
theorem aza(h:af [.g ([]:ah) A 40,.h A]):
 av 233 [aE 5 A] [aE 5 ([]++A)]:=
 h.of
def tA(a b:Int)(l:List O):List O:=.b (decide (a<b)) true::l
theorem azb(h:af (tA b a [])):
 av 130 [ag c,ag a,ag b] [ag a]:=
 h.of
def p0(a b:Int)(l:List O):List O:=.b (decide (a<b)) false::l
theorem azc(h:af (p0 c a [.b (decide (b<a)) true])):
 av 130 [ag b,ag a,ag c] [ag a]:=
 h.of
theorem azd(h:af (p0 a c [.b (decide (b<c)) false,.b (decide (b>a)) true])):
 av 130 [ag b,ag c,ag a] [ag a]:=
 h.of
theorem ayo(h:af (p0 c b [.b (decide (a<b)) false,.b (decide (a>c)) false])):
 av 130 [ag a,ag b,ag c] [ag a]:=
 h.of
theorem ayp(h:af (tA b a [])):
 av 167 [ag c,ag a,ag b] [ag a]:=
 h.of
theorem ayq(h:af (p0 c a [.b (decide (b<a)) true])):
 av 167 [ag b,ag a,ag c] [ag a]:=
 h.of
theorem ayr(h:af (p0 b c [.b (decide (a<c)) false])):
 av 167 [ag a,ag c,ag b] [ag (if b<a then b else a)]:=
 h.of
def De(a b:Int)(A:ah):aD:=ba 62 [(3,aH.aR (bm.one (aK 9 3 A))),(4,aY a),(5,aY b)] []
theorem ays(h:af (tA a b [.g A [[I 1,I a,I 0],[I 3,I a,I 0],[I 2,I a,I 0],[I 7,I a,I 0]] 24,.h [[I 1,I a,I 0],[I 3,I a,I 0],[I 2,I a,I 0],[I 7,I a,I 0]],.u a])):
 aT (ap f129 0) (De b a A) .normal (De b (a+1) (A++[[I 1,I a,I 0],[I 3,I a,I 0],[I 2,I a,I 0],[I 7,I a,I 0]])):=
 h.aQ [5,4,3] []
def UZ(a:Int)(A:ah):aD:=ba 62 [(3,aH.aR (bm.one (aK 9 3 A))),(4,aY a)] []
theorem ayt(h:af (p0 b a [])):
 aT (ap f129 0) (De a b A) (.exit 0) (UZ a A):=
 h.aQ [4,3] []
def Df(a b:Int)(A:ah):aD:=ba 62 [(3,aH.aR (bm.one (aK 9 3 A))),(4,aY a),(6,aY b)] []
def yv(a b c:Int)(A:ah):aD:=ba 62 [(3,aH.aR (bm.one (aK 9 3 A))),(4,aY a),(6,aY b),(7,aY c)] []
def aav(a b c:Int)(A:ah)(l:List O):List O:=tA a b (.b (c != a) true::.g A [[I 4,I c,I a],[I 5,I c,I a]] 24::.h [[I 4,I c,I a],[I 5,I c,I a]]::.u a::l)
theorem ayu(h:af (aav a c b A [])):
 aT (ap f129 2) (yv c b a A) .normal (yv c b (a+1) (A++[[I 4,I b,I a],[I 5,I b,I a]])):=
 h.aQ [7,4,6,3] []
theorem ayv(h:af (tA a b [.b (c != a) false,.u a])):
 aT (ap f129 2) (yv b c a A) .normal (yv b c (a+1) A):=
 h.aQ [7,4,6,3] []
def U0(a b:Int)(A:ah):aD:=ba 62 [(3,aH.aR (bm.one (aK 9 3 A))),(4,aY a),(6,aY b)] []
theorem ayw(h:af (p0 b a [])):
 aT (ap f129 2) (yv a c b A) (.exit 4) (U0 a c A):=
 h.aQ [6,4,3] []
theorem ayx(h:af (tA a b [.l [] [7,4,6,3] [] (ap f129 2) (yv b a 0 A) (.exit 4) (U0 b a C),.u a])):
 aT (ap f129 1) (Df b a A) .normal (Df b (a+1) C):=
 h.aQ [6,4,3] []
def U1(A:ah):aD:=ba 62 [(3,aH.aR (bm.one (aK 9 3 A)))] []
theorem ayy(h:af (p0 b a [])):
 aT (ap f129 1) (Df a b A) (.exit 2) (U1 A):=
 h.aQ [3] []
def Dg(a:Int)(A:ah):aD:=ba 62 [(3,aH.aR (bm.one (aK 9 3 A))),(8,aY a)] []
theorem ayz(h:af [.b (decide (a<=3)) true,.g A [[I 6,I a,I 0]] 24,.h [[I 6,I a,I 0]],.u a]):
 aT (ap f129 3) (Dg a A) .normal (Dg (a+1) (A++[[I 6,I a,I 0]])):=
 h.aQ [8,3] []
def U2(A:ah):aD:=ba 62 [(3,aH.aR (bm.one (aK 9 3 A)))] []
theorem ayA(h:af [.b (decide (a<=3)) false]):
 aT (ap f129 3) (Dg a A) (.exit 6) (U2 A):=
 h.aQ [3] []
theorem ayB(h:af [.r 130 [ag b,ag 0,ag 4] [ag a],.l [] [5,4,3] [] (ap f129 0) (De a 0 []) (.exit 0) (UZ a C),.l [] [6,4,3] [] (ap f129 1) (Df a 0 C) (.exit 2) (U1 E),.l [] [8,3] [] (ap f129 3) (Dg 0 E) (.exit 6) (U2 A)]):
 av 129 [.agg (cl F b c G H au K)] [aE 3 A]:=
 h.of
def Dh(a b:Int)(A:ah):aD:=ba 65 [(3,aY a),(4,aH.aR (bm.one (aK 31 3 A))),(5,aY b)] []
def uH(a b c:Int)(A:ah):aD:=ba 65 [(3,aY a),(4,aH.aR (bm.one (aK 31 3 A))),(5,aY b),(20,.aR (.one (.J (.own 20) 1 [[I 1],[I 3],[I 2],[I 7]]))),(21,aY (↑[[I 1],[I 3],[I 2],[I 7]].length:Int)),(22,aY c)] []
theorem Hi(h:af [.i [[I 1],[I 3],[I 2],[I 7]] b [I c],.g A [[I c,I a,I 0]] 24,.h [[I c,I a,I 0]],.u b]):
 aT (ap f201 1) (uH d a b A) .normal (uH d a (b+1) (A++[[I c,I a,I 0]])):=
 h.aQ [22,21,20,4,5,3] []
def U3(a b:Int)(A:ah):aD:=ba 65 [(3,aY a),(4,aH.aR (bm.one (aK 31 3 A))),(5,aY b)] []
theorem ayC(h:af [.f [[I 1],[I 3],[I 2],[I 7]] a false]):
 aT (ap f201 1) (uH b c a A) (.exit 2) (U3 b c A):=
 h.aQ [5,3,4] []
theorem ayD(h:af (tA a b [.l [] [22,21,20,4,5,3] [] (ap f201 1) (uH b a 0 C) (.exit 2) (U3 b a A),.u a])):
 aT (ap f201 0) (Dh b a C) .normal (Dh b (a+1) A):=
 h.aQ [5,3,4] []
def U4(a:Int)(A:ah):aD:=ba 65 [(3,aY a),(4,aH.aR (bm.one (aK 31 3 A)))] []
theorem ayE(h:af (p0 b a [])):
 aT (ap f201 0) (Dh a b A) (.exit 0) (U4 a A):=
 h.aQ [3,4] []
def Di(a b:Int)(A:ah):aD:=ba 65 [(3,aY a),(4,aH.aR (bm.one (aK 31 3 A))),(8,aY b)] []
def yw(a b c:Int)(A:ah):aD:=ba 65 [(3,aY a),(4,aH.aR (bm.one (aK 31 3 A))),(8,aY b),(9,aY c)] []
theorem ayF(h:af (aav a c b A [])):
 aT (ap f201 3) (yw c b a A) .normal (yw c b (a+1) (A++[[I 4,I b,I a],[I 5,I b,I a]])):=
 h.aQ [9,3,8,4] []
theorem ayG(h:af (tA a b [.b (c != a) false,.u a])):
 aT (ap f201 3) (yw b c a A) .normal (yw b c (a+1) A):=
 h.aQ [9,3,8,4] []
def U5(a b:Int)(A:ah):aD:=ba 65 [(3,aY a),(4,aH.aR (bm.one (aK 31 3 A))),(8,aY b)] []
theorem ayH(h:af (p0 b a [])):
 aT (ap f201 3) (yw a c b A) (.exit 6) (U5 a c A):=
 h.aQ [8,3,4] []
theorem ayI(h:af (tA a b [.l [] [9,3,8,4] [] (ap f201 3) (yw b a 0 A) (.exit 6) (U5 b a C),.u a])):
 aT (ap f201 2) (Di b a A) .normal (Di b (a+1) C):=
 h.aQ [8,3,4] []
def U6(A:ah):aD:=ba 65 [(4,aH.aR (bm.one (aK 31 3 A)))] []
theorem ayJ(h:af (p0 b a [])):
 aT (ap f201 2) (Di a b A) (.exit 4) (U6 A):=
 h.aQ [4] []
def Dj(a:Int)(A:ah):aD:=ba 65 [(4,aH.aR (bm.one (aK 31 3 A))),(10,aY a)] []
theorem ayK(h:af [.b (decide (a<=3)) true,.g A [[I 6,I a,I 0]] 24,.h [[I 6,I a,I 0]],.u a]):
 aT (ap f201 4) (Dj a A) .normal (Dj (a+1) (A++[[I 6,I a,I 0]])):=
 h.aQ [10,4] []
def U7(A:ah):aD:=ba 65 [(4,aH.aR (bm.one (aK 31 3 A)))] []
theorem ayL(h:af [.b (decide (a<=3)) false]):
 aT (ap f201 4) (Dj a A) (.exit 8) (U7 A):=
 h.aQ [4] []
theorem ayM(h:af [.r 167 [ag b,ag 0,ag 4] [ag a],.l [(4,31,3)] [5,3,4] [] (ap f201 0) (Dh a 0 []) (.exit 0) (U4 a C),.l [] [8,3,4] [] (ap f201 2) (Di a 0 C) (.exit 4) (U6 E),.l [] [10,4] [] (ap f201 4) (Dj 0 E) (.exit 8) (U7 A)]):
 av 201 [.agg (cl F b c G H au K)] [aE 3 A]:=
 h.of
theorem ayN(h:af [.b (decide (a>=b)) true]):
 av 190 [ag a,ag b,ag c] [ak (decide (a<=c))]:=
 h.of
theorem aye(h:af [.b (decide (a>=b)) false]):
 av 190 [ag a,ag b,ag c] [ak false]:=
 h.of
theorem ayf(h:af [.b (decide (a>=b)) true]):
 av 168 [ag a,ag b,ag c] [ak (decide (a<=c))]:=
 h.of
theorem ayg(h:af [.b (decide (a>=b)) false]):
 av 168 [ag a,ag b,ag c] [ak false]:=
 h.of
theorem ayh(h:af (tA a b [])):
 av 322 [ag a,ag b] [ag (-1)]:=
 h.of
theorem ayi(h:af (p0 a b [.b (decide (a>b)) true])):
 av 322 [ag a,ag b] [ag 1]:=
 h.of
theorem ayj(h:af (p0 a b [.b (decide (a>b)) false])):
 av 322 [ag a,ag b] [ag 0]:=
 h.of
theorem ayk(a:Int)(h:af []):
 av 388 [ag a] [ak (a != a)]:=
 h.of
def Qw(a:Int)(q:Bool)(b:Int)(r:Bool)(l:List O):List O:=.r 388 [ag a] [ak q]::.r 388 [ag b] [ak r]::.b q false::.b r false::l
theorem ayl(h:af (Qw a q b r [.b (decide (a<b)) true])):
 av 382 [ag a,ag b] [ag (-1)]:=
 h.of
theorem aym(h:af (Qw a q b r [.b (decide (a<b)) false,.b (decide (a>b)) true])):
 av 382 [ag a,ag b] [ag 1]:=
 h.of
theorem ayn(h:af (Qw a q b r [.b (decide (a<b)) false,.b (decide (a>b)) false])):
 av 382 [ag a,ag b] [ag 0]:=
 h.of
def yx(A C:ah)(a:Int):aD:=ba 36 [(0,c6 1 A),(1,c6 1 C),(9,c6 1 A),(10,aY (A.length:Int)),(11,aY a)] []
def Ol(a:Int):aD:=ba 36 [(4,aY a)] []
theorem azO(h:af [.i C a [I c],.b (decide (a>=(A.length:Int))) false,.x A a [I d],.r 382 [ag c,ag d] [ag b],.b (b != 0) true]):
 aT (ap f364 0) (yx C A a) .ret (Ol b):=
 h.aQ [4] []
theorem azP(h:af [.i C a [I b],.b (decide (a>=(A.length:Int))) false,.x A a [I c],.r 382 [ag b,ag c] [ag d],.b (d != 0) false,.u a]):
 aT (ap f364 0) (yx C A a) .normal (yx C A (a+1)):=
 h.aQ [11,10,9,1,0] []
def U8(A C:ah):aD:=ba 36 [(0,c6 1 A),(1,c6 1 C)] []
theorem azQ(h:af [.f A a false]):
 aT (ap f364 0) (yx A C a) (.exit 0) (U8 A C):=
 h.aQ [0,1] []
theorem azR(h:af [.l [] [11,10,9,1,0] [] (ap f364 0) (yx A C 0) .ret (Ol a)]):
 av 364 [aE 1 A,aE 1 C] [ag a]:=
 h.of
theorem azS(h:af [.l [] [11,10,9,1,0] [] (ap f364 0) (yx A C 0) (.exit 0) (U8 A C),.f C (A.length:Int) false]):
 av 364 [aE 1 A,aE 1 C] [ag 0]:=
 h.of
theorem azT(h:af [.r 364 [aE 1 A,aE 1 C] [ag a]]):
 av 335 [aE 1 A,aE 1 C] [ag a]:=
 h.of
def yy(A:ah)(a b:Int)(C:ah):aD:=ba 30 [(0,c6 5 A),(1,aY a),(5,aH.aR (bm.one (aK 7 5 C))),(6,aY b)] []
theorem azU(h:af [.i A a (bz j i k l m),.b (i==g) true,.x A a (bz f b c d e),.g C [(bz f b c d e)] 40,.h [(bz f b c d e)],.u a]):
 aT (ap f116 0) (yy A g a C) .normal (yy A g (a+1) (C++[(bz f b c d e)])):=
 h.aQ [6,0,1,5] []
theorem azV(h:af [.i A a (bz d c e f g),.b (c==b) false,.u a]):
 aT (ap f116 0) (yy A b a C) .normal (yy A b (a+1) C):=
 h.aQ [6,0,1,5] []
def U9(A:ah):aD:=ba 30 [(5,aH.aR (bm.one (aK 7 5 A)))] []
theorem azW(h:af [.f A a false]):
 aT (ap f116 0) (yy A b a C) (.exit 0) (U9 C):=
 h.aQ [5] []
theorem azX(h:af [.l [] [6,0,1,5] [] (ap f116 0) (yy A a 0 []) (.exit 0) (U9 C)]):
 av 116 [aE 5 A,ag a] [aE 5 C]:=
 h.of
def yz(A:ah)(a b:Int)(C:ah):aD:=ba 25 [(1,aY a),(5,aH.aR (bm.one (aK 22 5 C))),(8,c6 5 A),(9,aY (A.length:Int)),(10,aY b)] []
theorem azY(h:af [.i A b (bz c a d e f),.b (a==g) true,.g C [(bz c a d e f)] 40,.h [(bz c a d e f)],.u b]):
 aT (ap f182 0) (yz A g b C) .normal (yz A g (b+1) (C++[(bz c a d e f)])):=
 h.aQ [10,9,8,1,5] []
theorem azZ(h:af [.i A a (bz d c e f g),.b (c==b) false,.u a]):
 aT (ap f182 0) (yz A b a C) .normal (yz A b (a+1) C):=
 h.aQ [10,9,8,1,5] []
def U'(A:ah):aD:=ba 25 [(5,aH.aR (bm.one (aK 22 5 A)))] []
theorem az0(h:af [.f A a false]):
 aT (ap f182 0) (yz A b a C) (.exit 0) (U' C):=
 h.aQ [5] []
theorem az1(h:af [.l [(5,22,5)] [10,9,8,1,5] [] (ap f182 0) (yz A a 0 []) (.exit 0) (U' C)]):
 av 182 [aE 5 A,ag a] [aE 5 C]:=
 h.of
def yA(A C E F G H au K:ah)(a b:Int):aD:=ba 21 [(1,aY a),(2,a1 2),(5,aY b)] [(2,[.J .free 5 A,.J .free 5 C,.J .free 5 E,.J .free 4 F,.J .free 1 G,.J .free 1 H,.J .free 1 au,.J .free 2 K])]
def Om(q:Bool):aD:=ba 21 [(4,.aR (.one (.bR q)))] []
theorem az2(h:af [.i A c [I a,B q],.b (a==b) true]):
 aT (ap f213 0) (yA C E F G H au K A b c) .ret (Om true):=
 h.aQ [4] []
theorem az3(h:af [.i A a [I c,B q],.b (c==b) false,.u a]):
 aT (ap f213 0) (yA C E F G H au K A b a) .normal (yA C E F G H au K A b (a+1)):=
 h.aQ [5,2,1] [2]
def Va:aD:=ba 21 [] []
theorem az4(h:af [.f A a false]):
 aT (ap f213 0) (yA C E F G H au K A b a) (.exit 0) Va:=
 h.aQ [] []
theorem az5(h:af [.l [] [5,2,1] [2] (ap f213 0) (yA A C E F G H au K a 0) .ret (Om q)]):
 av 213 [.agg (bb A C E F G H au K),ag a] [ak q]:=
 h.of
theorem az6(h:af [.l [] [5,2,1] [2] (ap f213 0) (yA A C E F G H au K a 0) (.exit 0) Va]):
 av 213 [.agg (bb A C E F G H au K),ag a] [ak false]:=
 h.of
theorem az7(h:af [.r 328 [aE 2 A,.one (.cl 329 [D.ptr [I a]])] [ak q]]):
 av 281 [aE 2 A,ag a] [ak q]:=
 h.of
theorem az8(h:af []):
 av 329 [.agg [I a,B q],.one (.ptr [I b])] [ak (a==b)]:=
 h.of
theorem az9(h:af [.r 281 [aE 2 A,ag a] [ak q]]):
 av 210 [.agg (bb C E F G H au K A),ag a] [ak q]:=
 h.of
def yB(a b c:Int)(q:Bool)(E F G H au K A C:ah):aD:=ba 28 [(1,aY a),(2,a1 2),(4,a1 4),(6,aY b)] [(4,[az c,.bR q]),(2,[.J .free 5 E,.J .free 5 F,.J .free 5 G,.J .free 4 H,.J .free 1 au,.J .free 1 K,.J .free 1 A,.J .free 2 C])]
def Vb(q:Bool)(a:Int)(r:Bool):aD:=ba 28 [(4,a1 4),(5,.aR (.one (.bR q)))] [(4,[az a,.bR r])]
theorem aAa(h:af [.i A a [I b,B s],.b (b==d) true,.x A a [I c,B q]]):
 aT (ap f17 0) (yB d a e r C E F G H au K A) .ret (Vb true c q):=
 h.aQ [4,5] [4]
theorem aAb(h:af [.i A a [I d,B r],.b (d==b) false,.u a]):
 aT (ap f17 0) (yB b a c q C E F G H au K A) .normal (yB b (a+1) c q C E F G H au K A):=
 h.aQ [6,2,1,4] [4,2]
def Vc(a:Int)(q:Bool):aD:=ba 28 [(4,a1 4)] [(4,[az a,.bR q])]
theorem aAc(h:af [.f A b false]):
 aT (ap f17 0) (yB c b a q C E F G H au K A) (.exit 0) (Vc a q):=
 h.aQ [4] [4]
theorem aAd(h:af [.l [] [6,2,1,4] [4,2] (ap f17 0) (yB b 0 0 false A C E F G H au K) .ret (Vb r a q)]):
 av 17 [.agg (bb A C E F G H au K),ag b] [.agg [I a,B q],ak r]:=
 h.of
theorem azo(h:af [.l [] [6,2,1,4] [4,2] (ap f17 0) (yB a 0 0 false A C E F G H au K) (.exit 0) (Vc b q)]):
 av 17 [.agg (bb A C E F G H au K),ag a] [.agg [I 0,B false],ak false]:=
 h.of
def yC(A:ah)(a b c:Int)(q:Bool):aD:=ba 22 [(1,aY a),(4,a1 4),(9,c6 2 A),(10,aY (A.length:Int)),(11,aY b)] [(4,[az c,.bR q])]
def Vd(q:Bool)(a:Int)(r:Bool):aD:=ba 22 [(4,a1 4),(5,.aR (.one (.bR q)))] [(4,[az a,.bR r])]
theorem azp(h:af [.i A c [I a,B q],.b (a==b) true]):
 aT (ap f139 0) (yC A b c d r) .ret (Vd true a q):=
 h.aQ [4,5] [4]
theorem azq(h:af [.i A a [I d,B r],.b (d==b) false,.u a]):
 aT (ap f139 0) (yC A b a c q) .normal (yC A b (a+1) c q):=
 h.aQ [11,10,9,1,4] [4]
def Ve(a:Int)(q:Bool):aD:=ba 22 [(4,a1 4)] [(4,[az a,.bR q])]
theorem azr(h:af [.f A b false]):
 aT (ap f139 0) (yC A c b a q) (.exit 0) (Ve a q):=
 h.aQ [4] [4]
theorem azs(h:af [.l [] [11,10,9,1,4] [4] (ap f139 0) (yC A b 0 0 false) .ret (Vd r a q)]):
 av 139 [.agg (bb C E F G H au K A),ag b] [.agg [I a,B q],ak r]:=
 h.of
theorem azt(h:af [.l [] [11,10,9,1,4] [4] (ap f139 0) (yC A a 0 0 false) (.exit 0) (Ve b q)]):
 av 139 [.agg (bb C E F G H au K A),ag a] [.agg [I 0,B false],ak false]:=
 h.of
def yD(A:ah)(g1:Nat)(bt:List D)(a:Int):aD:=ba 19 [(0,c6 5 A),(1,.aR (.one (.fd (D.cl g1 bt)))),(7,aY (A.length:Int)),(8,aY a)] []
def On(a:Int):aD:=ba 19 [(4,aY a)] []
theorem azu{A:ah}{g1:Nat}{bt:List D}{a b c d e f:Int}{q:Bool}(h:af [.i A a (bz b c d e f),.p (hV prog g1=true),.r g1 ([.agg (bz b c d e f)]++List.map .one bt) [ak q],.b q true]):
 aT (ap f330 0) (yD A g1 bt a) .ret (On a):=
 h.aQ [4] []
theorem azv{A:ah}{g1:Nat}{bt:List D}{a b c d e f:Int}{q:Bool}(h:af [.i A a (bz b c d e f),.p (hV prog g1=true),.r g1 ([.agg (bz b c d e f)]++List.map .one bt) [ak q],.b q false,.u a]):
 aT (ap f330 0) (yD A g1 bt a) .normal (yD A g1 bt (a+1)):=
 h.aQ [8,7,1,0] []
def Vf:aD:=ba 19 [] []
theorem azw{A:ah}{g1:Nat}{bt:List D}{a:Int}(h:af [.f A a false]):
 aT (ap f330 0) (yD A g1 bt a) (.exit 0) Vf:=
 h.aQ [] []
theorem azx{A:ah}{g1:Nat}{bt:List D}{a:Int}(h:af [.l [] [8,7,1,0] [] (ap f330 0) (yD A g1 bt 0) .ret (On a)]):
 av 330 [aE 5 A,.one (.cl g1 bt)] [ag a]:=
 h.of
theorem azy{A:ah}{g1:Nat}{bt:List D}(h:af [.l [] [8,7,1,0] [] (ap f330 0) (yD A g1 bt 0) (.exit 0) Vf]):
 av 330 [aE 5 A,.one (.cl g1 bt)] [ag (-1)]:=
 h.of
def yE(A:ah)(g1:Nat)(bt:List D)(a:Int):aD:=ba 19 [(0,c6 2 A),(1,.aR (.one (.fd (D.cl g1 bt)))),(7,aY (A.length:Int)),(8,aY a)] []
def Oo(a:Int):aD:=ba 19 [(4,aY a)] []
theorem azz{A:ah}{g1:Nat}{bt:List D}{a b:Int}{q r:Bool}(h:af [.i A a [I b,B q],.p (hV prog g1=true),.r g1 ([.agg [I b,B q]]++List.map .one bt) [ak r],.b r true]):
 aT (ap f352 0) (yE A g1 bt a) .ret (Oo a):=
 h.aQ [4] []
theorem azA{A:ah}{g1:Nat}{bt:List D}{a b:Int}{q r:Bool}(h:af [.i A a [I b,B q],.p (hV prog g1=true),.r g1 ([.agg [I b,B q]]++List.map .one bt) [ak r],.b r false,.u a]):
 aT (ap f352 0) (yE A g1 bt a) .normal (yE A g1 bt (a+1)):=
 h.aQ [8,7,1,0] []
def Vg:aD:=ba 19 [] []
theorem azB{A:ah}{g1:Nat}{bt:List D}{a:Int}(h:af [.f A a false]):
 aT (ap f352 0) (yE A g1 bt a) (.exit 0) Vg:=
 h.aQ [] []
theorem azC{A:ah}{g1:Nat}{bt:List D}{a:Int}(h:af [.l [] [8,7,1,0] [] (ap f352 0) (yE A g1 bt 0) .ret (Oo a)]):
 av 352 [aE 2 A,.one (.cl g1 bt)] [ag a]:=
 h.of
theorem azD{A:ah}{g1:Nat}{bt:List D}(h:af [.l [] [8,7,1,0] [] (ap f352 0) (yE A g1 bt 0) (.exit 0) Vg]):
 av 352 [aE 2 A,.one (.cl g1 bt)] [ag (-1)]:=
 h.of
def yF(A:ah)(g1:Nat)(bt:List D)(a:Int):aD:=ba 19 [(0,c6 3 A),(1,.aR (.one (.fd (D.cl g1 bt)))),(7,aY (A.length:Int)),(8,aY a)] []
def Oq(a:Int):aD:=ba 19 [(4,aY a)] []
theorem azE{A:ah}{g1:Nat}{bt:List D}{a b c:Int}{q r:Bool}(h:af [.i A a [I b,I c,B q],.p (hV prog g1=true),.r g1 ([.agg [I b,I c,B q]]++List.map .one bt) [ak r],.b r true]):
 aT (ap f290 0) (yF A g1 bt a) .ret (Oq a):=
 h.aQ [4] []
theorem azF{A:ah}{g1:Nat}{bt:List D}{a b c:Int}{q r:Bool}(h:af [.i A a [I b,I c,B q],.p (hV prog g1=true),.r g1 ([.agg [I b,I c,B q]]++List.map .one bt) [ak r],.b r false,.u a]):
 aT (ap f290 0) (yF A g1 bt a) .normal (yF A g1 bt (a+1)):=
 h.aQ [8,7,1,0] []
def UH:aD:=ba 19 [] []
theorem azG{A:ah}{g1:Nat}{bt:List D}{a:Int}(h:af [.f A a false]):
 aT (ap f290 0) (yF A g1 bt a) (.exit 0) UH:=
 h.aQ [] []
theorem azH{A:ah}{g1:Nat}{bt:List D}{a:Int}(h:af [.l [] [8,7,1,0] [] (ap f290 0) (yF A g1 bt 0) .ret (Oq a)]):
 av 290 [aE 3 A,.one (.cl g1 bt)] [ag a]:=
 h.of
theorem azI{A:ah}{g1:Nat}{bt:List D}(h:af [.l [] [8,7,1,0] [] (ap f290 0) (yF A g1 bt 0) (.exit 0) UH]):
 av 290 [aE 3 A,.one (.cl g1 bt)] [ag (-1)]:=
 h.of
def yG(A:ah)(g1:Nat)(bt:List D)(a:Int):aD:=ba 19 [(0,c6 4 A),(1,.aR (.one (.fd (D.cl g1 bt)))),(7,aY (A.length:Int)),(8,aY a)] []
def Ot(a:Int):aD:=ba 19 [(4,aY a)] []
def gW(A:ah)(a b c d e:Int)(l:List O):List O:=.i A a [I b,I c,I d,I e]::l
theorem azJ{A:ah}{g1:Nat}{bt:List D}{a b c d e:Int}{q:Bool}(h:af (gW A a b c d e [.p (hV prog g1=true),.r g1 ([.agg [I b,I c,I d,I e]]++List.map .one bt) [ak q],.b q true])):
 aT (ap f375 0) (yG A g1 bt a) .ret (Ot a):=
 h.aQ [4] []
theorem azK{A:ah}{g1:Nat}{bt:List D}{a b c d e:Int}{q:Bool}(h:af (gW A a b c d e [.p (hV prog g1=true),.r g1 ([.agg [I b,I c,I d,I e]]++List.map .one bt) [ak q],.b q false,.u a])):
 aT (ap f375 0) (yG A g1 bt a) .normal (yG A g1 bt (a+1)):=
 h.aQ [8,7,1,0] []
def UI:aD:=ba 19 [] []
theorem azL{A:ah}{g1:Nat}{bt:List D}{a:Int}(h:af [.f A a false]):
 aT (ap f375 0) (yG A g1 bt a) (.exit 0) UI:=
 h.aQ [] []
theorem azM{A:ah}{g1:Nat}{bt:List D}{a:Int}(h:af [.l [] [8,7,1,0] [] (ap f375 0) (yG A g1 bt 0) .ret (Ot a)]):
 av 375 [aE 4 A,.one (.cl g1 bt)] [ag a]:=
 h.of
theorem azN{A:ah}{g1:Nat}{bt:List D}(h:af [.l [] [8,7,1,0] [] (ap f375 0) (yG A g1 bt 0) (.exit 0) UI]):
 av 375 [aE 4 A,.one (.cl g1 bt)] [ag (-1)]:=
 h.of
theorem aze{A:ah}{g1:Nat}{bt:List D}{a:Int}(h:af [.r 330 [aE 5 A,.one (.cl g1 bt)] [ag a]]):
 av 291 [aE 5 A,.one (.cl g1 bt)] [ak (decide (a>=0))]:=
 h.of
theorem azf{A:ah}{g1:Nat}{bt:List D}{a:Int}(h:af [.r 352 [aE 2 A,.one (.cl g1 bt)] [ag a]]):
 av 328 [aE 2 A,.one (.cl g1 bt)] [ak (decide (a>=0))]:=
 h.of
end Go.Proofs.YtdchjefneblpgaaGreat
namespace Go.Proofs.YtdchjefneblpgaaGreat
open Go.Sx Go.RowKit Go.Proofs.Tryz
variable {a b c d e f g i j k l m n o p a0 ch de d0 cd f0 : Int} {A C E F G H au K L M N Q R S bn V X Y Z dK eH e9 fa : ah} {q r s : Bool}
def IX(A:ah)(l:List O):List O:=.g ([]:ah) A 32::.h A::l
theorem azg(h:af (IX A [])):
 av 297 [aE 4 A] [aE 4 ([]++A)]:=
 h.of
theorem azh(h:af [.r 336 [aE 4 A,.agg [I a,I b,I c,I d]] [ak q]]):
 av 303 [aE 4 A,.agg [I a,I b,I c,I d]] [ak q]:=
 h.of
theorem azi(h:af [.r 335 [.one (.J 1 [[I b],[I a],[I c],[I d]]),.one (.J 1 [[I f],[I e],[I g],[I i]])] [ag j]]):
 av 304 [.agg [I a,I b,I c,I d],.agg [I e,I f,I g,I i]] [ag j]:=
 h.of
theorem azj(h:af [.r 365 [aE 4 A,.agg [I a,I b,I c,I d]] [ag e]]):
 av 336 [aE 4 A,.agg [I a,I b,I c,I d]] [ak (decide (e>=0))]:=
 h.of
def yH(A:ah)(a b c d e:Int):aD:=ba 19 [(0,c6 4 A),(3,a1 3),(7,aY (A.length:Int)),(8,aY e)] [(3,[az a,az b,az c,az d])]
def Ou(a:Int):aD:=ba 19 [(4,aY a)] []
theorem azk(h:af (gW A a f g i j [.b (b==f&&(c==g&&(d==i&&e==j))) true])):
 aT (ap f365 0) (yH A b c d e a) .ret (Ou a):=
 h.aQ [4] []
theorem azl(h:af (gW A a f g i j [.b (b==f&&(c==g&&(d==i&&e==j))) false,.u a])):
 aT (ap f365 0) (yH A b c d e a) .normal (yH A b c d e (a+1)):=
 h.aQ [8,7,3,0] [3]
def UJ:aD:=ba 19 [] []
theorem azm(h:af [.f A a false]):
 aT (ap f365 0) (yH A b c d e a) (.exit 0) UJ:=
 h.aQ [] []
theorem azn(h:af [.l [] [8,7,3,0] [3] (ap f365 0) (yH A a b c d 0) .ret (Ou e)]):
 av 365 [aE 4 A,.agg [I a,I b,I c,I d]] [ag e]:=
 h.of
theorem aAO(h:af [.l [] [8,7,3,0] [3] (ap f365 0) (yH A a b c d 0) (.exit 0) UJ]):
 av 365 [aE 4 A,.agg [I a,I b,I c,I d]] [ag (-1)]:=
 h.of
theorem aAP(h:af [.r 297 [aE 4 A] [aE 4 C],.r 303 [aE 4 A,.agg [I a,I b,I c,I d]] [ak q],.b q true]):
 av 237 [aE 4 A,.agg [I a,I b,I c,I d]] [aE 4 C]:=
 h.of
def yI(A:ah)(a b c d:Int)(C:ah)(e:Int):aD:=ba 33 [(0,c6 4 A),(3,a1 3),(5,aH.aR (bm.one (aK 90000 4 C))),(6,aY e)] [(3,[az a,az b,az c,az d])]
theorem aAQ(h:af (gW A a j k f g [.r 304 [.agg [I j,I k,I f,I g],.agg [I b,I c,I d,I e]] [ag i],.b (decide (i<0)) true,.u a])):
 aT (ap f237 0) (yI A b c d e C a) .normal (yI A b c d e C (a+1)):=
 h.aQ [6,0,3,5] [3]
def Dk(a b c d:Int)(A:ah)(e:Int):aD:=ba 33 [(3,a1 3),(5,aH.aR (bm.one (aK 90000 4 A))),(6,aY e)] [(3,[az a,az b,az c,az d])]
theorem aAR(h:af (gW A e j k f g [.r 304 [.agg [I j,I k,I f,I g],.agg [I a,I b,I c,I d]] [ag i],.b (decide (i<0)) false])):
 aT (ap f237 0) (yI A a b c d C e) (.exit 0) (Dk a b c d C e):=
 h.aQ [5,6,3] [3]
theorem aAS(h:af [.f A a false]):
 aT (ap f237 0) (yI A b c d e C a) (.exit 0) (Dk b c d e C a):=
 h.aQ [5,6,3] [3]
theorem aAT(h:af [.r 297 [aE 4 A] [aE 4 C],.r 303 [aE 4 A,.agg [I a,I b,I c,I d]] [ak q],.b q false,.l [] [6,0,3,5] [3] (ap f237 0) (yI A a b c d C 0) (.exit 0) (Dk a b c d C e),.a (.sa [[some none],[none],[some none]] 0 [] [aE 4 E]),.p (lk prog 305 [GA.one (eR.fh 4 C none),GA.one (eR.ro (I e)),GA.one (eR.fh 4 [[I a,I b,I c,I d]] none)] [aE 4 E])]):
 av 237 [aE 4 A,.agg [I a,I b,I c,I d]] [aE 4 E]:=
 h.of
theorem UK(h:af [.v ((A.length:Int)-1),.r 190 [ag a,ag 0,ag ((A.length:Int)-1)] [ak q]]):
 av 250 [.agg (bg A b c),ag a] [ak q]:=
 h.of
def uI(A:ah)(a:Int)(C E:ah)(b c:Int):aD:=ba 34 [(2,a1 2),(5,aH.aR (bm.one (aK 31 4 C))),(8,c6 4 A),(9,aY (A.length:Int)),(10,aY a)] [(2,[.J .free 4 E,az b,az c])]
theorem aAU(h:af (gW C e a b c d [.r 250 [.agg (bg A f g),ag a] [ak q],.b q true,.x A a (bj i j k F),.b (i==8) true,.g E [[I a,I b,I c,I d]] 32,.h [[I a,I b,I c,I d]],.u e])):
 aT (ap f134 0) (uI C e E A f g) .normal (uI C (e+1) (E++[[I a,I b,I c,I d]]) A f g):=
 h.aQ [10,9,8,2,5] [2]
theorem aAV(h:af (gW C a d f g i [.r 250 [.agg (bg A b c),ag d] [ak q],.b q true,.x A d (bj e j k F),.b (e==8) false,.u a])):
 aT (ap f134 0) (uI C a E A b c) .normal (uI C (a+1) E A b c):=
 h.aQ [10,9,8,2,5] [2]
theorem aAW(h:af (gW A a d e f g [.r 250 [.agg (bg C b c),ag d] [ak q],.b q false,.u a])):
 aT (ap f134 0) (uI A a E C b c) .normal (uI A (a+1) E C b c):=
 h.aQ [10,9,8,2,5] [2]
def UL(A:ah):aD:=ba 34 [(5,aH.aR (bm.one (aK 31 4 A)))] []
theorem aAX(h:af [.f A a false]):
 aT (ap f134 0) (uI A a C E b c) (.exit 0) (UL C):=
 h.aQ [5] []
theorem aAY(h:af [.l [(5,31,4)] [10,9,8,2,5] [2] (ap f134 0) (uI C 0 [] A a b) (.exit 0) (UL E)]):
 av 134 [.agg (bg A a b),aE 4 C] [aE 4 E]:=
 h.of
def Dl(A:ah)(a:Int)(C:ah):aD:=ba 28 [(3,aH.aR (bm.one (aK 250000 4 C))),(9,c6 8 A),(10,aY (A.length:Int)),(11,aY a)] []
def AY(A:ah)(a:Int)(C:ah)(b:Int)(E:ah):aD:=ba 28 [(3,aH.aR (bm.one (aK 250000 4 E))),(9,c6 8 A),(10,aY (A.length:Int)),(11,aY a),(16,c6 4 C),(17,aY (C.length:Int)),(18,aY b)] []
theorem aAZ(h:af (gW A a b c d e [.r 237 [aE 4 C,.agg [I b,I c,I d,I e]] [aE 4 E],.u a])):
 aT (ap f104 1) (AY F f A a C) .normal (AY F f A (a+1) E):=
 h.aQ [18,17,16,3,11,10,9] []
def Ov(A:ah)(a:Int)(C:ah):aD:=ba 28 [(3,aH.aR (bm.one (aK 250000 4 C))),(9,c6 8 A),(10,aY (A.length:Int)),(11,aY a)] []
theorem aA0(h:af [.f A a false]):
 aT (ap f104 1) (AY E b A a C) (.exit 2) (Ov E b C):=
 h.aQ [11,10,9,3] []
theorem aA1(h:af [.i A a (bb N G H C au K L M),.l [] [18,17,16,3,11,10,9] [] (ap f104 1) (AY A a C 0 F) (.exit 2) (Ov A a E),.u a]):
 aT (ap f104 0) (Dl A a F) .normal (Dl A (a+1) E):=
 h.aQ [11,10,9,3] []
def UM(A:ah):aD:=ba 28 [(3,aH.aR (bm.one (aK 250000 4 A)))] []
theorem aA2(h:af [.f A a false]):
 aT (ap f104 0) (Dl A a C) (.exit 0) (UM C):=
 h.aQ [3] []
theorem aA3(h:af [.l [(3,250000,4)] [11,10,9,3] [] (ap f104 0) (Dl A 0 []) (.exit 0) (UM C)]):
 av 104 [.agg (cl E a b A F G H)] [aE 4 C]:=
 h.of
def yJ(a:Int)(A:ah)(b:Int)(C:ah):aD:=ba 28 [(1,aY a),(5,aH.aR (bm.one (aK 25 4 C))),(12,aH.aR (bm.one (aK 130000 4 A))),(13,aY (A.length:Int)),(14,aY b)] []
theorem aA4(h:af (gW C b c a d e [.b (a==f) true,.g A [[I c,I a,I d,I e]] 32,.h [[I c,I a,I d,I e]],.u b])):
 aT (ap f114 0) (yJ f C b A) .normal (yJ f C (b+1) (A++[[I c,I a,I d,I e]])):=
 h.aQ [14,13,12,1,5] []
theorem aA5(h:af (gW A a d c e f [.b (c==b) false,.u a])):
 aT (ap f114 0) (yJ b A a C) .normal (yJ b A (a+1) C):=
 h.aQ [14,13,12,1,5] []
def UN(A:ah):aD:=ba 28 [(5,aH.aR (bm.one (aK 25 4 A)))] []
theorem aA6(h:af [.f C a false]):
 aT (ap f114 0) (yJ b C a A) (.exit 0) (UN A):=
 h.aQ [5] []
theorem aA7(h:af [.r 104 [.agg (cl A a b E F G H)] [aE 4 au],.r 134 [.agg (bg A a b),aE 4 au] [aE 4 K],.l [(5,25,4)] [14,13,12,1,5] [] (ap f114 0) (yJ c K 0 []) (.exit 0) (UN C)]):
 av 114 [.agg (cl A a b E F G H),ag c] [aE 4 C]:=
 h.of
theorem aA8(h:af [.b (a==d) true,.b (b==e) true]):
 av 347 [.agg [I a,I b,I c,I g],.agg [I d,I e,I f,I i]] [ak (c==f)]:=
 h.of
theorem aA9(h:af [.b (a==c) true,.b (b==d) false]):
 av 347 [.agg [I a,I b,I e,I f],.agg [I c,I d,I g,I i]] [ak false]:=
 h.of
theorem aBa(h:af [.b (a==b) false]):
 av 347 [.agg [I a,I c,I d,I e],.agg [I b,I f,I g,I i]] [ak false]:=
 h.of
theorem aBb(h:af [.r 347 [.agg [I e,I f,I g,I i],.agg [I a,I b,I c,I d]] [ak q]]):
 av 346 [.agg [I a,I b,I c,I d],.one (.ptr [I e,I f,I g,I i])] [ak q]:=
 h.of
theorem aBc{A:ah}{g1:Nat}{bt:List D}{a:Int}(h:af [.r 375 [aE 4 A,.one (.cl g1 bt)] [ag a],.b (a==-1) true]):
 Rw 345 [GA.one (eR.fh 4 A none),GA.one (eR.ro (D.cl g1 bt))] [aE 4 A]:=
 h.Tc
def wF(g0:Nat)(b8:List D)(a b:Int)(A:ah):aD:=ba 42 [(0,aH.aR (bm.one (aK 1000000000 4 A))),(1,.aR (.one (.fd (D.cl g0 b8)))),(5,aY b),(6,aY a)] []
theorem aBd{g1:Nat}{bt:List D}{b a:Int}{A:ah}{d e f c:Int}{q:Bool}{d12 d13 d14 d15:D}(h:af (gW A b d e f c [.p (hV prog g1=true),.r g1 ([.agg [I d,I e,I f,I c]]++List.map .one bt) [ak q],.n q true,.x A a [d12,d13,d14,d15],.u a,.u b])):
 aT (ap f345 0) (wF g1 bt b a A) .normal (wF g1 bt (b+1) (a+1) (A.set a.toNat [I d,I e,I f,I c])):=
 h.aQ [6,0,1,5] []
theorem aAo{g1:Nat}{bt:List D}{a c:Int}{A:ah}{d e f b:Int}{q:Bool}(h:af (gW A a d e f b [.p (hV prog g1=true),.r g1 ([.agg [I d,I e,I f,I b]]++List.map .one bt) [ak q],.n q false,.u a])):
 aT (ap f345 0) (wF g1 bt a c A) .normal (wF g1 bt (a+1) c A):=
 h.aQ [6,0,1,5] []
def Ow(A:ah)(a:Int):aD:=ba 42 [(0,aH.aR (bm.one (aK 1000000000 4 A))),(5,aY a)] []
theorem aAp{g1:Nat}{bt:List D}{a b:Int}{A:ah}(h:af [.f A a false]):
 aT (ap f345 0) (wF g1 bt a b A) (.exit 0) (Ow A b):=
 h.aQ [0,5] []
theorem aAq{C:ah}{g1:Nat}{bt:List D}{b:Int}{A:ah}{a:Int}(h:af [.r 375 [aE 4 C,.one (.cl g1 bt)] [ag b],.b (b==-1) false,.u b,.l [] [6,0,1,5] [] (ap f345 0) (wF g1 bt (b+1) b C) (.exit 0) (Ow A a),.a .own,.p (0<=(some a).getD 0),.p ((some a).getD 0<(A.length:Int)),.h A,.p ((0:Int)<=none.getD 0),.p (none.getD 0<=(some a).getD (↑(List.take ((some a).getD 0).toNat A++List.replicate (A.length-((some a).getD 0).toNat) [I 0,I 0,I 0,I 0]).length:Int)),.p ((some a).getD (↑(List.take ((some a).getD 0).toNat A++List.replicate (A.length-((some a).getD 0).toNat) [I 0,I 0,I 0,I 0]).length:Int)<=(↑(List.take ((some a).getD 0).toNat A++List.replicate (A.length-((some a).getD 0).toNat) [I 0,I 0,I 0,I 0]).length:Int))]):
 Rw 345 [GA.one (eR.fh 4 C none),GA.one (eR.ro (D.cl g1 bt))] [.one (.J 4 (List.take (((some a).getD (↑(List.take ((some a).getD 0).toNat A++List.replicate (A.length-((some a).getD 0).toNat) [I 0,I 0,I 0,I 0]).length:Int)).toNat-0) (List.drop 0 (List.take ((some a).getD 0).toNat A++List.replicate (A.length-((some a).getD 0).toNat) [I 0,I 0,I 0,I 0]))))]:=
 h.Tc
def pN(A:ah)(a b c d:Int)(q:Bool)(e:Int):aD:=ba 41 [(1,aY a),(2,aY b),(3,aY c),(10,aY e),(11,.aR (.one (.bR q))),(14,c6 4 A),(15,aY (A.length:Int)),(16,aY d)] []
def IW(A:ah)(a b c d e f g i:Int)(q:Bool)(l:List O):List O:=gW A a b c d e (.r 347 [.agg [I b,I c,I d,I e],.agg [I f,I g,I i,I 0]] [ak q]::l)
theorem aAr(h:af (IW A a f g i c b d e q [.b q true,.n r true,.u a])):
 aT (ap f344 0) (pN A b d e a r j) .normal (pN A b d e (a+1) true c):=
 h.aQ [16,15,14,1,2,3,11,10] []
theorem aAs(h:af (IW A b g i j a c d e q [.b q true,.n r false,.b (decide (a<f)) true,.u b])):
 aT (ap f344 0) (pN A c d e b r f) .normal (pN A c d e (b+1) true a):=
 h.aQ [16,15,14,1,2,3,11,10] []
theorem aAt(h:af (IW A a g i j c b d e r [.b r true,.n q false,.b (decide (c<f)) false,.u a])):
 aT (ap f344 0) (pN A b d e a q f) .normal (pN A b d e (a+1) q f):=
 h.aQ [16,15,14,1,2,3,11,10] []
theorem aAu(h:af (IW A a g i j e b c d q [.b q false,.u a])):
 aT (ap f344 0) (pN A b c d a r f) .normal (pN A b c d (a+1) r f):=
 h.aQ [16,15,14,1,2,3,11,10] []
def UO(a:Int)(q:Bool):aD:=ba 41 [(10,aY a),(11,.aR (.one (.bR q)))] []
theorem aAv(h:af [.f A a false]):
 aT (ap f344 0) (pN A c d e a q b) (.exit 0) (UO b q):=
 h.aQ [10,11] []
theorem aAw(h:af [.l [] [16,15,14,1,2,3,11,10] [] (ap f344 0) (pN A a b c 0 false 0) (.exit 0) (UO d q)]):
 av 344 [aE 4 A,ag a,ag b,ag c] [ag d,ak q]:=
 h.of
theorem aAx(h:af [.r 344 [aE 4 A,ag a,ag b,ag c] [ag e,ak q],.b q true,.b (decide (e<=d)) true,.r 297 [aE 4 A] [aE 4 C]]):
 av 318 [aE 4 A,.agg [I a,I b,I c,I d]] [aE 4 C,ak false]:=
 h.of
theorem aAy(h:af [.r 344 [aE 4 A,ag a,ag b,ag c] [ag e,ak q],.b q true,.b (decide (e<=d)) false,.r 297 [aE 4 A] [aE 4 F],.a (.sa [[some none],[none]] 0 [] [aE 4 C]),.p (lk prog 345 [GA.one (eR.fh 4 F none),GA.one (eR.ro (D.cl 346 [D.ptr [I a,I b,I c,I d]]))] [aE 4 C]),.r 237 [aE 4 C,.agg [I a,I b,I c,I d]] [aE 4 E]]):
 av 318 [aE 4 A,.agg [I a,I b,I c,I d]] [aE 4 E,ak true]:=
 h.of
theorem aAz(h:af [.r 344 [aE 4 A,ag a,ag b,ag c] [ag e,ak q],.b q false,.r 297 [aE 4 A] [aE 4 F],.a (.sa [[some none],[none]] 0 [] [aE 4 C]),.p (lk prog 345 [GA.one (eR.fh 4 F none),GA.one (eR.ro (D.cl 346 [D.ptr [I a,I b,I c,I d]]))] [aE 4 C]),.r 237 [aE 4 C,.agg [I a,I b,I c,I d]] [aE 4 E]]):
 av 318 [aE 4 A,.agg [I a,I b,I c,I d]] [aE 4 E,ak true]:=
 h.of
theorem aAA(h:af [.b (a==5) true,.b (a==5) true,.r 318 [aE 4 A,.agg [I b,I c,I d,I e]] [aE 4 C,ak q]]):
 av 299 [ag a,aE 4 A,.agg [I b,I c,I d,I e]] [aE 4 C,ak q]:=
 h.of
theorem aAB(h:af [.b (a==5) false,.b (a==8) true,.r 318 [aE 4 A,.agg [I b,I c,I d,I e]] [aE 4 C,ak q]]):
 av 299 [ag a,aE 4 A,.agg [I b,I c,I d,I e]] [aE 4 C,ak q]:=
 h.of
theorem aAC(h:af [.b (a==5) false,.b (a==8) false,.b (a==6) true,.r 237 [aE 4 A,.agg [I b,I c,I d,I e]] [aE 4 C],.r 303 [aE 4 A,.agg [I b,I c,I d,I e]] [ak q]]):
 av 299 [ag a,aE 4 A,.agg [I b,I c,I d,I e]] [aE 4 C,.one (B !q)]:=
 h.of
theorem aAD(h:af [.b (a==5) false,.b (a==8) false,.b (a==6) false,.r 297 [aE 4 A] [aE 4 C]]):
 av 299 [ag a,aE 4 A,.agg [I b,I c,I d,I e]] [aE 4 C,ak true]:=
 h.of
def yK(a b c d e:Int):aD:=ba 41 [(5,.aR (.one (.J (.own 27) 1 [[I a],[I b],[I c],[I d]]))),(6,aY e)] []
def Ox(a:Int):aD:=ba 41 [(4,aY a)] []
theorem aAE(h:af [.b (decide (a<4)) true,.x [[I d],[I e],[I b],[I c]] a [I f],.b (f != 0) true,.x [[I d],[I e],[I b],[I c]] a [I g]]):
 aT (ap f307 0) (yK d e b c a) .ret (Ox g):=
 h.aQ [4] []
theorem aAF(h:af [.b (decide (a<4)) true,.x [[I d],[I e],[I b],[I c]] a [I f],.b (f != 0) false,.u a]):
 aT (ap f307 0) (yK d e b c a) .normal (yK d e b c (a+1)):=
 h.aQ [6,5] []
def UP:aD:=ba 41 [] []
theorem aAG(h:af [.b (decide (a<4)) false]):
 aT (ap f307 0) (yK d e b c a) (.exit 0) UP:=
 h.aQ [] []
theorem aAH(h:af [.r 322 [ag b,ag j] [ag m],.r 322 [ag a,ag i] [ag n],.r 322 [ag f,ag k] [ag c],.r 322 [ag g,ag l] [ag d],.l [] [6,5] [] (ap f307 0) (yK m n c d 0) .ret (Ox e)]):
 av 307 [.agg [I a,I b,I f,I g],.agg [I i,I j,I k,I l]] [ag e]:=
 h.of
theorem aAI(h:af [.r 322 [ag b,ag i] [ag l],.r 322 [ag a,ag g] [ag m],.r 322 [ag e,ag j] [ag c],.r 322 [ag f,ag k] [ag d],.l [] [6,5] [] (ap f307 0) (yK l m c d 0) (.exit 0) UP]):
 av 307 [.agg [I a,I b,I e,I f],.agg [I g,I i,I j,I k]] [ag 0]:=
 h.of
def yL(A:ah)(a b c d e:Int):aD:=ba 18 [(0,c6 4 A),(3,a1 3),(5,aY e)] [(3,[az a,az b,az c,az d])]
def Oy(q:Bool):aD:=ba 18 [(4,.aR (.one (.bR q)))] []
theorem aAJ(h:af (gW A e f g i j [.b (f==a&&(g==b&&(i==c&&j==d))) true])):
 aT (ap f306 0) (yL A a b c d e) .ret (Oy true):=
 h.aQ [4] []
theorem aAK(h:af (gW A a f g i j [.b (f==b&&(g==c&&(i==d&&j==e))) false,.u a])):
 aT (ap f306 0) (yL A b c d e a) .normal (yL A b c d e (a+1)):=
 h.aQ [5,0,3] [3]
def UQ:aD:=ba 18 [] []
theorem aAL(h:af [.f A a false]):
 aT (ap f306 0) (yL A b c d e a) (.exit 0) UQ:=
 h.aQ [] []
theorem aAM(h:af [.l [] [5,0,3] [3] (ap f306 0) (yL A a b c d 0) .ret (Oy q)]):
 av 306 [aE 4 A,.agg [I a,I b,I c,I d]] [ak q]:=
 h.of
theorem aAN(h:af [.l [] [5,0,3] [3] (ap f306 0) (yL A a b c d 0) (.exit 0) UQ]):
 av 306 [aE 4 A,.agg [I a,I b,I c,I d]] [ak false]:=
 h.of
theorem aAe(h:af [.r 306 [aE 4 A,.agg [I a,I b,I c,I d]] [ak q],.b q true,.g ([]:ah) A 32,.h A]):
 av 238 [aE 4 A,.agg [I a,I b,I c,I d]] [aE 4 ([]++A)]:=
 h.of
def xW(A:ah)(a b c d e:Int):aD:=ba 41 [(0,c6 4 A),(3,a1 3),(5,aY e)] [(3,[az a,az b,az c,az d])]
theorem aAf(h:af (gW A a i j k f [.r 307 [.agg [I i,I j,I k,I f],.agg [I b,I c,I d,I e]] [ag g],.b (decide (g<0)) true,.u a])):
 aT (ap f238 0) (xW A b c d e a) .normal (xW A b c d e (a+1)):=
 h.aQ [5,0,3] [3]
def CO(A:ah)(a b c d e:Int):aD:=ba 41 [(0,c6 4 A),(3,a1 3),(5,aY e)] [(3,[az a,az b,az c,az d])]
theorem aAg(h:af (gW A e i j k f [.r 307 [.agg [I i,I j,I k,I f],.agg [I a,I b,I c,I d]] [ag g],.b (decide (g<0)) false])):
 aT (ap f238 0) (xW A a b c d e) (.exit 0) (CO A a b c d e):=
 h.aQ [0,5,3] [3]
theorem aAh(h:af [.f A a false]):
 aT (ap f238 0) (xW A b c d e a) (.exit 0) (CO A b c d e a):=
 h.aQ [0,5,3] [3]
theorem aAi(h:af [.r 306 [aE 4 A,.agg [I b,I c,I d,I e]] [ak q],.b q false,.l [] [5,0,3] [3] (ap f238 0) (xW A b c d e 0) (.exit 0) (CO A b c d e a),.p ((0:Int)<=none.getD 0),.p (none.getD 0<=(some a).getD (A.length:Int)),.p ((some a).getD (A.length:Int)<=(A.length:Int)),.p ((([]:ah).length+(List.take (((some a).getD (A.length:Int)).toNat-0) (List.drop 0 A)).length)*32<=140737488355328),.p (([]:ah).length+(List.take (((some a).getD (A.length:Int)).toNat-0) (List.drop 0 A)).length<=9223372036854775807),.p (Flat (List.take (((some a).getD (A.length:Int)).toNat-0) (List.drop 0 A))),.p ((([]++List.take (((some a).getD (A.length:Int)).toNat-0) (List.drop 0 A)).length+[[I b,I c,I d,I e]].length)*32<=140737488355328),.p (([]++List.take (((some a).getD (A.length:Int)).toNat-0) (List.drop 0 A)).length+[[I b,I c,I d,I e]].length<=9223372036854775807),.h [[I b,I c,I d,I e]],.p (0<=(some a).getD 0),.p ((some a).getD 0<=none.getD (A.length:Int)),.p (none.getD (A.length:Int)<=(A.length:Int)),.p ((([]++List.take (((some a).getD (A.length:Int)).toNat-0) (List.drop 0 A)++[[I b,I c,I d,I e]]).length+(List.take (A.length-((some a).getD 0).toNat) (List.drop ((some a).getD 0).toNat A)).length)*32<=140737488355328),.p (([]++List.take (((some a).getD (A.length:Int)).toNat-0) (List.drop 0 A)++[[I b,I c,I d,I e]]).length+(List.take (A.length-((some a).getD 0).toNat) (List.drop ((some a).getD 0).toNat A)).length<=9223372036854775807),.p (Flat (List.take (A.length-((some a).getD 0).toNat) (List.drop ((some a).getD 0).toNat A)))]):
 av 238 [aE 4 A,.agg [I b,I c,I d,I e]] [.one (.J 4 ([]++List.take (((some a).getD (A.length:Int)).toNat-0) (List.drop 0 A)++[[I b,I c,I d,I e]]++List.take (A.length-((some a).getD 0).toNat) (List.drop ((some a).getD 0).toNat A)))]:=
 h.of
theorem aAj(h:af [.v ((A.length:Int)-1),.r 168 [ag a,ag 0,ag ((A.length:Int)-1)] [ak q],.n q true]):
 av 249 [.agg (bg A b c),ag a] [.agg (bj 0 0 0 []),ak false]:=
 h.of
theorem aAk(h:af [.v ((A.length:Int)-1),.r 168 [ag a,ag 0,ag ((A.length:Int)-1)] [ak q],.n q false,.x A a (bj b c d C),.g ([]:ah) C 8,.h C]):
 av 249 [.agg (bg A e f),ag a] [.agg (bj b c d ([]++C)),ak true]:=
 h.of
def uJ(A:ah)(a:Int)(C E:ah)(b c:Int):aD:=ba 40 [(1,c6 4 A),(2,a1 2),(5,aH.aR (bm.one (aK 9 4 C))),(6,aY a)] [(2,[.J .free 4 E,az b,az c])]
theorem aAl(h:af (gW A a j k l m [.r 249 [.agg (bg E f g),ag j] [.agg (bj i n o F),ak q],.b q true,.b (i==8) true,.x A a [I b,I c,I d,I e],.g C [[I b,I c,I d,I e]] 32,.h [[I b,I c,I d,I e]],.u a])):
 aT (ap f133 0) (uJ A a C E f g) .normal (uJ A (a+1) (C++[[I b,I c,I d,I e]]) E f g):=
 h.aQ [6,1,2,5] [2]
theorem aAm(h:af (gW A a e f g i [.r 249 [.agg (bg C b c),ag e] [.agg (bj d j k F),ak q],.b q true,.b (d==8) false,.u a])):
 aT (ap f133 0) (uJ A a E C b c) .normal (uJ A (a+1) E C b c):=
 h.aQ [6,1,2,5] [2]
theorem aAn(h:af (gW A a d e f g [.r 249 [.agg (bg C b c),ag d] [.agg (bj i j k F),ak q],.b q false,.u a])):
 aT (ap f133 0) (uJ A a E C b c) .normal (uJ A (a+1) E C b c):=
 h.aQ [6,1,2,5] [2]
def Wg(A:ah):aD:=ba 40 [(5,aH.aR (bm.one (aK 9 4 A)))] []
theorem afF(h:af [.f A a false]):
 aT (ap f133 0) (uJ A a C E b c) (.exit 0) (Wg C):=
 h.aQ [5] []
theorem afG(h:af [.l [] [6,1,2,5] [2] (ap f133 0) (uJ C 0 [] A a b) (.exit 0) (Wg E)]):
 av 133 [.agg (bg A a b),aE 4 C] [aE 4 E]:=
 h.of
def CP(A:ah)(a b:Int)(C E F G:ah)(c:Int)(H:ah):aD:=ba 37 [(1,a1 1),(3,aH.aR (bm.one (aK 3 4 H))),(4,aY c)] [(1,[.J .free 4 A,az a,az b,.J .free 8 C,.J .free 6 E,.J .free 5 F,.J .free 3 G])]
def Aa(A:ah)(a b:Int)(C E F G:ah)(c d:Int)(H:ah):aD:=ba 37 [(1,a1 1),(3,aH.aR (bm.one (aK 3 4 H))),(4,aY c),(5,aY d)] [(1,[.J .free 4 A,az a,az b,.J .free 8 C,.J .free 6 E,.J .free 5 F,.J .free 3 G])]
theorem afH(h:af [.x A b (bb M N Q F R S bn V),.f F a true,.x A b (bb X Y Z G dK eH e9 fa),.x G a [I e,I f,I g,I i],.r 238 [aE 4 E,.agg [I e,I f,I g,I i]] [aE 4 H],.u a]):
 aT (ap f105 1) (Aa C c d A au K L b a E) .normal (Aa C c d A au K L b (a+1) H):=
 h.uu [(3,3,4)] [5,1,4,3] [1]
def NF(A:ah)(a b:Int)(C E F G:ah)(c:Int)(H:ah):aD:=ba 37 [(1,a1 1),(3,aH.aR (bm.one (aK 3 4 H))),(4,aY c)] [(1,[.J .free 4 A,az a,az b,.J .free 8 C,.J .free 6 E,.J .free 5 F,.J .free 3 G])]
theorem afI(h:af [.x A a (bb K L M F N Q R S),.f F d false]):
 aT (ap f105 1) (Aa C b c A G H au a d E) (.exit 2) (NF C b c A G H au a E):=
 h.aQ [4,1,3] [1]
theorem afJ(h:af [.f A a true,.l [(3,3,4)] [5,1,4,3] [1] (ap f105 1) (Aa C b c A E F G a 0 H) (.exit 2) (NF C b c A E F G a au),.u a]):
 aT (ap f105 0) (CP C b c A E F G a H) .normal (CP C b c A E F G (a+1) au):=
 h.uu [(3,3,4)] [4,1,3] [1]
def Wh(A:ah):aD:=ba 37 [(3,aH.aR (bm.one (aK 3 4 A)))] []
theorem afK(h:af [.f A a false]):
 aT (ap f105 0) (CP E b c A F G H a C) (.exit 0) (Wh C):=
 h.aQ [3] []
theorem afL(h:af [.l [(3,3,4)] [4,1,3] [1] (ap f105 0) (CP A a b C E F G 0 []) (.exit 0) (Wh H)]):
 av 105 [.agg (cl A a b C E F G)] [aE 4 H]:=
 h.of
def xX(a:Int)(A:ah)(b:Int)(C:ah):aD:=ba 35 [(1,aY a),(5,aH.aR (bm.one (aK 8 4 C))),(6,aH.aR (bm.one (aK 140000 4 A))),(7,aY b)] []
theorem afM(h:af (gW A a i g j k [.b (g==f) true,.x A a [I b,I c,I d,I e],.g C [[I b,I c,I d,I e]] 32,.h [[I b,I c,I d,I e]],.u a])):
 aT (ap f20 0) (xX f A a C) .normal (xX f A (a+1) (C++[[I b,I c,I d,I e]])):=
 h.aQ [7,6,1,5] []
theorem afN(h:af (gW A a d c e f [.b (c==b) false,.u a])):
 aT (ap f20 0) (xX b A a C) .normal (xX b A (a+1) C):=
 h.aQ [7,6,1,5] []
def Wi(A:ah):aD:=ba 35 [(5,aH.aR (bm.one (aK 8 4 A)))] []
theorem afO(h:af [.f C a false]):
 aT (ap f20 0) (xX b C a A) (.exit 0) (Wi A):=
 h.aQ [5] []
theorem afP(h:af [.r 105 [.agg (cl A a b E F G H)] [aE 4 au],.r 133 [.agg (bg A a b),aE 4 au] [aE 4 K],.l [] [7,6,1,5] [] (ap f20 0) (xX c K 0 []) (.exit 0) (Wi C)]):
 av 20 [.agg (cl A a b E F G H),ag c] [aE 4 C]:=
 h.of
def mK(A:ah)(a b c d:Int)(q:Bool)(e:Int):aD:=ba 54 [(0,c6 4 A),(1,aY a),(2,aY b),(3,aY c),(10,aY e),(11,.aR (.one (.bR q))),(12,aY d)] []
theorem afQ(h:af (gW A a f g i e [.b (f==b) true,.b (g==c) true,.b (i==d) true,.n q true,.u a])):
 aT (ap f324 0) (mK A b c d a q j) .normal (mK A b c d (a+1) true e):=
 h.aQ [12,0,1,2,3,11,10] []
theorem afR(h:af (gW A a g i j c [.b (g==b) true,.b (i==d) true,.b (j==e) true,.n q false,.b (decide (c<f)) true,.u a])):
 aT (ap f324 0) (mK A b d e a q f) .normal (mK A b d e (a+1) true c):=
 h.aQ [12,0,1,2,3,11,10] []
theorem afS(h:af (gW A a g i j f [.b (g==b) true,.b (i==c) true,.b (j==d) true,.n q false,.b (decide (f<e)) false,.u a])):
 aT (ap f324 0) (mK A b c d a q e) .normal (mK A b c d (a+1) q e):=
 h.aQ [12,0,1,2,3,11,10] []
theorem afT(h:af (gW A a f g i j [.b (f==b) true,.b (g==c) true,.b (i==d) false,.u a])):
 aT (ap f324 0) (mK A b c d a q e) .normal (mK A b c d (a+1) q e):=
 h.aQ [12,0,1,2,3,11,10] []
theorem afU(h:af (gW A a f g j i [.b (f==b) true,.b (g==c) false,.u a])):
 aT (ap f324 0) (mK A b c d a q e) .normal (mK A b c d (a+1) q e):=
 h.aQ [12,0,1,2,3,11,10] []
theorem afV(h:af (gW A a f i j g [.b (f==b) false,.u a])):
 aT (ap f324 0) (mK A b c d a q e) .normal (mK A b c d (a+1) q e):=
 h.aQ [12,0,1,2,3,11,10] []
def Wj(a:Int)(q:Bool):aD:=ba 54 [(10,aY a),(11,.aR (.one (.bR q)))] []
theorem afW(h:af [.f A a false]):
 aT (ap f324 0) (mK A c d e a q b) (.exit 0) (Wj b q):=
 h.aQ [10,11] []
theorem afX(h:af [.l [] [12,0,1,2,3,11,10] [] (ap f324 0) (mK A a b c 0 false 0) (.exit 0) (Wj d q)]):
 av 324 [aE 4 A,ag a,ag b,ag c] [ag d,ak q]:=
 h.of
theorem afY(h:af [.b (a==5) true]):
 av 268 [ag a] [ak true]:=
 h.of
theorem afZ(h:af [.b (a==5) false,.b (a==6) true]):
 av 268 [ag a] [ak true]:=
 h.of
theorem af0(h:af [.b (a==5) false,.b (a==6) false]):
 av 268 [ag a] [ak (a==8)]:=
 h.of
theorem af1(h:af (IX A [.b (a==6) true,.r 306 [aE 4 A,.agg [I b,I c,I d,I e]] [ak q],.b q true])):
 av 269 [ag a,aE 4 A,.agg [I b,I c,I d,I e]] [aE 4 ([]++A),ak false]:=
 h.of
theorem af2(h:af (IX A [.b (e==6) true,.r 306 [aE 4 A,.agg [I a,I b,I c,I d]] [ak q],.b q false,.r 238 [aE 4 A,.agg [I a,I b,I c,I d]] [aE 4 C]])):
 av 269 [ag e,aE 4 A,.agg [I a,I b,I c,I d]] [aE 4 C,ak true]:=
 h.of
def Qx(A:ah)(a:Int)(l:List O):List O:=IX A (.b (a==6) false::l)
def Qy(A:ah)(a b c d e:Int)(q:Bool)(l:List O):List O:=Qx A a (.b (a==5) true::.b (a==5) true::.r 324 [aE 4 A,ag b,ag c,ag d] [ag e,ak q]::l)
theorem af3(h:af (Qy A a b c d f q [.b q true,.b (decide (f<=e)) true])):
 av 269 [ag a,aE 4 A,.agg [I b,I c,I d,I e]] [aE 4 ([]++A),ak false]:=
 h.of
def mL(A:ah)(a b c d e:Int)(C:ah):aD:=ba 94 [(1,c6 4 A),(5,a1 5),(11,aH.aR (bm.one (aK 48 4 C))),(12,aY e)] [(5,[az a,az b,az c,az d])]
theorem af4(h:af (gW A a g l m n [.b (g != f) true,.x A a [I b,I c,I d,I e],.g C [[I b,I c,I d,I e]] 32,.h [[I b,I c,I d,I e]],.u a])):
 aT (ap f269 0) (mL A f i j k a C) .normal (mL A f i j k (a+1) (C++[[I b,I c,I d,I e]])):=
 h.aQ [12,1,5,11] [5]
theorem aff(h:af (gW A a i m n o [.b (i != f) false,.x A a [I p,I j,I a0,I ch],.b (j != g) true,.x A a [I b,I c,I d,I e],.g C [[I b,I c,I d,I e]] 32,.h [[I b,I c,I d,I e]],.u a])):
 aT (ap f269 0) (mL A f g k l a C) .normal (mL A f g k l (a+1) (C++[[I b,I c,I d,I e]])):=
 h.aQ [12,1,5,11] [5]
theorem afg(h:af (gW A a j n o p [.b (j != f) false,.x A a [I a0,I k,I ch,I de],.b (k != g) false,.x A a [I d0,I cd,I l,I f0],.b (l != i) true,.x A a [I b,I c,I d,I e],.g C [[I b,I c,I d,I e]] 32,.h [[I b,I c,I d,I e]],.u a])):
 aT (ap f269 0) (mL A f g i m a C) .normal (mL A f g i m (a+1) (C++[[I b,I c,I d,I e]])):=
 h.aQ [12,1,5,11] [5]
theorem afh(h:af (gW A a e j k l [.b (e != b) false,.x A a [I m,I f,I n,I o],.b (f != c) false,.x A a [I p,I a0,I g,I ch],.b (g != d) false,.u a])):
 aT (ap f269 0) (mL A b c d i a C) .normal (mL A b c d i (a+1) C):=
 h.aQ [12,1,5,11] [5]
def Ab(a b c d:Int)(A:ah):aD:=ba 94 [(5,a1 5),(11,aH.aR (bm.one (aK 48 4 A)))] [(5,[az a,az b,az c,az d])]
theorem afi(h:af [.f A e false]):
 aT (ap f269 0) (mL A a b c d e C) (.exit 1) (Ab a b c d C):=
 h.aQ [11,5] [5]
theorem afj(h:af (Qy A e a b c f q [.b q true,.b (decide (f<=d)) false,.l [] [12,1,5,11] [5] (ap f269 0) (mL A a b c d 0 []) (.exit 1) (Ab a b c d C),.r 238 [aE 4 C,.agg [I a,I b,I c,I d]] [aE 4 E]])):
 av 269 [ag e,aE 4 A,.agg [I a,I b,I c,I d]] [aE 4 E,ak true]:=
 h.of
theorem afk(h:af (Qy A d a b c f q [.b q false,.l [] [12,1,5,11] [5] (ap f269 0) (mL A a b c e 0 []) (.exit 1) (Ab a b c e C),.r 238 [aE 4 C,.agg [I a,I b,I c,I e]] [aE 4 E]])):
 av 269 [ag d,aE 4 A,.agg [I a,I b,I c,I e]] [aE 4 E,ak true]:=
 h.of
def Qz(A:ah)(a b c d e:Int)(q:Bool)(l:List O):List O:=Qx A a (.b (a==5) false::.b (a==8) true::.r 324 [aE 4 A,ag b,ag c,ag d] [ag e,ak q]::l)
theorem afl(h:af (Qz A a b c d f q [.b q true,.b (decide (f<=e)) true])):
 av 269 [ag a,aE 4 A,.agg [I b,I c,I d,I e]] [aE 4 ([]++A),ak false]:=
 h.of
theorem afm(h:af (Qz A e a b c f q [.b q true,.b (decide (f<=d)) false,.l [] [12,1,5,11] [5] (ap f269 0) (mL A a b c d 0 []) (.exit 1) (Ab a b c d C),.r 238 [aE 4 C,.agg [I a,I b,I c,I d]] [aE 4 E]])):
 av 269 [ag e,aE 4 A,.agg [I a,I b,I c,I d]] [aE 4 E,ak true]:=
 h.of
theorem afn(h:af (Qz A d a b c f q [.b q false,.l [] [12,1,5,11] [5] (ap f269 0) (mL A a b c e 0 []) (.exit 1) (Ab a b c e C),.r 238 [aE 4 C,.agg [I a,I b,I c,I e]] [aE 4 E]])):
 av 269 [ag d,aE 4 A,.agg [I a,I b,I c,I e]] [aE 4 E,ak true]:=
 h.of
theorem afo(h:af (Qx A a [.b (a==5) false,.b (a==8) false])):
 av 269 [ag a,aE 4 A,.agg [I b,I c,I d,I e]] [aE 4 ([]++A),ak true]:=
 h.of
