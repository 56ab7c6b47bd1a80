import Derived.Test.YtdchjefneblpgaaGreatGE
set_option linter.unusedVariables false
set_option linter.unusedSimpArgs false
namespace Go.Proofs.YtdchjefneblpgaaGreat
open Go.Sx Go.RowKit Go.Proofs.Tryz
variable {a b c d e f g i j k l m n o p a0 b9 de d0 bM f0 : Int} {A C E F G H au K L M N Q R S bz : ah} {q r : Bool}
theorem atc(h:af [.g ([]:ah) A 40,.h A]):
 aw 233 [aM 5 A] [aM 5 ([]++A)]:=
 h.of
def xK(a b:Int)(l:List O):List O:=.b (decide (a<b)) true::l
theorem atd(h:af (xK b a [])):
 aw 130 [ao c,ao a,ao b] [ao a]:=
 h.of
def r7(a b:Int)(l:List O):List O:=.b (decide (a<b)) false::l
theorem ate(h:af (r7 c a [.b (decide (b<a)) true])):
 aw 130 [ao b,ao a,ao c] [ao a]:=
 h.of
theorem atf(h:af (r7 a c [.b (decide (b<c)) false,.b (decide (b>a)) true])):
 aw 130 [ao b,ao c,ao a] [ao a]:=
 h.of
theorem atg(h:af (r7 c b [.b (decide (a<b)) false,.b (decide (a>c)) false])):
 aw 130 [ao a,ao b,ao c] [ao a]:=
 h.of
theorem ath(h:af (xK b a [])):
 aw 167 [ao c,ao a,ao b] [ao a]:=
 h.of
theorem ati(h:af (r7 c a [.b (decide (b<a)) true])):
 aw 167 [ao b,ao a,ao c] [ao a]:=
 h.of
theorem atj(h:af (r7 b c [.b (decide (a<c)) false])):
 aw 167 [ao a,ao c,ao b] [ao (if b<a then b else a)]:=
 h.of
def A5(a b:Int)(A:ah):aF:=bf 62 [(3,aJ.aI (bC.one (aD 9 3 A))),(4,a1 a),(5,a1 b)] []
theorem atk(h:af (xK a b [.g A [[I 1,I a,I 0],[I 3,I a,I 0],[I 2,I a,I 0],[I 7,I a,I 0]] 24,.h [[I 1,I a,I 0],[I 3,I a,I 0],[I 2,I a,I 0],[I 7,I a,I 0]],.u a])):
 aY (aq f129 0) (A5 b a A) .normal (A5 b (a+1) (A++[[I 1,I a,I 0],[I 3,I a,I 0],[I 2,I a,I 0],[I 7,I a,I 0]])):=
 h.aW [5,4,3] []
def SG(a:Int)(A:ah):aF:=bf 62 [(3,aJ.aI (bC.one (aD 9 3 A))),(4,a1 a)] []
theorem atl(h:af (r7 b a [])):
 aY (aq f129 0) (A5 a b A) (.exit 0) (SG a A):=
 h.aW [4,3] []
def A6(a b:Int)(A:ah):aF:=bf 62 [(3,aJ.aI (bC.one (aD 9 3 A))),(4,a1 a),(6,a1 b)] []
def wy(a b c:Int)(A:ah):aF:=bf 62 [(3,aJ.aI (bC.one (aD 9 3 A))),(4,a1 a),(6,a1 b),(7,a1 c)] []
theorem atm(h:af (xK a c [.b (b != a) true,.g A [[I 4,I b,I a],[I 5,I b,I a]] 24,.h [[I 4,I b,I a],[I 5,I b,I a]],.u a])):
 aY (aq f129 2) (wy c b a A) .normal (wy c b (a+1) (A++[[I 4,I b,I a],[I 5,I b,I a]])):=
 h.aW [7,4,6,3] []
theorem asN(h:af (xK a b [.b (c != a) false,.u a])):
 aY (aq f129 2) (wy b c a A) .normal (wy b c (a+1) A):=
 h.aW [7,4,6,3] []
def SH(a b:Int)(A:ah):aF:=bf 62 [(3,aJ.aI (bC.one (aD 9 3 A))),(4,a1 a),(6,a1 b)] []
theorem asO(h:af (r7 b a [])):
 aY (aq f129 2) (wy a c b A) (.exit 4) (SH a c A):=
 h.aW [6,4,3] []
theorem asP(h:af (xK a b [.l [] [7,4,6,3] [] (aq f129 2) (wy b a 0 A) (.exit 4) (SH b a C),.u a])):
 aY (aq f129 1) (A6 b a A) .normal (A6 b (a+1) C):=
 h.aW [6,4,3] []
def SI(A:ah):aF:=bf 62 [(3,aJ.aI (bC.one (aD 9 3 A)))] []
theorem asQ(h:af (r7 b a [])):
 aY (aq f129 1) (A6 a b A) (.exit 2) (SI A):=
 h.aW [3] []
def A7(a:Int)(A:ah):aF:=bf 62 [(3,aJ.aI (bC.one (aD 9 3 A))),(8,a1 a)] []
theorem asR(h:af [.b (decide (a<=3)) true,.g A [[I 6,I a,I 0]] 24,.h [[I 6,I a,I 0]],.u a]):
 aY (aq f129 3) (A7 a A) .normal (A7 (a+1) (A++[[I 6,I a,I 0]])):=
 h.aW [8,3] []
def SJ(A:ah):aF:=bf 62 [(3,aJ.aI (bC.one (aD 9 3 A)))] []
theorem asS(h:af [.b (decide (a<=3)) false]):
 aY (aq f129 3) (A7 a A) (.exit 6) (SJ A):=
 h.aW [3] []
theorem asT(h:af [.r 130 [ao b,ao 0,ao 4] [ao a],.l [] [5,4,3] [] (aq f129 0) (A5 a 0 []) (.exit 0) (SG a C),.l [] [6,4,3] [] (aq f129 1) (A6 a 0 C) (.exit 2) (SI E),.l [] [8,3] [] (aq f129 3) (A7 0 E) (.exit 6) (SJ A)]):
 aw 129 [.agg (cl F b c G H au K)] [aM 3 A]:=
 h.of
theorem asU(h:af [.b (decide (a>=b)) true]):
 aw 190 [ao a,ao b,ao c] [al (decide (a<=c))]:=
 h.of
theorem asV(h:af [.b (decide (a>=b)) false]):
 aw 190 [ao a,ao b,ao c] [al false]:=
 h.of
theorem asW(h:af [.b (decide (a>=b)) true]):
 aw 168 [ao a,ao b,ao c] [al (decide (a<=c))]:=
 h.of
theorem auo(h:af [.b (decide (a>=b)) false]):
 aw 168 [ao a,ao b,ao c] [al false]:=
 h.of
theorem aup(h:af (xK a b [])):
 aw 322 [ao a,ao b] [ao (-1)]:=
 h.of
theorem auq(h:af (r7 a b [.b (decide (a>b)) true])):
 aw 322 [ao a,ao b] [ao 1]:=
 h.of
theorem aur(h:af (r7 a b [.b (decide (a>b)) false])):
 aw 322 [ao a,ao b] [ao 0]:=
 h.of
theorem aus(a:Int)(h:af []):
 aw 388 [ao a] [al (a != a)]:=
 h.of
def NZ(a:Int)(q:Bool)(b:Int)(r:Bool)(l:List O):List O:=.r 388 [ao a] [al q]::.r 388 [ao b] [al r]::.b q false::.b r false::l
theorem aut(h:af (NZ a q b r [.b (decide (a<b)) true])):
 aw 382 [ao a,ao b] [ao (-1)]:=
 h.of
theorem auu(h:af (NZ a q b r [.b (decide (a<b)) false,.b (decide (a>b)) true])):
 aw 382 [ao a,ao b] [ao 1]:=
 h.of
theorem auv(h:af (NZ a q b r [.b (decide (a<b)) false,.b (decide (a>b)) false])):
 aw 382 [ao a,ao b] [ao 0]:=
 h.of
def wz(A C:ah)(a:Int):aF:=bf 36 [(0,cX 1 A),(1,cX 1 C),(9,cX 1 A),(10,a1 (A.length:Int)),(11,a1 a)] []
def LN(a:Int):aF:=bf 36 [(4,a1 a)] []
theorem auw(h:af [.i C a [I c],.b (decide (a>=(A.length:Int))) false,.x A a [I d],.r 382 [ao c,ao d] [ao b],.b (b != 0) true]):
 aY (aq f364 0) (wz C A a) .ret (LN b):=
 h.aW [4] []
theorem auy(h:af [.i C a [I b],.b (decide (a>=(A.length:Int))) false,.x A a [I c],.r 382 [ao b,ao c] [ao d],.b (d != 0) false,.u a]):
 aY (aq f364 0) (wz C A a) .normal (wz C A (a+1)):=
 h.aW [11,10,9,1,0] []
def SK(A C:ah):aF:=bf 36 [(0,cX 1 A),(1,cX 1 C)] []
theorem auz(h:af [.f A a false]):
 aY (aq f364 0) (wz A C a) (.exit 0) (SK A C):=
 h.aW [0,1] []
theorem auA(h:af [.l [] [11,10,9,1,0] [] (aq f364 0) (wz A C 0) .ret (LN a)]):
 aw 364 [aM 1 A,aM 1 C] [ao a]:=
 h.of
theorem auB(h:af [.l [] [11,10,9,1,0] [] (aq f364 0) (wz A C 0) (.exit 0) (SK A C),.f C (A.length:Int) false]):
 aw 364 [aM 1 A,aM 1 C] [ao 0]:=
 h.of
theorem auC(h:af [.r 364 [aM 1 A,aM 1 C] [ao a]]):
 aw 335 [aM 1 A,aM 1 C] [ao a]:=
 h.of
def wA(A:ah)(a b:Int)(C:ah):aF:=bf 30 [(0,cX 5 A),(1,a1 a),(5,aJ.aI (bC.one (aD 7 5 C))),(6,a1 b)] []
theorem auD(h:af [.i A a (bx j i k l m),.b (i==g) true,.x A a (bx f b c d e),.g C [(bx f b c d e)] 40,.h [(bx f b c d e)],.u a]):
 aY (aq f116 0) (wA A g a C) .normal (wA A g (a+1) (C++[(bx f b c d e)])):=
 h.aW [6,0,1,5] []
theorem auE(h:af [.i A a (bx d c e f g),.b (c==b) false,.u a]):
 aY (aq f116 0) (wA A b a C) .normal (wA A b (a+1) C):=
 h.aW [6,0,1,5] []
def SL(A:ah):aF:=bf 30 [(5,aJ.aI (bC.one (aD 7 5 A)))] []
theorem auF(h:af [.f A a false]):
 aY (aq f116 0) (wA A b a C) (.exit 0) (SL C):=
 h.aW [5] []
theorem auG(h:af [.l [] [6,0,1,5] [] (aq f116 0) (wA A a 0 []) (.exit 0) (SL C)]):
 aw 116 [aM 5 A,ao a] [aM 5 C]:=
 h.of
def wB(A:ah)(a b:Int)(C:ah):aF:=bf 25 [(1,a1 a),(5,aJ.aI (bC.one (aD 22 5 C))),(8,cX 5 A),(9,a1 (A.length:Int)),(10,a1 b)] []
theorem auH(h:af [.i A b (bx c a d e f),.b (a==g) true,.g C [(bx c a d e f)] 40,.h [(bx c a d e f)],.u b]):
 aY (aq f182 0) (wB A g b C) .normal (wB A g (b+1) (C++[(bx c a d e f)])):=
 h.aW [10,9,8,1,5] []
theorem auI(h:af [.i A a (bx d c e f g),.b (c==b) false,.u a]):
 aY (aq f182 0) (wB A b a C) .normal (wB A b (a+1) C):=
 h.aW [10,9,8,1,5] []
def SM(A:ah):aF:=bf 25 [(5,aJ.aI (bC.one (aD 22 5 A)))] []
theorem auJ(h:af [.f A a false]):
 aY (aq f182 0) (wB A b a C) (.exit 0) (SM C):=
 h.aW [5] []
theorem auK(h:af [.l [(5,22,5)] [10,9,8,1,5] [] (aq f182 0) (wB A a 0 []) (.exit 0) (SM C)]):
 aw 182 [aM 5 A,ao a] [aM 5 C]:=
 h.of
def wC(A C E F G H au K:ah)(a b:Int):aF:=bf 21 [(1,a1 a),(2,aT 2),(5,a1 b)] [(2,[.J .free 5 A,.J .free 5 C,.J .free 5 E,.J .free 4 F,.J .free 1 G,.J .free 1 H,.J .free 1 au,.J .free 2 K])]
def LO(q:Bool):aF:=bf 21 [(4,.aI (.one (.bc q)))] []
theorem auL(h:af [.i A c [I a,B q],.b (a==b) true]):
 aY (aq f213 0) (wC C E F G H au K A b c) .ret (LO true):=
 h.aW [4] []
theorem auM(h:af [.i A a [I c,B q],.b (c==b) false,.u a]):
 aY (aq f213 0) (wC C E F G H au K A b a) .normal (wC C E F G H au K A b (a+1)):=
 h.aW [5,2,1] [2]
def SN:aF:=bf 21 [] []
theorem auN(h:af [.f A a false]):
 aY (aq f213 0) (wC C E F G H au K A b a) (.exit 0) SN:=
 h.aW [] []
theorem auO(h:af [.l [] [5,2,1] [2] (aq f213 0) (wC A C E F G H au K a 0) .ret (LO q)]):
 aw 213 [.agg (bj A C E F G H au K),ao a] [al q]:=
 h.of
theorem atY(h:af [.l [] [5,2,1] [2] (aq f213 0) (wC A C E F G H au K a 0) (.exit 0) SN]):
 aw 213 [.agg (bj A C E F G H au K),ao a] [al false]:=
 h.of
theorem atZ(h:af [.r 328 [aM 2 A,.one (.cl 329 [D.ptr [I a]])] [al q]]):
 aw 281 [aM 2 A,ao a] [al q]:=
 h.of
theorem at0(h:af []):
 aw 329 [.agg [I a,B q],.one (.ptr [I b])] [al (a==b)]:=
 h.of
def A8(A:ah)(a b:Int)(C E F G:ah)(c d:Int)(H:ah):aF:=bf 26 [(1,a1 c),(2,aT 2),(5,aJ.aI (bC.one (aD 7 5 H))),(6,a1 d)] [(2,[.J .free 4 A,ay a,ay b,.J .free 8 C,.J .free 6 E,.J .free 5 F,.J .free 3 G])]
theorem at1(h:af [.i C a (bj L M G N Q R S bz),.r 116 [aM 5 G,ao b] [aM 5 A],.g E A 40,.h A,.u a]):
 aY (aq f59 0) (A8 F c d C H au K b a E) .normal (A8 F c d C H au K b (a+1) (E++A)):=
 h.aW [6,2,5,1] [2]
def SO(A:ah):aF:=bf 26 [(5,aJ.aI (bC.one (aD 7 5 A)))] []
theorem at2(h:af [.f A a false]):
 aY (aq f59 0) (A8 E b c A F G H d a C) (.exit 0) (SO C):=
 h.aW [5] []
theorem at3(h:af [.l [] [6,2,5,1] [2] (aq f59 0) (A8 A a b C E F G c 0 []) (.exit 0) (SO H)]):
 aw 59 [.agg (cl A a b C E F G),ao c] [aM 5 H]:=
 h.of
def A9(A:ah)(a b:Int)(C:ah):aF:=bf 23 [(1,a1 a),(5,aJ.aI (bC.one (aD 20 5 C))),(9,cX 8 A),(10,a1 (A.length:Int)),(11,a1 b)] []
theorem at4(h:af [.i C a (bj G H F au K L M N),.r 182 [aM 5 F,ao b] [aM 5 A],.g E A 40,.h A,.u a]):
 aY (aq f58 0) (A9 C b a E) .normal (A9 C b (a+1) (E++A)):=
 h.aW [11,10,9,5,1] []
def SP(A:ah):aF:=bf 23 [(5,aJ.aI (bC.one (aD 20 5 A)))] []
theorem at5(h:af [.f A a false]):
 aY (aq f58 0) (A9 A b a C) (.exit 0) (SP C):=
 h.aW [5] []
theorem at6(h:af [.l [(5,20,5)] [11,10,9,5,1] [] (aq f58 0) (A9 A a 0 []) (.exit 0) (SP C)]):
 aw 58 [.agg (cl E b c A F G H),ao a] [aM 5 C]:=
 h.of
def wD(A:ah)(g1:Nat)(cg:List D)(a:Int):aF:=bf 19 [(0,cX 2 A),(1,.aI (.one (.fd (D.cl g1 cg)))),(7,a1 (A.length:Int)),(8,a1 a)] []
def LP(a:Int):aF:=bf 19 [(4,a1 a)] []
theorem at7{A:ah}{g1:Nat}{cg:List D}{a b:Int}{q r:Bool}(h:af [.i A a [I b,B q],.p (jJ prog g1=true),.r g1 ([.agg [I b,B q]]++List.map .one cg) [al r],.b r true]):
 aY (aq f352 0) (wD A g1 cg a) .ret (LP a):=
 h.aW [4] []
theorem at8{A:ah}{g1:Nat}{cg:List D}{a b:Int}{q r:Bool}(h:af [.i A a [I b,B q],.p (jJ prog g1=true),.r g1 ([.agg [I b,B q]]++List.map .one cg) [al r],.b r false,.u a]):
 aY (aq f352 0) (wD A g1 cg a) .normal (wD A g1 cg (a+1)):=
 h.aW [8,7,1,0] []
def SQ:aF:=bf 19 [] []
theorem at9{A:ah}{g1:Nat}{cg:List D}{a:Int}(h:af [.f A a false]):
 aY (aq f352 0) (wD A g1 cg a) (.exit 0) SQ:=
 h.aW [] []
theorem aua{A:ah}{g1:Nat}{cg:List D}{a:Int}(h:af [.l [] [8,7,1,0] [] (aq f352 0) (wD A g1 cg 0) .ret (LP a)]):
 aw 352 [aM 2 A,.one (.cl g1 cg)] [ao a]:=
 h.of
theorem aub{A:ah}{g1:Nat}{cg:List D}(h:af [.l [] [8,7,1,0] [] (aq f352 0) (wD A g1 cg 0) (.exit 0) SQ]):
 aw 352 [aM 2 A,.one (.cl g1 cg)] [ao (-1)]:=
 h.of
theorem auc{A:ah}{g1:Nat}{cg:List D}{a:Int}(h:af [.r 352 [aM 2 A,.one (.cl g1 cg)] [ao a]]):
 aw 328 [aM 2 A,.one (.cl g1 cg)] [al (decide (a>=0))]:=
 h.of
end Go.Proofs.YtdchjefneblpgaaGreat
namespace Go.Proofs.YtdchjefneblpgaaGreat
open Go.Sx Go.RowKit Go.Proofs.Tryz
variable {a b c d e f g i j k l m n o p a0 b9 de d0 bM f0 : Int} {A C E F G H au K L M N Q R S bz : ah} {q r : Bool}
theorem aud(h:af [.r 335 [.one (.J 1 [[I b],[I a],[I c],[I d]]),.one (.J 1 [[I f],[I e],[I g],[I i]])] [ao j]]):
 aw 304 [.agg [I a,I b,I c,I d],.agg [I e,I f,I g,I i]] [ao j]:=
 h.of
theorem SR(h:af [.v ((A.length:Int)-1),.r 190 [ao a,ao 0,ao ((A.length:Int)-1)] [al q]]):
 aw 250 [.agg (bt A b c),ao a] [al q]:=
 h.of
def wE(a b c d e:Int):aF:=bf 41 [(5,.aI (.one (.J (.own 27) 1 [[I a],[I b],[I c],[I d]]))),(6,a1 e)] []
def LQ(a:Int):aF:=bf 41 [(4,a1 a)] []
theorem aue(h:af [.b (decide (a<4)) true,.x [[I d],[I e],[I b],[I c]] a [I f],.b (f != 0) true,.x [[I d],[I e],[I b],[I c]] a [I g]]):
 aY (aq f307 0) (wE d e b c a) .ret (LQ g):=
 h.aW [4] []
theorem auf(h:af [.b (decide (a<4)) true,.x [[I d],[I e],[I b],[I c]] a [I f],.b (f != 0) false,.u a]):
 aY (aq f307 0) (wE d e b c a) .normal (wE d e b c (a+1)):=
 h.aW [6,5] []
def SS:aF:=bf 41 [] []
theorem aug(h:af [.b (decide (a<4)) false]):
 aY (aq f307 0) (wE d e b c a) (.exit 0) SS:=
 h.aW [] []
theorem auh(h:af [.r 322 [ao b,ao j] [ao m],.r 322 [ao a,ao i] [ao n],.r 322 [ao f,ao k] [ao c],.r 322 [ao g,ao l] [ao d],.l [] [6,5] [] (aq f307 0) (wE m n c d 0) .ret (LQ e)]):
 aw 307 [.agg [I a,I b,I f,I g],.agg [I i,I j,I k,I l]] [ao e]:=
 h.of
theorem aui(h:af [.r 322 [ao b,ao i] [ao l],.r 322 [ao a,ao g] [ao m],.r 322 [ao e,ao j] [ao c],.r 322 [ao f,ao k] [ao d],.l [] [6,5] [] (aq f307 0) (wE l m c d 0) (.exit 0) SS]):
 aw 307 [.agg [I a,I b,I e,I f],.agg [I g,I i,I j,I k]] [ao 0]:=
 h.of
def wF(A:ah)(a b c d e:Int):aF:=bf 18 [(0,cX 4 A),(3,aT 3),(5,a1 e)] [(3,[ay a,ay b,ay c,ay d])]
def LR(q:Bool):aF:=bf 18 [(4,.aI (.one (.bc q)))] []
theorem auj(h:af [.i A e [I f,I g,I i,I j],.b (f==a&&(g==b&&(i==c&&j==d))) true]):
 aY (aq f306 0) (wF A a b c d e) .ret (LR true):=
 h.aW [4] []
theorem auk(h:af [.i A a [I f,I g,I i,I j],.b (f==b&&(g==c&&(i==d&&j==e))) false,.u a]):
 aY (aq f306 0) (wF A b c d e a) .normal (wF A b c d e (a+1)):=
 h.aW [5,0,3] [3]
def SU:aF:=bf 18 [] []
theorem aul(h:af [.f A a false]):
 aY (aq f306 0) (wF A b c d e a) (.exit 0) SU:=
 h.aW [] []
theorem aum(h:af [.l [] [5,0,3] [3] (aq f306 0) (wF A a b c d 0) .ret (LR q)]):
 aw 306 [aM 4 A,.agg [I a,I b,I c,I d]] [al q]:=
 h.of
theorem aun(h:af [.l [] [5,0,3] [3] (aq f306 0) (wF A a b c d 0) (.exit 0) SU]):
 aw 306 [aM 4 A,.agg [I a,I b,I c,I d]] [al false]:=
 h.of
theorem atN(h:af [.r 306 [aM 4 A,.agg [I a,I b,I c,I d]] [al q],.b q true,.g ([]:ah) A 32,.h A]):
 aw 238 [aM 4 A,.agg [I a,I b,I c,I d]] [aM 4 ([]++A)]:=
 h.of
def wG(A:ah)(a b c d e:Int):aF:=bf 41 [(0,cX 4 A),(3,aT 3),(5,a1 e)] [(3,[ay a,ay b,ay c,ay d])]
theorem atO(h:af [.i A a [I i,I j,I k,I f],.r 307 [.agg [I i,I j,I k,I f],.agg [I b,I c,I d,I e]] [ao g],.b (decide (g<0)) true,.u a]):
 aY (aq f238 0) (wG A b c d e a) .normal (wG A b c d e (a+1)):=
 h.aW [5,0,3] [3]
def A'(A:ah)(a b c d e:Int):aF:=bf 41 [(0,cX 4 A),(3,aT 3),(5,a1 e)] [(3,[ay a,ay b,ay c,ay d])]
theorem atP(h:af [.i A e [I i,I j,I k,I f],.r 307 [.agg [I i,I j,I k,I f],.agg [I a,I b,I c,I d]] [ao g],.b (decide (g<0)) false]):
 aY (aq f238 0) (wG A a b c d e) (.exit 0) (A' A a b c d e):=
 h.aW [0,5,3] [3]
theorem atQ(h:af [.f A a false]):
 aY (aq f238 0) (wG A b c d e a) (.exit 0) (A' A b c d e a):=
 h.aW [0,5,3] [3]
theorem atS(h:af [.r 306 [aM 4 A,.agg [I b,I c,I d,I e]] [al q],.b q false,.l [] [5,0,3] [3] (aq f238 0) (wG A b c d e 0) (.exit 0) (A' A b c d e a),.p ((0:Int)<=none.getD 0),.p (none.getD 0<=(some a).getD (A.length:Int)),.p ((some a).getD (A.length:Int)<=(A.length:Int)),.p ((([]:ah).length+(List.take (((some a).getD (A.length:Int)).toNat-0) (List.drop 0 A)).length)*32<=140737488355328),.p (([]:ah).length+(List.take (((some a).getD (A.length:Int)).toNat-0) (List.drop 0 A)).length<=9223372036854775807),.p (Flat (List.take (((some a).getD (A.length:Int)).toNat-0) (List.drop 0 A))),.p ((([]++List.take (((some a).getD (A.length:Int)).toNat-0) (List.drop 0 A)).length+[[I b,I c,I d,I e]].length)*32<=140737488355328),.p (([]++List.take (((some a).getD (A.length:Int)).toNat-0) (List.drop 0 A)).length+[[I b,I c,I d,I e]].length<=9223372036854775807),.h [[I b,I c,I d,I e]],.p (0<=(some a).getD 0),.p ((some a).getD 0<=none.getD (A.length:Int)),.p (none.getD (A.length:Int)<=(A.length:Int)),.p ((([]++List.take (((some a).getD (A.length:Int)).toNat-0) (List.drop 0 A)++[[I b,I c,I d,I e]]).length+(List.take (A.length-((some a).getD 0).toNat) (List.drop ((some a).getD 0).toNat A)).length)*32<=140737488355328),.p (([]++List.take (((some a).getD (A.length:Int)).toNat-0) (List.drop 0 A)++[[I b,I c,I d,I e]]).length+(List.take (A.length-((some a).getD 0).toNat) (List.drop ((some a).getD 0).toNat A)).length<=9223372036854775807),.p (Flat (List.take (A.length-((some a).getD 0).toNat) (List.drop ((some a).getD 0).toNat A)))]):
 aw 238 [aM 4 A,.agg [I b,I c,I d,I e]] [.one (.J 4 ([]++List.take (((some a).getD (A.length:Int)).toNat-0) (List.drop 0 A)++[[I b,I c,I d,I e]]++List.take (A.length-((some a).getD 0).toNat) (List.drop ((some a).getD 0).toNat A)))]:=
 h.of
theorem atT(h:af [.v ((A.length:Int)-1),.r 168 [ao a,ao 0,ao ((A.length:Int)-1)] [al q],.n q true]):
 aw 249 [.agg (bt A b c),ao a] [.agg (bn 0 0 0 []),al false]:=
 h.of
theorem atU(h:af [.v ((A.length:Int)-1),.r 168 [ao a,ao 0,ao ((A.length:Int)-1)] [al q],.n q false,.x A a (bn b c d C),.g ([]:ah) C 8,.h C]):
 aw 249 [.agg (bt A e f),ao a] [.agg (bn b c d ([]++C)),al true]:=
 h.of
def lE(A:ah)(a b c d:Int)(q:Bool)(e:Int):aF:=bf 54 [(0,cX 4 A),(1,a1 a),(2,a1 b),(3,a1 c),(10,a1 e),(11,.aI (.one (.bc q))),(12,a1 d)] []
def Gn(A:ah)(a b c d e f g:Int)(l:List O):List O:=.i A a [I b,I c,I d,I e]::.b (b==f) true::.b (c==g) true::l
theorem atV(h:af (Gn A a f g i e b c [.b (i==d) true,.n q true,.u a])):
 aY (aq f324 0) (lE A b c d a q j) .normal (lE A b c d (a+1) true e):=
 h.aW [12,0,1,2,3,11,10] []
theorem atW(h:af (Gn A a g i j c b d [.b (j==e) true,.n q false,.b (decide (c<f)) true,.u a])):
 aY (aq f324 0) (lE A b d e a q f) .normal (lE A b d e (a+1) true c):=
 h.aW [12,0,1,2,3,11,10] []
theorem atX(h:af (Gn A a g i j f b c [.b (j==d) true,.n q false,.b (decide (f<e)) false,.u a])):
 aY (aq f324 0) (lE A b c d a q e) .normal (lE A b c d (a+1) q e):=
 h.aW [12,0,1,2,3,11,10] []
theorem avp(h:af (Gn A a f g i j b c [.b (i==d) false,.u a])):
 aY (aq f324 0) (lE A b c d a q e) .normal (lE A b c d (a+1) q e):=
 h.aW [12,0,1,2,3,11,10] []
theorem avq(h:af [.i A a [I f,I g,I j,I i],.b (f==b) true,.b (g==c) false,.u a]):
 aY (aq f324 0) (lE A b c d a q e) .normal (lE A b c d (a+1) q e):=
 h.aW [12,0,1,2,3,11,10] []
theorem avr(h:af [.i A a [I f,I i,I j,I g],.b (f==b) false,.u a]):
 aY (aq f324 0) (lE A b c d a q e) .normal (lE A b c d (a+1) q e):=
 h.aW [12,0,1,2,3,11,10] []
def SV(a:Int)(q:Bool):aF:=bf 54 [(10,a1 a),(11,.aI (.one (.bc q)))] []
theorem avs(h:af [.f A a false]):
 aY (aq f324 0) (lE A c d e a q b) (.exit 0) (SV b q):=
 h.aW [10,11] []
theorem avt(h:af [.l [] [12,0,1,2,3,11,10] [] (aq f324 0) (lE A a b c 0 false 0) (.exit 0) (SV d q)]):
 aw 324 [aM 4 A,ao a,ao b,ao c] [ao d,al q]:=
 h.of
theorem avu(h:af [.b (a==5) true]):
 aw 268 [ao a] [al true]:=
 h.of
theorem avv(h:af [.b (a==5) false,.b (a==6) true]):
 aw 268 [ao a] [al true]:=
 h.of
theorem avw(h:af [.b (a==5) false,.b (a==6) false]):
 aw 268 [ao a] [al (a==8)]:=
 h.of
def N0(A:ah)(l:List O):List O:=.g ([]:ah) A 32::.h A::l
theorem avx(h:af (N0 A [.b (a==6) true,.r 306 [aM 4 A,.agg [I b,I c,I d,I e]] [al q],.b q true])):
 aw 269 [ao a,aM 4 A,.agg [I b,I c,I d,I e]] [aM 4 ([]++A),al false]:=
 h.of
theorem avy(h:af (N0 A [.b (e==6) true,.r 306 [aM 4 A,.agg [I a,I b,I c,I d]] [al q],.b q false,.r 238 [aM 4 A,.agg [I a,I b,I c,I d]] [aM 4 C]])):
 aw 269 [ao e,aM 4 A,.agg [I a,I b,I c,I d]] [aM 4 C,al true]:=
 h.of
def N1(A:ah)(a:Int)(l:List O):List O:=N0 A (.b (a==6) false::l)
def N2(A:ah)(a b c d e:Int)(q:Bool)(l:List O):List O:=N1 A a (.b (a==5) true::.b (a==5) true::.r 324 [aM 4 A,ao b,ao c,ao d] [ao e,al q]::l)
theorem avz(h:af (N2 A a b c d f q [.b q true,.b (decide (f<=e)) true])):
 aw 269 [ao a,aM 4 A,.agg [I b,I c,I d,I e]] [aM 4 ([]++A),al false]:=
 h.of
def lF(A:ah)(a b c d e:Int)(C:ah):aF:=bf 94 [(1,cX 4 A),(5,aT 5),(11,aJ.aI (bC.one (aD 48 4 C))),(12,a1 e)] [(5,[ay a,ay b,ay c,ay d])]
theorem avA(h:af [.i A a [I g,I l,I m,I n],.b (g != f) true,.x A a [I b,I c,I d,I e],.g C [[I b,I c,I d,I e]] 32,.h [[I b,I c,I d,I e]],.u a]):
 aY (aq f269 0) (lF A f i j k a C) .normal (lF A f i j k (a+1) (C++[[I b,I c,I d,I e]])):=
 h.aW [12,1,5,11] [5]
theorem avB(h:af [.i A a [I i,I m,I n,I o],.b (i != f) false,.x A a [I p,I j,I a0,I b9],.b (j != g) true,.x A a [I b,I c,I d,I e],.g C [[I b,I c,I d,I e]] 32,.h [[I b,I c,I d,I e]],.u a]):
 aY (aq f269 0) (lF A f g k l a C) .normal (lF A f g k l (a+1) (C++[[I b,I c,I d,I e]])):=
 h.aW [12,1,5,11] [5]
theorem avC(h:af [.i A a [I j,I n,I o,I p],.b (j != f) false,.x A a [I a0,I k,I b9,I de],.b (k != g) false,.x A a [I d0,I bM,I l,I f0],.b (l != i) true,.x A a [I b,I c,I d,I e],.g C [[I b,I c,I d,I e]] 32,.h [[I b,I c,I d,I e]],.u a]):
 aY (aq f269 0) (lF A f g i m a C) .normal (lF A f g i m (a+1) (C++[[I b,I c,I d,I e]])):=
 h.aW [12,1,5,11] [5]
theorem avD(h:af [.i A a [I e,I j,I k,I l],.b (e != b) false,.x A a [I m,I f,I n,I o],.b (f != c) false,.x A a [I p,I a0,I g,I b9],.b (g != d) false,.u a]):
 aY (aq f269 0) (lF A b c d i a C) .normal (lF A b c d i (a+1) C):=
 h.aW [12,1,5,11] [5]
def yU(a b c d:Int)(A:ah):aF:=bf 94 [(5,aT 5),(11,aJ.aI (bC.one (aD 48 4 A)))] [(5,[ay a,ay b,ay c,ay d])]
theorem avE(h:af [.f A e false]):
 aY (aq f269 0) (lF A a b c d e C) (.exit 1) (yU a b c d C):=
 h.aW [11,5] [5]
theorem avF(h:af (N2 A e a b c f q [.b q true,.b (decide (f<=d)) false,.l [] [12,1,5,11] [5] (aq f269 0) (lF A a b c d 0 []) (.exit 1) (yU a b c d C),.r 238 [aM 4 C,.agg [I a,I b,I c,I d]] [aM 4 E]])):
 aw 269 [ao e,aM 4 A,.agg [I a,I b,I c,I d]] [aM 4 E,al true]:=
 h.of
theorem avG(h:af (N2 A d a b c f q [.b q false,.l [] [12,1,5,11] [5] (aq f269 0) (lF A a b c e 0 []) (.exit 1) (yU a b c e C),.r 238 [aM 4 C,.agg [I a,I b,I c,I e]] [aM 4 E]])):
 aw 269 [ao d,aM 4 A,.agg [I a,I b,I c,I e]] [aM 4 E,al true]:=
 h.of
def N3(A:ah)(a b c d e:Int)(q:Bool)(l:List O):List O:=N1 A a (.b (a==5) false::.b (a==8) true::.r 324 [aM 4 A,ao b,ao c,ao d] [ao e,al q]::l)
theorem avH(h:af (N3 A a b c d f q [.b q true,.b (decide (f<=e)) true])):
 aw 269 [ao a,aM 4 A,.agg [I b,I c,I d,I e]] [aM 4 ([]++A),al false]:=
 h.of
theorem avI(h:af (N3 A e a b c f q [.b q true,.b (decide (f<=d)) false,.l [] [12,1,5,11] [5] (aq f269 0) (lF A a b c d 0 []) (.exit 1) (yU a b c d C),.r 238 [aM 4 C,.agg [I a,I b,I c,I d]] [aM 4 E]])):
 aw 269 [ao e,aM 4 A,.agg [I a,I b,I c,I d]] [aM 4 E,al true]:=
 h.of
theorem avJ(h:af (N3 A d a b c f q [.b q false,.l [] [12,1,5,11] [5] (aq f269 0) (lF A a b c e 0 []) (.exit 1) (yU a b c e C),.r 238 [aM 4 C,.agg [I a,I b,I c,I e]] [aM 4 E]])):
 aw 269 [ao d,aM 4 A,.agg [I a,I b,I c,I e]] [aM 4 E,al true]:=
 h.of
theorem avK(h:af (N1 A a [.b (a==5) false,.b (a==8) false])):
 aw 269 [ao a,aM 4 A,.agg [I b,I c,I d,I e]] [aM 4 ([]++A),al true]:=
 h.of
