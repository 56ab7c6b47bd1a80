import Derived.Test.YtdchjefneblpgaaGreatGE
set_option linter.unusedVariables false
set_option linter.unusedSimpArgs false
namespace Go.Proofs.YtdchjefneblpgaaGreat
open Go.Sx Go.RowKit Go.Proofs.Tryz
variable {a b c d e f g i j k l m n o p a0 cc dk d0 bB f0 : Int} {A C E F G H aj K : ae} {q r : Bool}
theorem alw(h:ad [.g ([]:ae) A 40,.h A]):
 ar 233 [aP 5 A] [aP 5 ([]++A)]:=
 h.of
def xp(a b:Int)(l:List O):List O:=.b (decide (a<b)) true::l
theorem alx(h:ad (xp b a [])):
 ar 130 [af c,af a,af b] [af a]:=
 h.of
def tC(a b:Int)(l:List O):List O:=.b (decide (a<b)) false::l
theorem aly(h:ad (tC c a [.b (decide (b<a)) true])):
 ar 130 [af b,af a,af c] [af a]:=
 h.of
theorem akX(h:ad (tC a c [.b (decide (b<c)) false,.b (decide (b>a)) true])):
 ar 130 [af b,af c,af a] [af a]:=
 h.of
theorem akY(h:ad (tC c b [.b (decide (a<b)) false,.b (decide (a>c)) false])):
 ar 130 [af a,af b,af c] [af a]:=
 h.of
def zG(a b:Int)(A:ae):aD:=bd 62 [(3,aE.aF (bm.one (aA 9 3 A))),(4,aW a),(5,aW b)] []
theorem akZ(h:ad (xp a b [.g A [[I 1,I a,I 0],[I 3,I a,I 0],[I 2,I a,I 0],[I 7,I a,I 0]] 24,.h [[I 1,I a,I 0],[I 3,I a,I 0],[I 2,I a,I 0],[I 7,I a,I 0]],.u a])):
 aX (ao f129 0) (zG b a A) .normal (zG b (a+1) (A++[[I 1,I a,I 0],[I 3,I a,I 0],[I 2,I a,I 0],[I 7,I a,I 0]])):=
 h.aV [5,4,3] []
def Pp(a:Int)(A:ae):aD:=bd 62 [(3,aE.aF (bm.one (aA 9 3 A))),(4,aW a)] []
theorem ak0(h:ad (tC b a [])):
 aX (ao f129 0) (zG a b A) (.exit 0) (Pp a A):=
 h.aV [4,3] []
def zH(a b:Int)(A:ae):aD:=bd 62 [(3,aE.aF (bm.one (aA 9 3 A))),(4,aW a),(6,aW b)] []
def vi(a b c:Int)(A:ae):aD:=bd 62 [(3,aE.aF (bm.one (aA 9 3 A))),(4,aW a),(6,aW b),(7,aW c)] []
theorem ak1(h:ad (xp a c [.b (b != a) true,.g A [[I 4,I b,I a],[I 5,I b,I a]] 24,.h [[I 4,I b,I a],[I 5,I b,I a]],.u a])):
 aX (ao f129 2) (vi c b a A) .normal (vi c b (a+1) (A++[[I 4,I b,I a],[I 5,I b,I a]])):=
 h.aV [7,4,6,3] []
theorem ak2(h:ad (xp a b [.b (c != a) false,.u a])):
 aX (ao f129 2) (vi b c a A) .normal (vi b c (a+1) A):=
 h.aV [7,4,6,3] []
def Pq(a b:Int)(A:ae):aD:=bd 62 [(3,aE.aF (bm.one (aA 9 3 A))),(4,aW a),(6,aW b)] []
theorem ak3(h:ad (tC b a [])):
 aX (ao f129 2) (vi a c b A) (.exit 4) (Pq a c A):=
 h.aV [6,4,3] []
theorem ak4(h:ad (xp a b [.l [] [7,4,6,3] [] (ao f129 2) (vi b a 0 A) (.exit 4) (Pq b a C),.u a])):
 aX (ao f129 1) (zH b a A) .normal (zH b (a+1) C):=
 h.aV [6,4,3] []
def Pr(A:ae):aD:=bd 62 [(3,aE.aF (bm.one (aA 9 3 A)))] []
theorem ak5(h:ad (tC b a [])):
 aX (ao f129 1) (zH a b A) (.exit 2) (Pr A):=
 h.aV [3] []
def zI(a:Int)(A:ae):aD:=bd 62 [(3,aE.aF (bm.one (aA 9 3 A))),(8,aW a)] []
theorem ak6(h:ad [.b (decide (a<=3)) true,.g A [[I 6,I a,I 0]] 24,.h [[I 6,I a,I 0]],.u a]):
 aX (ao f129 3) (zI a A) .normal (zI (a+1) (A++[[I 6,I a,I 0]])):=
 h.aV [8,3] []
def QS(A:ae):aD:=bd 62 [(3,aE.aF (bm.one (aA 9 3 A)))] []
theorem amz(h:ad [.b (decide (a<=3)) false]):
 aX (ao f129 3) (zI a A) (.exit 6) (QS A):=
 h.aV [3] []
theorem amA(h:ad [.r 130 [af b,af 0,af 4] [af a],.l [] [5,4,3] [] (ao f129 0) (zG a 0 []) (.exit 0) (Pp a C),.l [] [6,4,3] [] (ao f129 1) (zH a 0 C) (.exit 2) (Pr E),.l [] [8,3] [] (ao f129 3) (zI 0 E) (.exit 6) (QS A)]):
 ar 129 [.agg (cl F b c G H aj K)] [aP 3 A]:=
 h.of
theorem amB(h:ad [.b (decide (a>=b)) true]):
 ar 190 [af a,af b,af c] [ag (decide (a<=c))]:=
 h.of
theorem amC(h:ad [.b (decide (a>=b)) false]):
 ar 190 [af a,af b,af c] [ag false]:=
 h.of
theorem amD(h:ad [.b (decide (a>=b)) true]):
 ar 168 [af a,af b,af c] [ag (decide (a<=c))]:=
 h.of
theorem amF(h:ad [.b (decide (a>=b)) false]):
 ar 168 [af a,af b,af c] [ag false]:=
 h.of
theorem amG(h:ad (xp a b [])):
 ar 322 [af a,af b] [af (-1)]:=
 h.of
theorem amH(h:ad (tC a b [.b (decide (a>b)) true])):
 ar 322 [af a,af b] [af 1]:=
 h.of
theorem amI(h:ad (tC a b [.b (decide (a>b)) false])):
 ar 322 [af a,af b] [af 0]:=
 h.of
theorem amJ(a:Int)(h:ad []):
 ar 388 [af a] [ag (a != a)]:=
 h.of
def Lk(a:Int)(q:Bool)(b:Int)(r:Bool)(l:List O):List O:=.r 388 [af a] [ag q]::.r 388 [af b] [ag r]::.b q false::.b r false::l
theorem amK(h:ad (Lk a q b r [.b (decide (a<b)) true])):
 ar 382 [af a,af b] [af (-1)]:=
 h.of
theorem amL(h:ad (Lk a q b r [.b (decide (a<b)) false,.b (decide (a>b)) true])):
 ar 382 [af a,af b] [af 1]:=
 h.of
theorem amM(h:ad (Lk a q b r [.b (decide (a<b)) false,.b (decide (a>b)) false])):
 ar 382 [af a,af b] [af 0]:=
 h.of
def vj(A C:ae)(a:Int):aD:=bd 36 [(0,dj 1 A),(1,dj 1 C),(9,dj 1 A),(10,aW (A.length:Int)),(11,aW a)] []
def JQ(a:Int):aD:=bd 36 [(4,aW a)] []
theorem amN(h:ad [.i C a [I c],.b (decide (a>=(A.length:Int))) false,.x A a [I d],.r 382 [af c,af d] [af b],.b (b != 0) true]):
 aX (ao f364 0) (vj C A a) .ret (JQ b):=
 h.aV [4] []
theorem amO(h:ad [.i C a [I b],.b (decide (a>=(A.length:Int))) false,.x A a [I c],.r 382 [af b,af c] [af d],.b (d != 0) false,.u a]):
 aX (ao f364 0) (vj C A a) .normal (vj C A (a+1)):=
 h.aV [11,10,9,1,0] []
def QT(A C:ae):aD:=bd 36 [(0,dj 1 A),(1,dj 1 C)] []
theorem amP(h:ad [.f A a false]):
 aX (ao f364 0) (vj A C a) (.exit 0) (QT A C):=
 h.aV [0,1] []
theorem amQ(h:ad [.l [] [11,10,9,1,0] [] (ao f364 0) (vj A C 0) .ret (JQ a)]):
 ar 364 [aP 1 A,aP 1 C] [af a]:=
 h.of
theorem amR(h:ad [.l [] [11,10,9,1,0] [] (ao f364 0) (vj A C 0) (.exit 0) (QT A C),.f C (A.length:Int) false]):
 ar 364 [aP 1 A,aP 1 C] [af 0]:=
 h.of
theorem amS(h:ad [.r 364 [aP 1 A,aP 1 C] [af a]]):
 ar 335 [aP 1 A,aP 1 C] [af a]:=
 h.of
def vk(A:ae)(a b:Int)(C:ae):aD:=bd 30 [(0,dj 5 A),(1,aW a),(5,aE.aF (bm.one (aA 7 5 C))),(6,aW b)] []
theorem amT(h:ad [.i A a (bj j i k l m),.b (i==g) true,.x A a (bj f b c d e),.g C [(bj f b c d e)] 40,.h [(bj f b c d e)],.u a]):
 aX (ao f116 0) (vk A g a C) .normal (vk A g (a+1) (C++[(bj f b c d e)])):=
 h.aV [6,0,1,5] []
theorem amU(h:ad [.i A a (bj d c e f g),.b (c==b) false,.u a]):
 aX (ao f116 0) (vk A b a C) .normal (vk A b (a+1) C):=
 h.aV [6,0,1,5] []
def QU(A:ae):aD:=bd 30 [(5,aE.aF (bm.one (aA 7 5 A)))] []
theorem amV(h:ad [.f A a false]):
 aX (ao f116 0) (vk A b a C) (.exit 0) (QU C):=
 h.aV [5] []
theorem amW(h:ad [.l [] [6,0,1,5] [] (ao f116 0) (vk A a 0 []) (.exit 0) (QU C)]):
 ar 116 [aP 5 A,af a] [aP 5 C]:=
 h.of
def vl(A C E F G H aj K:ae)(a b:Int):aD:=bd 21 [(1,aW a),(2,aQ 2),(5,aW b)] [(2,[.J .free 5 A,.J .free 5 C,.J .free 5 E,.J .free 4 F,.J .free 1 G,.J .free 1 H,.J .free 1 aj,.J .free 2 K])]
def JR(q:Bool):aD:=bd 21 [(4,.aF (.one (.a' q)))] []
theorem amX(h:ad [.i A c [I a,B q],.b (a==b) true]):
 aX (ao f213 0) (vl C E F G H aj K A b c) .ret (JR true):=
 h.aV [4] []
theorem amY(h:ad [.i A a [I c,B q],.b (c==b) false,.u a]):
 aX (ao f213 0) (vl C E F G H aj K A b a) .normal (vl C E F G H aj K A b (a+1)):=
 h.aV [5,2,1] [2]
def QV:aD:=bd 21 [] []
theorem al9(h:ad [.f A a false]):
 aX (ao f213 0) (vl C E F G H aj K A b a) (.exit 0) QV:=
 h.aV [] []
theorem ama(h:ad [.l [] [5,2,1] [2] (ao f213 0) (vl A C E F G H aj K a 0) .ret (JR q)]):
 ar 213 [.agg (ba A C E F G H aj K),af a] [ag q]:=
 h.of
theorem amb(h:ad [.l [] [5,2,1] [2] (ao f213 0) (vl A C E F G H aj K a 0) (.exit 0) QV]):
 ar 213 [.agg (ba A C E F G H aj K),af a] [ag false]:=
 h.of
theorem amc(h:ad [.r 328 [aP 2 A,.one (.cl 329 [D.ptr [I a]])] [ag q]]):
 ar 281 [aP 2 A,af a] [ag q]:=
 h.of
theorem amd(h:ad []):
 ar 329 [.agg [I a,B q],.one (.ptr [I b])] [ag (a==b)]:=
 h.of
def vm(A:ae)(g1:Nat)(b8:List D)(a:Int):aD:=bd 19 [(0,dj 2 A),(1,.aF (.one (.fd (D.cl g1 b8)))),(7,aW (A.length:Int)),(8,aW a)] []
def JS(a:Int):aD:=bd 19 [(4,aW a)] []
theorem ame{A:ae}{g1:Nat}{b8:List D}{a b:Int}{q r:Bool}(h:ad [.i A a [I b,B q],.p (iv prog g1=true),.r g1 ([.agg [I b,B q]]++List.map .one b8) [ag r],.b r true]):
 aX (ao f352 0) (vm A g1 b8 a) .ret (JS a):=
 h.aV [4] []
theorem amf{A:ae}{g1:Nat}{b8:List D}{a b:Int}{q r:Bool}(h:ad [.i A a [I b,B q],.p (iv prog g1=true),.r g1 ([.agg [I b,B q]]++List.map .one b8) [ag r],.b r false,.u a]):
 aX (ao f352 0) (vm A g1 b8 a) .normal (vm A g1 b8 (a+1)):=
 h.aV [8,7,1,0] []
def QW:aD:=bd 19 [] []
theorem amg{A:ae}{g1:Nat}{b8:List D}{a:Int}(h:ad [.f A a false]):
 aX (ao f352 0) (vm A g1 b8 a) (.exit 0) QW:=
 h.aV [] []
theorem amh{A:ae}{g1:Nat}{b8:List D}{a:Int}(h:ad [.l [] [8,7,1,0] [] (ao f352 0) (vm A g1 b8 0) .ret (JS a)]):
 ar 352 [aP 2 A,.one (.cl g1 b8)] [af a]:=
 h.of
theorem ami{A:ae}{g1:Nat}{b8:List D}(h:ad [.l [] [8,7,1,0] [] (ao f352 0) (vm A g1 b8 0) (.exit 0) QW]):
 ar 352 [aP 2 A,.one (.cl g1 b8)] [af (-1)]:=
 h.of
def vn(A:ae)(g1:Nat)(b8:List D)(a:Int):aD:=bd 19 [(0,dj 4 A),(1,.aF (.one (.fd (D.cl g1 b8)))),(7,aW (A.length:Int)),(8,aW a)] []
def JT(a:Int):aD:=bd 19 [(4,aW a)] []
def iB(A:ae)(a b c d e:Int)(l:List O):List O:=.i A a [I b,I c,I d,I e]::l
theorem amj{A:ae}{g1:Nat}{b8:List D}{a b c d e:Int}{q:Bool}(h:ad (iB A a b c d e [.p (iv prog g1=true),.r g1 ([.agg [I b,I c,I d,I e]]++List.map .one b8) [ag q],.b q true])):
 aX (ao f375 0) (vn A g1 b8 a) .ret (JT a):=
 h.aV [4] []
theorem amk{A:ae}{g1:Nat}{b8:List D}{a b c d e:Int}{q:Bool}(h:ad (iB A a b c d e [.p (iv prog g1=true),.r g1 ([.agg [I b,I c,I d,I e]]++List.map .one b8) [ag q],.b q false,.u a])):
 aX (ao f375 0) (vn A g1 b8 a) .normal (vn A g1 b8 (a+1)):=
 h.aV [8,7,1,0] []
def QX:aD:=bd 19 [] []
theorem aml{A:ae}{g1:Nat}{b8:List D}{a:Int}(h:ad [.f A a false]):
 aX (ao f375 0) (vn A g1 b8 a) (.exit 0) QX:=
 h.aV [] []
theorem amm{A:ae}{g1:Nat}{b8:List D}{a:Int}(h:ad [.l [] [8,7,1,0] [] (ao f375 0) (vn A g1 b8 0) .ret (JT a)]):
 ar 375 [aP 4 A,.one (.cl g1 b8)] [af a]:=
 h.of
theorem amn{A:ae}{g1:Nat}{b8:List D}(h:ad [.l [] [8,7,1,0] [] (ao f375 0) (vn A g1 b8 0) (.exit 0) QX]):
 ar 375 [aP 4 A,.one (.cl g1 b8)] [af (-1)]:=
 h.of
theorem amo{A:ae}{g1:Nat}{b8:List D}{a:Int}(h:ad [.r 352 [aP 2 A,.one (.cl g1 b8)] [af a]]):
 ar 328 [aP 2 A,.one (.cl g1 b8)] [ag (decide (a>=0))]:=
 h.of
end Go.Proofs.YtdchjefneblpgaaGreat
namespace Go.Proofs.YtdchjefneblpgaaGreat
open Go.Sx Go.RowKit Go.Proofs.Tryz
variable {a b c d e f g i j k l m n o p a0 cc dk d0 bB f0 : Int} {A C E F G H aj K : ae} {q r : Bool}
def Ee(A:ae)(l:List O):List O:=.g ([]:ae) A 32::.h A::l
theorem amp(h:ad (Ee A [])):
 ar 297 [aP 4 A] [aP 4 ([]++A)]:=
 h.of
theorem amq(h:ad [.r 336 [aP 4 A,.agg [I a,I b,I c,I d]] [ag q]]):
 ar 303 [aP 4 A,.agg [I a,I b,I c,I d]] [ag q]:=
 h.of
theorem amr(h:ad [.r 335 [.one (.J 1 [[I b],[I a],[I c],[I d]]),.one (.J 1 [[I f],[I e],[I g],[I i]])] [af j]]):
 ar 304 [.agg [I a,I b,I c,I d],.agg [I e,I f,I g,I i]] [af j]:=
 h.of
theorem ams(h:ad [.r 365 [aP 4 A,.agg [I a,I b,I c,I d]] [af e]]):
 ar 336 [aP 4 A,.agg [I a,I b,I c,I d]] [ag (decide (e>=0))]:=
 h.of
def uF(A:ae)(a b c d e:Int):aD:=bd 19 [(0,dj 4 A),(3,aQ 3),(7,aW (A.length:Int)),(8,aW e)] [(3,[au a,au b,au c,au d])]
def JU(a:Int):aD:=bd 19 [(4,aW a)] []
theorem amt(h:ad (iB A a f g i j [.b (b==f&&(c==g&&(d==i&&e==j))) true])):
 aX (ao f365 0) (uF A b c d e a) .ret (JU a):=
 h.aV [4] []
theorem amu(h:ad (iB A a f g i j [.b (b==f&&(c==g&&(d==i&&e==j))) false,.u a])):
 aX (ao f365 0) (uF A b c d e a) .normal (uF A b c d e (a+1)):=
 h.aV [8,7,3,0] [3]
def QY:aD:=bd 19 [] []
theorem amv(h:ad [.f A a false]):
 aX (ao f365 0) (uF A b c d e a) (.exit 0) QY:=
 h.aV [] []
theorem amw(h:ad [.l [] [8,7,3,0] [3] (ao f365 0) (uF A a b c d 0) .ret (JU e)]):
 ar 365 [aP 4 A,.agg [I a,I b,I c,I d]] [af e]:=
 h.of
theorem amx(h:ad [.l [] [8,7,3,0] [3] (ao f365 0) (uF A a b c d 0) (.exit 0) QY]):
 ar 365 [aP 4 A,.agg [I a,I b,I c,I d]] [af (-1)]:=
 h.of
theorem amy(h:ad [.r 297 [aP 4 A] [aP 4 C],.r 303 [aP 4 A,.agg [I a,I b,I c,I d]] [ag q],.b q true]):
 ar 237 [aP 4 A,.agg [I a,I b,I c,I d]] [aP 4 C]:=
 h.of
def uG(A:ae)(a b c d:Int)(C:ae)(e:Int):aD:=bd 33 [(0,dj 4 A),(3,aQ 3),(5,aE.aF (bm.one (aA 90000 4 C))),(6,aW e)] [(3,[au a,au b,au c,au d])]
theorem alZ(h:ad (iB A a j k f g [.r 304 [.agg [I j,I k,I f,I g],.agg [I b,I c,I d,I e]] [af i],.b (decide (i<0)) true,.u a])):
 aX (ao f237 0) (uG A b c d e C a) .normal (uG A b c d e C (a+1)):=
 h.aV [6,0,3,5] [3]
def zJ(a b c d:Int)(A:ae)(e:Int):aD:=bd 33 [(3,aQ 3),(5,aE.aF (bm.one (aA 90000 4 A))),(6,aW e)] [(3,[au a,au b,au c,au d])]
theorem al0(h:ad (iB A e j k f g [.r 304 [.agg [I j,I k,I f,I g],.agg [I a,I b,I c,I d]] [af i],.b (decide (i<0)) false])):
 aX (ao f237 0) (uG A a b c d C e) (.exit 0) (zJ a b c d C e):=
 h.aV [5,6,3] [3]
theorem al1(h:ad [.f A a false]):
 aX (ao f237 0) (uG A b c d e C a) (.exit 0) (zJ b c d e C a):=
 h.aV [5,6,3] [3]
theorem al2(h:ad [.r 297 [aP 4 A] [aP 4 C],.r 303 [aP 4 A,.agg [I a,I b,I c,I d]] [ag q],.b q false,.l [] [6,0,3,5] [3] (ao f237 0) (uG A a b c d C 0) (.exit 0) (zJ a b c d C e),.a (.qE [[some none],[none],[some none]] 0 [] [aP 4 E]),.p (kj prog 305 [GA.one (eC.eV 4 C none),GA.one (eC.ro (I e)),GA.one (eC.eV 4 [[I a,I b,I c,I d]] none)] [aP 4 E])]):
 ar 237 [aP 4 A,.agg [I a,I b,I c,I d]] [aP 4 E]:=
 h.of
theorem QZ(h:ad [.v ((A.length:Int)-1),.r 190 [af a,af 0,af ((A.length:Int)-1)] [ag q]]):
 ar 250 [.agg (bk A b c),af a] [ag q]:=
 h.of
theorem al3(h:ad [.b (a==d) true,.b (b==e) true]):
 ar 347 [.agg [I a,I b,I c,I g],.agg [I d,I e,I f,I i]] [ag (c==f)]:=
 h.of
theorem al4(h:ad [.b (a==c) true,.b (b==d) false]):
 ar 347 [.agg [I a,I b,I e,I f],.agg [I c,I d,I g,I i]] [ag false]:=
 h.of
theorem al5(h:ad [.b (a==b) false]):
 ar 347 [.agg [I a,I c,I d,I e],.agg [I b,I f,I g,I i]] [ag false]:=
 h.of
theorem al6(h:ad [.r 347 [.agg [I e,I f,I g,I i],.agg [I a,I b,I c,I d]] [ag q]]):
 ar 346 [.agg [I a,I b,I c,I d],.one (.ptr [I e,I f,I g,I i])] [ag q]:=
 h.of
theorem al7{A:ae}{g1:Nat}{b8:List D}{a:Int}(h:ad [.r 375 [aP 4 A,.one (.cl g1 b8)] [af a],.b (a==-1) true]):
 Mi 345 [GA.one (eC.eV 4 A none),GA.one (eC.ro (D.cl g1 b8))] [aP 4 A]:=
 h.NT
def tc(g0:Nat)(c4:List D)(a b:Int)(A:ae):aD:=bd 42 [(0,aE.aF (bm.one (aA 1000000000 4 A))),(1,.aF (.one (.fd (D.cl g0 c4)))),(5,aW b),(6,aW a)] []
theorem al8{g1:Nat}{b8:List D}{b a:Int}{A:ae}{d e f c:Int}{q:Bool}{d12 d13 d14 d15:D}(h:ad (iB A b d e f c [.p (iv prog g1=true),.r g1 ([.agg [I d,I e,I f,I c]]++List.map .one b8) [ag q],.n q true,.x A a [d12,d13,d14,d15],.u a,.u b])):
 aX (ao f345 0) (tc g1 b8 b a A) .normal (tc g1 b8 (b+1) (a+1) (A.set a.toNat [I d,I e,I f,I c])):=
 h.aV [6,0,1,5] []
theorem anC{g1:Nat}{b8:List D}{a c:Int}{A:ae}{d e f b:Int}{q:Bool}(h:ad (iB A a d e f b [.p (iv prog g1=true),.r g1 ([.agg [I d,I e,I f,I b]]++List.map .one b8) [ag q],.n q false,.u a])):
 aX (ao f345 0) (tc g1 b8 a c A) .normal (tc g1 b8 (a+1) c A):=
 h.aV [6,0,1,5] []
def JV(A:ae)(a:Int):aD:=bd 42 [(0,aE.aF (bm.one (aA 1000000000 4 A))),(5,aW a)] []
theorem anD{g1:Nat}{b8:List D}{a b:Int}{A:ae}(h:ad [.f A a false]):
 aX (ao f345 0) (tc g1 b8 a b A) (.exit 0) (JV A b):=
 h.aV [0,5] []
theorem anE{C:ae}{g1:Nat}{b8:List D}{b:Int}{A:ae}{a:Int}(h:ad [.r 375 [aP 4 C,.one (.cl g1 b8)] [af b],.b (b==-1) false,.u b,.l [] [6,0,1,5] [] (ao f345 0) (tc g1 b8 (b+1) b C) (.exit 0) (JV A a),.a .own,.p (0<=(some a).getD 0),.p ((some a).getD 0<(A.length:Int)),.h A,.p ((0:Int)<=none.getD 0),.p (none.getD 0<=(some a).getD (↑(List.take ((some a).getD 0).toNat A++List.replicate (A.length-((some a).getD 0).toNat) [I 0,I 0,I 0,I 0]).length:Int)),.p ((some a).getD (↑(List.take ((some a).getD 0).toNat A++List.replicate (A.length-((some a).getD 0).toNat) [I 0,I 0,I 0,I 0]).length:Int)<=(↑(List.take ((some a).getD 0).toNat A++List.replicate (A.length-((some a).getD 0).toNat) [I 0,I 0,I 0,I 0]).length:Int))]):
 Mi 345 [GA.one (eC.eV 4 C none),GA.one (eC.ro (D.cl g1 b8))] [.one (.J 4 (List.take (((some a).getD (↑(List.take ((some a).getD 0).toNat A++List.replicate (A.length-((some a).getD 0).toNat) [I 0,I 0,I 0,I 0]).length:Int)).toNat-0) (List.drop 0 (List.take ((some a).getD 0).toNat A++List.replicate (A.length-((some a).getD 0).toNat) [I 0,I 0,I 0,I 0]))))]:=
 h.NT
def nn(A:ae)(a b c d:Int)(q:Bool)(e:Int):aD:=bd 41 [(1,aW a),(2,aW b),(3,aW c),(10,aW e),(11,.aF (.one (.a' q))),(14,dj 4 A),(15,aW (A.length:Int)),(16,aW d)] []
def Ed(A:ae)(a b c d e f g i:Int)(q:Bool)(l:List O):List O:=iB A a b c d e (.r 347 [.agg [I b,I c,I d,I e],.agg [I f,I g,I i,I 0]] [ag q]::l)
theorem anF(h:ad (Ed A a f g i c b d e q [.b q true,.n r true,.u a])):
 aX (ao f344 0) (nn A b d e a r j) .normal (nn A b d e (a+1) true c):=
 h.aV [16,15,14,1,2,3,11,10] []
theorem anG(h:ad (Ed A b g i j a c d e q [.b q true,.n r false,.b (decide (a<f)) true,.u b])):
 aX (ao f344 0) (nn A c d e b r f) .normal (nn A c d e (b+1) true a):=
 h.aV [16,15,14,1,2,3,11,10] []
theorem anH(h:ad (Ed A a g i j c b d e r [.b r true,.n q false,.b (decide (c<f)) false,.u a])):
 aX (ao f344 0) (nn A b d e a q f) .normal (nn A b d e (a+1) q f):=
 h.aV [16,15,14,1,2,3,11,10] []
theorem anI(h:ad (Ed A a g i j e b c d q [.b q false,.u a])):
 aX (ao f344 0) (nn A b c d a r f) .normal (nn A b c d (a+1) r f):=
 h.aV [16,15,14,1,2,3,11,10] []
def Q0(a:Int)(q:Bool):aD:=bd 41 [(10,aW a),(11,.aF (.one (.a' q)))] []
theorem anJ(h:ad [.f A a false]):
 aX (ao f344 0) (nn A c d e a q b) (.exit 0) (Q0 b q):=
 h.aV [10,11] []
theorem anK(h:ad [.l [] [16,15,14,1,2,3,11,10] [] (ao f344 0) (nn A a b c 0 false 0) (.exit 0) (Q0 d q)]):
 ar 344 [aP 4 A,af a,af b,af c] [af d,ag q]:=
 h.of
theorem anL(h:ad [.r 344 [aP 4 A,af a,af b,af c] [af e,ag q],.b q true,.b (decide (e<=d)) true,.r 297 [aP 4 A] [aP 4 C]]):
 ar 318 [aP 4 A,.agg [I a,I b,I c,I d]] [aP 4 C,ag false]:=
 h.of
theorem anM(h:ad [.r 344 [aP 4 A,af a,af b,af c] [af e,ag q],.b q true,.b (decide (e<=d)) false,.r 297 [aP 4 A] [aP 4 F],.a (.qE [[some none],[none]] 0 [] [aP 4 C]),.p (kj prog 345 [GA.one (eC.eV 4 F none),GA.one (eC.ro (D.cl 346 [D.ptr [I a,I b,I c,I d]]))] [aP 4 C]),.r 237 [aP 4 C,.agg [I a,I b,I c,I d]] [aP 4 E]]):
 ar 318 [aP 4 A,.agg [I a,I b,I c,I d]] [aP 4 E,ag true]:=
 h.of
theorem anN(h:ad [.r 344 [aP 4 A,af a,af b,af c] [af e,ag q],.b q false,.r 297 [aP 4 A] [aP 4 F],.a (.qE [[some none],[none]] 0 [] [aP 4 C]),.p (kj prog 345 [GA.one (eC.eV 4 F none),GA.one (eC.ro (D.cl 346 [D.ptr [I a,I b,I c,I d]]))] [aP 4 C]),.r 237 [aP 4 C,.agg [I a,I b,I c,I d]] [aP 4 E]]):
 ar 318 [aP 4 A,.agg [I a,I b,I c,I d]] [aP 4 E,ag true]:=
 h.of
theorem anO(h:ad [.b (a==5) true,.b (a==5) true,.r 318 [aP 4 A,.agg [I b,I c,I d,I e]] [aP 4 C,ag q]]):
 ar 299 [af a,aP 4 A,.agg [I b,I c,I d,I e]] [aP 4 C,ag q]:=
 h.of
theorem anP(h:ad [.b (a==5) false,.b (a==8) true,.r 318 [aP 4 A,.agg [I b,I c,I d,I e]] [aP 4 C,ag q]]):
 ar 299 [af a,aP 4 A,.agg [I b,I c,I d,I e]] [aP 4 C,ag q]:=
 h.of
theorem anQ(h:ad [.b (a==5) false,.b (a==8) false,.b (a==6) true,.r 237 [aP 4 A,.agg [I b,I c,I d,I e]] [aP 4 C],.r 303 [aP 4 A,.agg [I b,I c,I d,I e]] [ag q]]):
 ar 299 [af a,aP 4 A,.agg [I b,I c,I d,I e]] [aP 4 C,.one (B !q)]:=
 h.of
theorem anR(h:ad [.b (a==5) false,.b (a==8) false,.b (a==6) false,.r 297 [aP 4 A] [aP 4 C]]):
 ar 299 [af a,aP 4 A,.agg [I b,I c,I d,I e]] [aP 4 C,ag true]:=
 h.of
def uH(a b c d e:Int):aD:=bd 41 [(5,.aF (.one (.J (.own 27) 1 [[I a],[I b],[I c],[I d]]))),(6,aW e)] []
def JW(a:Int):aD:=bd 41 [(4,aW a)] []
theorem anS(h:ad [.b (decide (a<4)) true,.x [[I d],[I e],[I b],[I c]] a [I f],.b (f != 0) true,.x [[I d],[I e],[I b],[I c]] a [I g]]):
 aX (ao f307 0) (uH d e b c a) .ret (JW g):=
 h.aV [4] []
theorem anT(h:ad [.b (decide (a<4)) true,.x [[I d],[I e],[I b],[I c]] a [I f],.b (f != 0) false,.u a]):
 aX (ao f307 0) (uH d e b c a) .normal (uH d e b c (a+1)):=
 h.aV [6,5] []
def Q1:aD:=bd 41 [] []
theorem anU(h:ad [.b (decide (a<4)) false]):
 aX (ao f307 0) (uH d e b c a) (.exit 0) Q1:=
 h.aV [] []
theorem anV(h:ad [.r 322 [af b,af j] [af m],.r 322 [af a,af i] [af n],.r 322 [af f,af k] [af c],.r 322 [af g,af l] [af d],.l [] [6,5] [] (ao f307 0) (uH m n c d 0) .ret (JW e)]):
 ar 307 [.agg [I a,I b,I f,I g],.agg [I i,I j,I k,I l]] [af e]:=
 h.of
theorem anW(h:ad [.r 322 [af b,af i] [af l],.r 322 [af a,af g] [af m],.r 322 [af e,af j] [af c],.r 322 [af f,af k] [af d],.l [] [6,5] [] (ao f307 0) (uH l m c d 0) (.exit 0) Q1]):
 ar 307 [.agg [I a,I b,I e,I f],.agg [I g,I i,I j,I k]] [af 0]:=
 h.of
def uI(A:ae)(a b c d e:Int):aD:=bd 18 [(0,dj 4 A),(3,aQ 3),(5,aW e)] [(3,[au a,au b,au c,au d])]
def JX(q:Bool):aD:=bd 18 [(4,.aF (.one (.a' q)))] []
theorem anX(h:ad (iB A e f g i j [.b (f==a&&(g==b&&(i==c&&j==d))) true])):
 aX (ao f306 0) (uI A a b c d e) .ret (JX true):=
 h.aV [4] []
theorem anY(h:ad (iB A a f g i j [.b (f==b&&(g==c&&(i==d&&j==e))) false,.u a])):
 aX (ao f306 0) (uI A b c d e a) .normal (uI A b c d e (a+1)):=
 h.aV [5,0,3] [3]
def Q2:aD:=bd 18 [] []
theorem anZ(h:ad [.f A a false]):
 aX (ao f306 0) (uI A b c d e a) (.exit 0) Q2:=
 h.aV [] []
theorem an0(h:ad [.l [] [5,0,3] [3] (ao f306 0) (uI A a b c d 0) .ret (JX q)]):
 ar 306 [aP 4 A,.agg [I a,I b,I c,I d]] [ag q]:=
 h.of
theorem an1(h:ad [.l [] [5,0,3] [3] (ao f306 0) (uI A a b c d 0) (.exit 0) Q2]):
 ar 306 [aP 4 A,.agg [I a,I b,I c,I d]] [ag false]:=
 h.of
theorem am9(h:ad [.r 306 [aP 4 A,.agg [I a,I b,I c,I d]] [ag q],.b q true,.g ([]:ae) A 32,.h A]):
 ar 238 [aP 4 A,.agg [I a,I b,I c,I d]] [aP 4 ([]++A)]:=
 h.of
def uJ(A:ae)(a b c d e:Int):aD:=bd 41 [(0,dj 4 A),(3,aQ 3),(5,aW e)] [(3,[au a,au b,au c,au d])]
theorem ana(h:ad (iB A a i j k f [.r 307 [.agg [I i,I j,I k,I f],.agg [I b,I c,I d,I e]] [af g],.b (decide (g<0)) true,.u a])):
 aX (ao f238 0) (uJ A b c d e a) .normal (uJ A b c d e (a+1)):=
 h.aV [5,0,3] [3]
def zK(A:ae)(a b c d e:Int):aD:=bd 41 [(0,dj 4 A),(3,aQ 3),(5,aW e)] [(3,[au a,au b,au c,au d])]
theorem anb(h:ad (iB A e i j k f [.r 307 [.agg [I i,I j,I k,I f],.agg [I a,I b,I c,I d]] [af g],.b (decide (g<0)) false])):
 aX (ao f238 0) (uJ A a b c d e) (.exit 0) (zK A a b c d e):=
 h.aV [0,5,3] [3]
theorem anc(h:ad [.f A a false]):
 aX (ao f238 0) (uJ A b c d e a) (.exit 0) (zK A b c d e a):=
 h.aV [0,5,3] [3]
theorem ane(h:ad [.r 306 [aP 4 A,.agg [I b,I c,I d,I e]] [ag q],.b q false,.l [] [5,0,3] [3] (ao f238 0) (uJ A b c d e 0) (.exit 0) (zK A b c d e a),.p ((0:Int)<=none.getD 0),.p (none.getD 0<=(some a).getD (A.length:Int)),.p ((some a).getD (A.length:Int)<=(A.length:Int)),.p ((([]:ae).length+(List.take (((some a).getD (A.length:Int)).toNat-0) (List.drop 0 A)).length)*32<=140737488355328),.p (([]:ae).length+(List.take (((some a).getD (A.length:Int)).toNat-0) (List.drop 0 A)).length<=9223372036854775807),.p (Flat (List.take (((some a).getD (A.length:Int)).toNat-0) (List.drop 0 A))),.p ((([]++List.take (((some a).getD (A.length:Int)).toNat-0) (List.drop 0 A)).length+[[I b,I c,I d,I e]].length)*32<=140737488355328),.p (([]++List.take (((some a).getD (A.length:Int)).toNat-0) (List.drop 0 A)).length+[[I b,I c,I d,I e]].length<=9223372036854775807),.h [[I b,I c,I d,I e]],.p (0<=(some a).getD 0),.p ((some a).getD 0<=none.getD (A.length:Int)),.p (none.getD (A.length:Int)<=(A.length:Int)),.p ((([]++List.take (((some a).getD (A.length:Int)).toNat-0) (List.drop 0 A)++[[I b,I c,I d,I e]]).length+(List.take (A.length-((some a).getD 0).toNat) (List.drop ((some a).getD 0).toNat A)).length)*32<=140737488355328),.p (([]++List.take (((some a).getD (A.length:Int)).toNat-0) (List.drop 0 A)++[[I b,I c,I d,I e]]).length+(List.take (A.length-((some a).getD 0).toNat) (List.drop ((some a).getD 0).toNat A)).length<=9223372036854775807),.p (Flat (List.take (A.length-((some a).getD 0).toNat) (List.drop ((some a).getD 0).toNat A)))]):
 ar 238 [aP 4 A,.agg [I b,I c,I d,I e]] [.one (.J 4 ([]++List.take (((some a).getD (A.length:Int)).toNat-0) (List.drop 0 A)++[[I b,I c,I d,I e]]++List.take (A.length-((some a).getD 0).toNat) (List.drop ((some a).getD 0).toNat A)))]:=
 h.of
theorem anf(h:ad [.v ((A.length:Int)-1),.r 168 [af a,af 0,af ((A.length:Int)-1)] [ag q],.n q true]):
 ar 249 [.agg (bk A b c),af a] [.agg (bf 0 0 0 []),ag false]:=
 h.of
theorem ang(h:ad [.v ((A.length:Int)-1),.r 168 [af a,af 0,af ((A.length:Int)-1)] [ag q],.n q false,.x A a (bf b c d C),.g ([]:ae) C 8,.h C]):
 ar 249 [.agg (bk A e f),af a] [.agg (bf b c d ([]++C)),ag true]:=
 h.of
def kz(A:ae)(a b c d:Int)(q:Bool)(e:Int):aD:=bd 54 [(0,dj 4 A),(1,aW a),(2,aW b),(3,aW c),(10,aW e),(11,.aF (.one (.a' q))),(12,aW d)] []
theorem anh(h:ad (iB A a f g i e [.b (f==b) true,.b (g==c) true,.b (i==d) true,.n q true,.u a])):
 aX (ao f324 0) (kz A b c d a q j) .normal (kz A b c d (a+1) true e):=
 h.aV [12,0,1,2,3,11,10] []
theorem ani(h:ad (iB A a g i j c [.b (g==b) true,.b (i==d) true,.b (j==e) true,.n q false,.b (decide (c<f)) true,.u a])):
 aX (ao f324 0) (kz A b d e a q f) .normal (kz A b d e (a+1) true c):=
 h.aV [12,0,1,2,3,11,10] []
theorem anj(h:ad (iB A a g i j f [.b (g==b) true,.b (i==c) true,.b (j==d) true,.n q false,.b (decide (f<e)) false,.u a])):
 aX (ao f324 0) (kz A b c d a q e) .normal (kz A b c d (a+1) q e):=
 h.aV [12,0,1,2,3,11,10] []
theorem ank(h:ad (iB A a f g i j [.b (f==b) true,.b (g==c) true,.b (i==d) false,.u a])):
 aX (ao f324 0) (kz A b c d a q e) .normal (kz A b c d (a+1) q e):=
 h.aV [12,0,1,2,3,11,10] []
theorem anl(h:ad (iB A a f g j i [.b (f==b) true,.b (g==c) false,.u a])):
 aX (ao f324 0) (kz A b c d a q e) .normal (kz A b c d (a+1) q e):=
 h.aV [12,0,1,2,3,11,10] []
theorem anm(h:ad (iB A a f i j g [.b (f==b) false,.u a])):
 aX (ao f324 0) (kz A b c d a q e) .normal (kz A b c d (a+1) q e):=
 h.aV [12,0,1,2,3,11,10] []
def Q3(a:Int)(q:Bool):aD:=bd 54 [(10,aW a),(11,.aF (.one (.a' q)))] []
theorem ann(h:ad [.f A a false]):
 aX (ao f324 0) (kz A c d e a q b) (.exit 0) (Q3 b q):=
 h.aV [10,11] []
theorem ano(h:ad [.l [] [12,0,1,2,3,11,10] [] (ao f324 0) (kz A a b c 0 false 0) (.exit 0) (Q3 d q)]):
 ar 324 [aP 4 A,af a,af b,af c] [af d,ag q]:=
 h.of
theorem anp(h:ad [.b (a==5) true]):
 ar 268 [af a] [ag true]:=
 h.of
theorem anq(h:ad [.b (a==5) false,.b (a==6) true]):
 ar 268 [af a] [ag true]:=
 h.of
theorem anr(h:ad [.b (a==5) false,.b (a==6) false]):
 ar 268 [af a] [ag (a==8)]:=
 h.of
theorem ant(h:ad (Ee A [.b (a==6) true,.r 306 [aP 4 A,.agg [I b,I c,I d,I e]] [ag q],.b q true])):
 ar 269 [af a,aP 4 A,.agg [I b,I c,I d,I e]] [aP 4 ([]++A),ag false]:=
 h.of
theorem anu(h:ad (Ee A [.b (e==6) true,.r 306 [aP 4 A,.agg [I a,I b,I c,I d]] [ag q],.b q false,.r 238 [aP 4 A,.agg [I a,I b,I c,I d]] [aP 4 C]])):
 ar 269 [af e,aP 4 A,.agg [I a,I b,I c,I d]] [aP 4 C,ag true]:=
 h.of
def Ll(A:ae)(a:Int)(l:List O):List O:=Ee A (.b (a==6) false::l)
def Lb(A:ae)(a b c d e:Int)(q:Bool)(l:List O):List O:=Ll A a (.b (a==5) true::.b (a==5) true::.r 324 [aP 4 A,af b,af c,af d] [af e,ag q]::l)
theorem anv(h:ad (Lb A a b c d f q [.b q true,.b (decide (f<=e)) true])):
 ar 269 [af a,aP 4 A,.agg [I b,I c,I d,I e]] [aP 4 ([]++A),ag false]:=
 h.of
def kA(A:ae)(a b c d e:Int)(C:ae):aD:=bd 94 [(1,dj 4 A),(5,aQ 5),(11,aE.aF (bm.one (aA 48 4 C))),(12,aW e)] [(5,[au a,au b,au c,au d])]
theorem anw(h:ad (iB A a g l m n [.b (g != f) true,.x A a [I b,I c,I d,I e],.g C [[I b,I c,I d,I e]] 32,.h [[I b,I c,I d,I e]],.u a])):
 aX (ao f269 0) (kA A f i j k a C) .normal (kA A f i j k (a+1) (C++[[I b,I c,I d,I e]])):=
 h.aV [12,1,5,11] [5]
theorem anx(h:ad (iB A a i m n o [.b (i != f) false,.x A a [I p,I j,I a0,I cc],.b (j != g) true,.x A a [I b,I c,I d,I e],.g C [[I b,I c,I d,I e]] 32,.h [[I b,I c,I d,I e]],.u a])):
 aX (ao f269 0) (kA A f g k l a C) .normal (kA A f g k l (a+1) (C++[[I b,I c,I d,I e]])):=
 h.aV [12,1,5,11] [5]
theorem anz(h:ad (iB A a j n o p [.b (j != f) false,.x A a [I a0,I k,I cc,I dk],.b (k != g) false,.x A a [I d0,I bB,I l,I f0],.b (l != i) true,.x A a [I b,I c,I d,I e],.g C [[I b,I c,I d,I e]] 32,.h [[I b,I c,I d,I e]],.u a])):
 aX (ao f269 0) (kA A f g i m a C) .normal (kA A f g i m (a+1) (C++[[I b,I c,I d,I e]])):=
 h.aV [12,1,5,11] [5]
theorem anA(h:ad (iB A a e j k l [.b (e != b) false,.x A a [I m,I f,I n,I o],.b (f != c) false,.x A a [I p,I a0,I g,I cc],.b (g != d) false,.u a])):
 aX (ao f269 0) (kA A b c d i a C) .normal (kA A b c d i (a+1) C):=
 h.aV [12,1,5,11] [5]
def w3(a b c d:Int)(A:ae):aD:=bd 94 [(5,aQ 5),(11,aE.aF (bm.one (aA 48 4 A)))] [(5,[au a,au b,au c,au d])]
theorem anB(h:ad [.f A e false]):
 aX (ao f269 0) (kA A a b c d e C) (.exit 1) (w3 a b c d C):=
 h.aV [11,5] [5]
theorem amZ(h:ad (Lb A e a b c f q [.b q true,.b (decide (f<=d)) false,.l [] [12,1,5,11] [5] (ao f269 0) (kA A a b c d 0 []) (.exit 1) (w3 a b c d C),.r 238 [aP 4 C,.agg [I a,I b,I c,I d]] [aP 4 E]])):
 ar 269 [af e,aP 4 A,.agg [I a,I b,I c,I d]] [aP 4 E,ag true]:=
 h.of
theorem am0(h:ad (Lb A d a b c f q [.b q false,.l [] [12,1,5,11] [5] (ao f269 0) (kA A a b c e 0 []) (.exit 1) (w3 a b c e C),.r 238 [aP 4 C,.agg [I a,I b,I c,I e]] [aP 4 E]])):
 ar 269 [af d,aP 4 A,.agg [I a,I b,I c,I e]] [aP 4 E,ag true]:=
 h.of
def Lc(A:ae)(a b c d e:Int)(q:Bool)(l:List O):List O:=Ll A a (.b (a==5) false::.b (a==8) true::.r 324 [aP 4 A,af b,af c,af d] [af e,ag q]::l)
theorem am1(h:ad (Lc A a b c d f q [.b q true,.b (decide (f<=e)) true])):
 ar 269 [af a,aP 4 A,.agg [I b,I c,I d,I e]] [aP 4 ([]++A),ag false]:=
 h.of
theorem am2(h:ad (Lc A e a b c f q [.b q true,.b (decide (f<=d)) false,.l [] [12,1,5,11] [5] (ao f269 0) (kA A a b c d 0 []) (.exit 1) (w3 a b c d C),.r 238 [aP 4 C,.agg [I a,I b,I c,I d]] [aP 4 E]])):
 ar 269 [af e,aP 4 A,.agg [I a,I b,I c,I d]] [aP 4 E,ag true]:=
 h.of
theorem am3(h:ad (Lc A d a b c f q [.b q false,.l [] [12,1,5,11] [5] (ao f269 0) (kA A a b c e 0 []) (.exit 1) (w3 a b c e C),.r 238 [aP 4 C,.agg [I a,I b,I c,I e]] [aP 4 E]])):
 ar 269 [af d,aP 4 A,.agg [I a,I b,I c,I e]] [aP 4 E,ag true]:=
 h.of
theorem am4(h:ad (Ll A a [.b (a==5) false,.b (a==8) false])):
 ar 269 [af a,aP 4 A,.agg [I b,I c,I d,I e]] [aP 4 ([]++A),ag true]:=
 h.of
