import Derived.Test.YtdchjefneblpgaaGreatGE
namespace Go.Proofs.YtdchjefneblpgaaGreat
open Go.Sx Go.RowKit Go.Proofs.Tryz
variable {a b c d e f g i j k l m n o p a0 cg dx d0 bE f0 : Int} {A C E F G H ao K : ae} {q r : Bool}
theorem alB(h:ad [.g ([]:ae) A 40,.h A]):
av 233 [aP 5 A] [aP 5 ([]++A)]:=
h.of
def xS(a b:Int)(l:List O):List O:=.b (decide (a<b)) true::l
theorem alC(h:ad (xS b a [])):
av 130 [af c,af a,af b] [af a]:=
h.of
def tX(a b:Int)(l:List O):List O:=.b (decide (a<b)) false::l
theorem alD(h:ad (tX c a [.b (decide (b<a)) true])):
av 130 [af b,af a,af c] [af a]:=
h.of
theorem alE(h:ad (tX a c [.b (decide (b<c)) false,.b (decide (b>a)) true])):
av 130 [af b,af c,af a] [af a]:=
h.of
theorem alF(h:ad (tX c b [.b (decide (a<b)) false,.b (decide (a>c)) false])):
av 130 [af a,af b,af c] [af a]:=
h.of
def Af(a b:Int)(A:ae):aI:=bg 62 [(3,aJ.aK (bu.one (aC 9 3 A))),(4,aY a),(5,aY b)] []
theorem alG(h:ad (xS a b [.g A [[I 1,I a,I 0],[I 3,I a,I 0],[I 2,I a,I 0],[I 7,I a,I 0]] 24,.h [[I 1,I a,I 0],[I 3,I a,I 0],[I 2,I a,I 0],[I 7,I a,I 0]],.u a])):
a7 (aq f129 0) (Af b a A) .normal (Af b (a+1) (A++[[I 1,I a,I 0],[I 3,I a,I 0],[I 2,I a,I 0],[I 7,I a,I 0]])):=
h.aX [5,4,3] []
def Rl(a:Int)(A:ae):aI:=bg 62 [(3,aJ.aK (bu.one (aC 9 3 A))),(4,aY a)] []
theorem alH(h:ad (tX b a [])):
a7 (aq f129 0) (Af a b A) (.exit 0) (Rl a A):=
h.aX [4,3] []
def Ag(a b:Int)(A:ae):aI:=bg 62 [(3,aJ.aK (bu.one (aC 9 3 A))),(4,aY a),(6,aY b)] []
def vJ(a b c:Int)(A:ae):aI:=bg 62 [(3,aJ.aK (bu.one (aC 9 3 A))),(4,aY a),(6,aY b),(7,aY c)] []
theorem alI(h:ad (xS a c [.b (b != a) true,.g A [[I 4,I b,I a],[I 5,I b,I a]] 24,.h [[I 4,I b,I a],[I 5,I b,I a]],.u a])):
a7 (aq f129 2) (vJ c b a A) .normal (vJ c b (a+1) (A++[[I 4,I b,I a],[I 5,I b,I a]])):=
h.aX [7,4,6,3] []
theorem am9(h:ad (xS a b [.b (c != a) false,.u a])):
a7 (aq f129 2) (vJ b c a A) .normal (vJ b c (a+1) A):=
h.aX [7,4,6,3] []
def Rm(a b:Int)(A:ae):aI:=bg 62 [(3,aJ.aK (bu.one (aC 9 3 A))),(4,aY a),(6,aY b)] []
theorem ana(h:ad (tX b a [])):
a7 (aq f129 2) (vJ a c b A) (.exit 4) (Rm a c A):=
h.aX [6,4,3] []
theorem anb(h:ad (xS a b [.l [] [7,4,6,3] [] (aq f129 2) (vJ b a 0 A) (.exit 4) (Rm b a C),.u a])):
a7 (aq f129 1) (Ag b a A) .normal (Ag b (a+1) C):=
h.aX [6,4,3] []
def Rn(A:ae):aI:=bg 62 [(3,aJ.aK (bu.one (aC 9 3 A)))] []
theorem anc(h:ad (tX b a [])):
a7 (aq f129 1) (Ag a b A) (.exit 2) (Rn A):=
h.aX [3] []
def Ah(a:Int)(A:ae):aI:=bg 62 [(3,aJ.aK (bu.one (aC 9 3 A))),(8,aY a)] []
theorem ane(h:ad [.b (decide (a<=3)) true,.g A [[I 6,I a,I 0]] 24,.h [[I 6,I a,I 0]],.u a]):
a7 (aq f129 3) (Ah a A) .normal (Ah (a+1) (A++[[I 6,I a,I 0]])):=
h.aX [8,3] []
def Ro(A:ae):aI:=bg 62 [(3,aJ.aK (bu.one (aC 9 3 A)))] []
theorem ang(h:ad [.b (decide (a<=3)) false]):
a7 (aq f129 3) (Ah a A) (.exit 6) (Ro A):=
h.aX [3] []
theorem anh(h:ad [.r 130 [af b,af 0,af 4] [af a],.l [] [5,4,3] [] (aq f129 0) (Af a 0 []) (.exit 0) (Rl a C),.l [] [6,4,3] [] (aq f129 1) (Ag a 0 C) (.exit 2) (Rn E),.l [] [8,3] [] (aq f129 3) (Ah 0 E) (.exit 6) (Ro A)]):
av 129 [.agg (cl F b c G H ao K)] [aP 3 A]:=
h.of
theorem ani(h:ad [.b (decide (a>=b)) true]):
av 190 [af a,af b,af c] [ak (decide (a<=c))]:=
h.of
theorem anj(h:ad [.b (decide (a>=b)) false]):
av 190 [af a,af b,af c] [ak false]:=
h.of
theorem ank(h:ad [.b (decide (a>=b)) true]):
av 168 [af a,af b,af c] [ak (decide (a<=c))]:=
h.of
theorem anl(h:ad [.b (decide (a>=b)) false]):
av 168 [af a,af b,af c] [ak false]:=
h.of
theorem anm(h:ad (xS a b [])):
av 322 [af a,af b] [af (-1)]:=
h.of
theorem ann(h:ad (tX a b [.b (decide (a>b)) true])):
av 322 [af a,af b] [af 1]:=
h.of
theorem ano(h:ad (tX a b [.b (decide (a>b)) false])):
av 322 [af a,af b] [af 0]:=
h.of
theorem anp(a:Int)(h:ad []):
av 388 [af a] [ak (a != a)]:=
h.of
def LP(a:Int)(q:Bool)(b:Int)(r:Bool)(l:List O):List O:=.r 388 [af a] [ak q]::.r 388 [af b] [ak r]::.b q false::.b r false::l
theorem anq(h:ad (LP a q b r [.b (decide (a<b)) true])):
av 382 [af a,af b] [af (-1)]:=
h.of
theorem anr(h:ad (LP a q b r [.b (decide (a<b)) false,.b (decide (a>b)) true])):
av 382 [af a,af b] [af 1]:=
h.of
theorem ant(h:ad (LP a q b r [.b (decide (a<b)) false,.b (decide (a>b)) false])):
av 382 [af a,af b] [af 0]:=
h.of
def vK(A C:ae)(a:Int):aI:=bg 36 [(0,dw 1 A),(1,dw 1 C),(9,dw 1 A),(10,aY (A.length:Int)),(11,aY a)] []
def Kf(a:Int):aI:=bg 36 [(4,aY a)] []
theorem anu(h:ad [.i C a [I c],.b (decide (a>=(A.length:Int))) false,.x A a [I d],.r 382 [af c,af d] [af b],.b (b != 0) true]):
a7 (aq f364 0) (vK C A a) .ret (Kf b):=
h.aX [4] []
theorem anv(h:ad [.i C a [I b],.b (decide (a>=(A.length:Int))) false,.x A a [I c],.r 382 [af b,af c] [af d],.b (d != 0) false,.u a]):
a7 (aq f364 0) (vK C A a) .normal (vK C A (a+1)):=
h.aX [11,10,9,1,0] []
def Rp(A C:ae):aI:=bg 36 [(0,dw 1 A),(1,dw 1 C)] []
theorem anw(h:ad [.f A a false]):
a7 (aq f364 0) (vK A C a) (.exit 0) (Rp A C):=
h.aX [0,1] []
theorem anx(h:ad [.l [] [11,10,9,1,0] [] (aq f364 0) (vK A C 0) .ret (Kf a)]):
av 364 [aP 1 A,aP 1 C] [af a]:=
h.of
theorem anz(h:ad [.l [] [11,10,9,1,0] [] (aq f364 0) (vK A C 0) (.exit 0) (Rp A C),.f C (A.length:Int) false]):
av 364 [aP 1 A,aP 1 C] [af 0]:=
h.of
theorem anA(h:ad [.r 364 [aP 1 A,aP 1 C] [af a]]):
av 335 [aP 1 A,aP 1 C] [af a]:=
h.of
def vL(A:ae)(a b:Int)(C:ae):aI:=bg 30 [(0,dw 5 A),(1,aY a),(5,aJ.aK (bu.one (aC 7 5 C))),(6,aY b)] []
theorem anB(h:ad [.i A a (bn j i k l m),.b (i==g) true,.x A a (bn f b c d e),.g C [(bn f b c d e)] 40,.h [(bn f b c d e)],.u a]):
a7 (aq f116 0) (vL A g a C) .normal (vL A g (a+1) (C++[(bn f b c d e)])):=
h.aX [6,0,1,5] []
theorem amJ(h:ad [.i A a (bn d c e f g),.b (c==b) false,.u a]):
a7 (aq f116 0) (vL A b a C) .normal (vL A b (a+1) C):=
h.aX [6,0,1,5] []
def Rq(A:ae):aI:=bg 30 [(5,aJ.aK (bu.one (aC 7 5 A)))] []
theorem amK(h:ad [.f A a false]):
a7 (aq f116 0) (vL A b a C) (.exit 0) (Rq C):=
h.aX [5] []
theorem amL(h:ad [.l [] [6,0,1,5] [] (aq f116 0) (vL A a 0 []) (.exit 0) (Rq C)]):
av 116 [aP 5 A,af a] [aP 5 C]:=
h.of
def vM(A C E F G H ao K:ae)(a b:Int):aI:=bg 21 [(1,aY a),(2,aQ 2),(5,aY b)] [(2,[.J .free 5 A,.J .free 5 C,.J .free 5 E,.J .free 4 F,.J .free 1 G,.J .free 1 H,.J .free 1 ao,.J .free 2 K])]
def Kg(q:Bool):aI:=bg 21 [(4,.aK (.one (.ba q)))] []
theorem amM(h:ad [.i A c [I a,B q],.b (a==b) true]):
a7 (aq f213 0) (vM C E F G H ao K A b c) .ret (Kg true):=
h.aX [4] []
theorem amN(h:ad [.i A a [I c,B q],.b (c==b) false,.u a]):
a7 (aq f213 0) (vM C E F G H ao K A b a) .normal (vM C E F G H ao K A b (a+1)):=
h.aX [5,2,1] [2]
def Rr:aI:=bg 21 [] []
theorem amO(h:ad [.f A a false]):
a7 (aq f213 0) (vM C E F G H ao K A b a) (.exit 0) Rr:=
h.aX [] []
theorem amP(h:ad [.l [] [5,2,1] [2] (aq f213 0) (vM A C E F G H ao K a 0) .ret (Kg q)]):
av 213 [.agg (bb A C E F G H ao K),af a] [ak q]:=
h.of
theorem amQ(h:ad [.l [] [5,2,1] [2] (aq f213 0) (vM A C E F G H ao K a 0) (.exit 0) Rr]):
av 213 [.agg (bb A C E F G H ao K),af a] [ak false]:=
h.of
theorem amR(h:ad [.r 328 [aP 2 A,.one (.cl 329 [D.ptr [I a]])] [ak q]]):
av 281 [aP 2 A,af a] [ak q]:=
h.of
theorem amS(h:ad []):
av 329 [.agg [I a,B q],.one (.ptr [I b])] [ak (a==b)]:=
h.of
def u3(A:ae)(g1:Nat)(b5:List D)(a:Int):aI:=bg 19 [(0,dw 2 A),(1,.aK (.one (.fd (D.cl g1 b5)))),(7,aY (A.length:Int)),(8,aY a)] []
def Kh(a:Int):aI:=bg 19 [(4,aY a)] []
theorem amT{A:ae}{g1:Nat}{b5:List D}{a b:Int}{q r:Bool}(h:ad [.i A a [I b,B q],.p (iQ prog g1=true),.r g1 ([.agg [I b,B q]]++List.map .one b5) [ak r],.b r true]):
a7 (aq f352 0) (u3 A g1 b5 a) .ret (Kh a):=
h.aX [4] []
theorem amU{A:ae}{g1:Nat}{b5:List D}{a b:Int}{q r:Bool}(h:ad [.i A a [I b,B q],.p (iQ prog g1=true),.r g1 ([.agg [I b,B q]]++List.map .one b5) [ak r],.b r false,.u a]):
a7 (aq f352 0) (u3 A g1 b5 a) .normal (u3 A g1 b5 (a+1)):=
h.aX [8,7,1,0] []
def Rs:aI:=bg 19 [] []
theorem amV{A:ae}{g1:Nat}{b5:List D}{a:Int}(h:ad [.f A a false]):
a7 (aq f352 0) (u3 A g1 b5 a) (.exit 0) Rs:=
h.aX [] []
theorem amW{A:ae}{g1:Nat}{b5:List D}{a:Int}(h:ad [.l [] [8,7,1,0] [] (aq f352 0) (u3 A g1 b5 0) .ret (Kh a)]):
av 352 [aP 2 A,.one (.cl g1 b5)] [af a]:=
h.of
theorem amX{A:ae}{g1:Nat}{b5:List D}(h:ad [.l [] [8,7,1,0] [] (aq f352 0) (u3 A g1 b5 0) (.exit 0) Rs]):
av 352 [aP 2 A,.one (.cl g1 b5)] [af (-1)]:=
h.of
def u4(A:ae)(g1:Nat)(b5:List D)(a:Int):aI:=bg 19 [(0,dw 4 A),(1,.aK (.one (.fd (D.cl g1 b5)))),(7,aY (A.length:Int)),(8,aY a)] []
def Ki(a:Int):aI:=bg 19 [(4,aY a)] []
def iV(A:ae)(a b c d e:Int)(l:List O):List O:=.i A a [I b,I c,I d,I e]::l
theorem amY{A:ae}{g1:Nat}{b5:List D}{a b c d e:Int}{q:Bool}(h:ad (iV A a b c d e [.p (iQ prog g1=true),.r g1 ([.agg [I b,I c,I d,I e]]++List.map .one b5) [ak q],.b q true])):
a7 (aq f375 0) (u4 A g1 b5 a) .ret (Ki a):=
h.aX [4] []
theorem amZ{A:ae}{g1:Nat}{b5:List D}{a b c d e:Int}{q:Bool}(h:ad (iV A a b c d e [.p (iQ prog g1=true),.r g1 ([.agg [I b,I c,I d,I e]]++List.map .one b5) [ak q],.b q false,.u a])):
a7 (aq f375 0) (u4 A g1 b5 a) .normal (u4 A g1 b5 (a+1)):=
h.aX [8,7,1,0] []
def Rt:aI:=bg 19 [] []
theorem am0{A:ae}{g1:Nat}{b5:List D}{a:Int}(h:ad [.f A a false]):
a7 (aq f375 0) (u4 A g1 b5 a) (.exit 0) Rt:=
h.aX [] []
theorem am1{A:ae}{g1:Nat}{b5:List D}{a:Int}(h:ad [.l [] [8,7,1,0] [] (aq f375 0) (u4 A g1 b5 0) .ret (Ki a)]):
av 375 [aP 4 A,.one (.cl g1 b5)] [af a]:=
h.of
theorem am2{A:ae}{g1:Nat}{b5:List D}(h:ad [.l [] [8,7,1,0] [] (aq f375 0) (u4 A g1 b5 0) (.exit 0) Rt]):
av 375 [aP 4 A,.one (.cl g1 b5)] [af (-1)]:=
h.of
theorem am3{A:ae}{g1:Nat}{b5:List D}{a:Int}(h:ad [.r 352 [aP 2 A,.one (.cl g1 b5)] [af a]]):
av 328 [aP 2 A,.one (.cl g1 b5)] [ak (decide (a>=0))]:=
h.of
end Go.Proofs.YtdchjefneblpgaaGreat
namespace Go.Proofs.YtdchjefneblpgaaGreat
open Go.Sx Go.RowKit Go.Proofs.Tryz
variable {a b c d e f g i j k l m n o p a0 cg dx d0 bE f0 : Int} {A C E F G H ao K : ae} {q r : Bool}
def EI(A:ae)(l:List O):List O:=.g ([]:ae) A 32::.h A::l
theorem am4(h:ad (EI A [])):
av 297 [aP 4 A] [aP 4 ([]++A)]:=
h.of
theorem am5(h:ad [.r 336 [aP 4 A,.agg [I a,I b,I c,I d]] [ak q]]):
av 303 [aP 4 A,.agg [I a,I b,I c,I d]] [ak q]:=
h.of
theorem am6(h:ad [.r 335 [.one (.J 1 [[I b],[I a],[I c],[I d]]),.one (.J 1 [[I f],[I e],[I g],[I i]])] [af j]]):
av 304 [.agg [I a,I b,I c,I d],.agg [I e,I f,I g,I i]] [af j]:=
h.of
theorem am7(h:ad [.r 365 [aP 4 A,.agg [I a,I b,I c,I d]] [af e]]):
av 336 [aP 4 A,.agg [I a,I b,I c,I d]] [ak (decide (e>=0))]:=
h.of
def u5(A:ae)(a b c d e:Int):aI:=bg 19 [(0,dw 4 A),(3,aQ 3),(7,aY (A.length:Int)),(8,aY e)] [(3,[ax a,ax b,ax c,ax d])]
def Kj(a:Int):aI:=bg 19 [(4,aY a)] []
theorem am8(h:ad (iV A a f g i j [.b (b==f&&(c==g&&(d==i&&e==j))) true])):
a7 (aq f365 0) (u5 A b c d e a) .ret (Kj a):=
h.aX [4] []
theorem amz(h:ad (iV A a f g i j [.b (b==f&&(c==g&&(d==i&&e==j))) false,.u a])):
a7 (aq f365 0) (u5 A b c d e a) .normal (u5 A b c d e (a+1)):=
h.aX [8,7,3,0] [3]
def Ru:aI:=bg 19 [] []
theorem amA(h:ad [.f A a false]):
a7 (aq f365 0) (u5 A b c d e a) (.exit 0) Ru:=
h.aX [] []
theorem amB(h:ad [.l [] [8,7,3,0] [3] (aq f365 0) (u5 A a b c d 0) .ret (Kj e)]):
av 365 [aP 4 A,.agg [I a,I b,I c,I d]] [af e]:=
h.of
theorem amC(h:ad [.l [] [8,7,3,0] [3] (aq f365 0) (u5 A a b c d 0) (.exit 0) Ru]):
av 365 [aP 4 A,.agg [I a,I b,I c,I d]] [af (-1)]:=
h.of
theorem amD(h:ad [.r 297 [aP 4 A] [aP 4 C],.r 303 [aP 4 A,.agg [I a,I b,I c,I d]] [ak q],.b q true]):
av 237 [aP 4 A,.agg [I a,I b,I c,I d]] [aP 4 C]:=
h.of
def u6(A:ae)(a b c d:Int)(C:ae)(e:Int):aI:=bg 33 [(0,dw 4 A),(3,aQ 3),(5,aJ.aK (bu.one (aC 90000 4 C))),(6,aY e)] [(3,[ax a,ax b,ax c,ax d])]
theorem amE(h:ad (iV A a j k f g [.r 304 [.agg [I j,I k,I f,I g],.agg [I b,I c,I d,I e]] [af i],.b (decide (i<0)) true,.u a])):
a7 (aq f237 0) (u6 A b c d e C a) .normal (u6 A b c d e C (a+1)):=
h.aX [6,0,3,5] [3]
def Ai(a b c d:Int)(A:ae)(e:Int):aI:=bg 33 [(3,aQ 3),(5,aJ.aK (bu.one (aC 90000 4 A))),(6,aY e)] [(3,[ax a,ax b,ax c,ax d])]
theorem amF(h:ad (iV A e j k f g [.r 304 [.agg [I j,I k,I f,I g],.agg [I a,I b,I c,I d]] [af i],.b (decide (i<0)) false])):
a7 (aq f237 0) (u6 A a b c d C e) (.exit 0) (Ai a b c d C e):=
h.aX [5,6,3] [3]
theorem amG(h:ad [.f A a false]):
a7 (aq f237 0) (u6 A b c d e C a) (.exit 0) (Ai b c d e C a):=
h.aX [5,6,3] [3]
theorem amH(h:ad [.r 297 [aP 4 A] [aP 4 C],.r 303 [aP 4 A,.agg [I a,I b,I c,I d]] [ak q],.b q false,.l [] [6,0,3,5] [3] (aq f237 0) (u6 A a b c d C 0) (.exit 0) (Ai a b c d C e),.a (.qV [[some none],[none],[some none]] 0 [] [aP 4 E]),.p (kI prog 305 [GA.one (eK.e9 4 C none),GA.one (eK.ro (I e)),GA.one (eK.e9 4 [[I a,I b,I c,I d]] none)] [aP 4 E])]):
av 237 [aP 4 A,.agg [I a,I b,I c,I d]] [aP 4 E]:=
h.of
theorem Rv(h:ad [.v ((A.length:Int)-1),.r 190 [af a,af 0,af ((A.length:Int)-1)] [ak q]]):
av 250 [.agg (bq A b c),af a] [ak q]:=
h.of
theorem amI(h:ad [.b (a==d) true,.b (b==e) true]):
av 347 [.agg [I a,I b,I c,I g],.agg [I d,I e,I f,I i]] [ak (c==f)]:=
h.of
theorem aoc(h:ad [.b (a==c) true,.b (b==d) false]):
av 347 [.agg [I a,I b,I e,I f],.agg [I c,I d,I g,I i]] [ak false]:=
h.of
theorem aod(h:ad [.b (a==b) false]):
av 347 [.agg [I a,I c,I d,I e],.agg [I b,I f,I g,I i]] [ak false]:=
h.of
theorem aoe(h:ad [.r 347 [.agg [I e,I f,I g,I i],.agg [I a,I b,I c,I d]] [ak q]]):
av 346 [.agg [I a,I b,I c,I d],.one (.ptr [I e,I f,I g,I i])] [ak q]:=
h.of
theorem aof{A:ae}{g1:Nat}{b5:List D}{a:Int}(h:ad [.r 375 [aP 4 A,.one (.cl g1 b5)] [af a],.b (a==-1) true]):
MK 345 [GA.one (eK.e9 4 A none),GA.one (eK.ro (D.cl g1 b5))] [aP 4 A]:=
h.Ot
def tA(g0:Nat)(cT:List D)(a b:Int)(A:ae):aI:=bg 42 [(0,aJ.aK (bu.one (aC 1000000000 4 A))),(1,.aK (.one (.fd (D.cl g0 cT)))),(5,aY b),(6,aY a)] []
theorem aog{g1:Nat}{b5:List D}{b a:Int}{A:ae}{d e f c:Int}{q:Bool}{d12 d13 d14 d15:D}(h:ad (iV A b d e f c [.p (iQ prog g1=true),.r g1 ([.agg [I d,I e,I f,I c]]++List.map .one b5) [ak q],.n q true,.x A a [d12,d13,d14,d15],.u a,.u b])):
a7 (aq f345 0) (tA g1 b5 b a A) .normal (tA g1 b5 (b+1) (a+1) (A.set a.toNat [I d,I e,I f,I c])):=
h.aX [6,0,1,5] []
theorem aoh{g1:Nat}{b5:List D}{a c:Int}{A:ae}{d e f b:Int}{q:Bool}(h:ad (iV A a d e f b [.p (iQ prog g1=true),.r g1 ([.agg [I d,I e,I f,I b]]++List.map .one b5) [ak q],.n q false,.u a])):
a7 (aq f345 0) (tA g1 b5 a c A) .normal (tA g1 b5 (a+1) c A):=
h.aX [6,0,1,5] []
def Kk(A:ae)(a:Int):aI:=bg 42 [(0,aJ.aK (bu.one (aC 1000000000 4 A))),(5,aY a)] []
theorem aoi{g1:Nat}{b5:List D}{a b:Int}{A:ae}(h:ad [.f A a false]):
a7 (aq f345 0) (tA g1 b5 a b A) (.exit 0) (Kk A b):=
h.aX [0,5] []
theorem aoj{C:ae}{g1:Nat}{b5:List D}{b:Int}{A:ae}{a:Int}(h:ad [.r 375 [aP 4 C,.one (.cl g1 b5)] [af b],.b (b==-1) false,.u b,.l [] [6,0,1,5] [] (aq f345 0) (tA g1 b5 (b+1) b C) (.exit 0) (Kk A a),.a .own,.p (0<=(some a).getD 0),.p ((some a).getD 0<(A.length:Int)),.h A,.p ((0:Int)<=none.getD 0),.p (none.getD 0<=(some a).getD (↑(List.take ((some a).getD 0).toNat A++List.replicate (A.length-((some a).getD 0).toNat) [I 0,I 0,I 0,I 0]).length:Int)),.p ((some a).getD (↑(List.take ((some a).getD 0).toNat A++List.replicate (A.length-((some a).getD 0).toNat) [I 0,I 0,I 0,I 0]).length:Int)<=(↑(List.take ((some a).getD 0).toNat A++List.replicate (A.length-((some a).getD 0).toNat) [I 0,I 0,I 0,I 0]).length:Int))]):
MK 345 [GA.one (eK.e9 4 C none),GA.one (eK.ro (D.cl g1 b5))] [.one (.J 4 (List.take (((some a).getD (↑(List.take ((some a).getD 0).toNat A++List.replicate (A.length-((some a).getD 0).toNat) [I 0,I 0,I 0,I 0]).length:Int)).toNat-0) (List.drop 0 (List.take ((some a).getD 0).toNat A++List.replicate (A.length-((some a).getD 0).toNat) [I 0,I 0,I 0,I 0]))))]:=
h.Ot
def nR(A:ae)(a b c d:Int)(q:Bool)(e:Int):aI:=bg 41 [(1,aY a),(2,aY b),(3,aY c),(10,aY e),(11,.aK (.one (.ba q))),(14,dw 4 A),(15,aY (A.length:Int)),(16,aY d)] []
def EH(A:ae)(a b c d e f g i:Int)(q:Bool)(l:List O):List O:=iV A a b c d e (.r 347 [.agg [I b,I c,I d,I e],.agg [I f,I g,I i,I 0]] [ak q]::l)
theorem aok(h:ad (EH A a f g i c b d e q [.b q true,.n r true,.u a])):
a7 (aq f344 0) (nR A b d e a r j) .normal (nR A b d e (a+1) true c):=
h.aX [16,15,14,1,2,3,11,10] []
theorem aol(h:ad (EH A b g i j a c d e q [.b q true,.n r false,.b (decide (a<f)) true,.u b])):
a7 (aq f344 0) (nR A c d e b r f) .normal (nR A c d e (b+1) true a):=
h.aX [16,15,14,1,2,3,11,10] []
theorem aom(h:ad (EH A a g i j c b d e r [.b r true,.n q false,.b (decide (c<f)) false,.u a])):
a7 (aq f344 0) (nR A b d e a q f) .normal (nR A b d e (a+1) q f):=
h.aX [16,15,14,1,2,3,11,10] []
theorem aon(h:ad (EH A a g i j e b c d q [.b q false,.u a])):
a7 (aq f344 0) (nR A b c d a r f) .normal (nR A b c d (a+1) r f):=
h.aX [16,15,14,1,2,3,11,10] []
def Rw(a:Int)(q:Bool):aI:=bg 41 [(10,aY a),(11,.aK (.one (.ba q)))] []
theorem aoo(h:ad [.f A a false]):
a7 (aq f344 0) (nR A c d e a q b) (.exit 0) (Rw b q):=
h.aX [10,11] []
theorem aop(h:ad [.l [] [16,15,14,1,2,3,11,10] [] (aq f344 0) (nR A a b c 0 false 0) (.exit 0) (Rw d q)]):
av 344 [aP 4 A,af a,af b,af c] [af d,ak q]:=
h.of
theorem aoq(h:ad [.r 344 [aP 4 A,af a,af b,af c] [af e,ak q],.b q true,.b (decide (e<=d)) true,.r 297 [aP 4 A] [aP 4 C]]):
av 318 [aP 4 A,.agg [I a,I b,I c,I d]] [aP 4 C,ak false]:=
h.of
theorem aor(h:ad [.r 344 [aP 4 A,af a,af b,af c] [af e,ak q],.b q true,.b (decide (e<=d)) false,.r 297 [aP 4 A] [aP 4 F],.a (.qV [[some none],[none]] 0 [] [aP 4 C]),.p (kI prog 345 [GA.one (eK.e9 4 F none),GA.one (eK.ro (D.cl 346 [D.ptr [I a,I b,I c,I d]]))] [aP 4 C]),.r 237 [aP 4 C,.agg [I a,I b,I c,I d]] [aP 4 E]]):
av 318 [aP 4 A,.agg [I a,I b,I c,I d]] [aP 4 E,ak true]:=
h.of
theorem aos(h:ad [.r 344 [aP 4 A,af a,af b,af c] [af e,ak q],.b q false,.r 297 [aP 4 A] [aP 4 F],.a (.qV [[some none],[none]] 0 [] [aP 4 C]),.p (kI prog 345 [GA.one (eK.e9 4 F none),GA.one (eK.ro (D.cl 346 [D.ptr [I a,I b,I c,I d]]))] [aP 4 C]),.r 237 [aP 4 C,.agg [I a,I b,I c,I d]] [aP 4 E]]):
av 318 [aP 4 A,.agg [I a,I b,I c,I d]] [aP 4 E,ak true]:=
h.of
theorem aot(h:ad [.b (a==5) true,.b (a==5) true,.r 318 [aP 4 A,.agg [I b,I c,I d,I e]] [aP 4 C,ak q]]):
av 299 [af a,aP 4 A,.agg [I b,I c,I d,I e]] [aP 4 C,ak q]:=
h.of
theorem aou(h:ad [.b (a==5) false,.b (a==8) true,.r 318 [aP 4 A,.agg [I b,I c,I d,I e]] [aP 4 C,ak q]]):
av 299 [af a,aP 4 A,.agg [I b,I c,I d,I e]] [aP 4 C,ak q]:=
h.of
theorem aov(h:ad [.b (a==5) false,.b (a==8) false,.b (a==6) true,.r 237 [aP 4 A,.agg [I b,I c,I d,I e]] [aP 4 C],.r 303 [aP 4 A,.agg [I b,I c,I d,I e]] [ak q]]):
av 299 [af a,aP 4 A,.agg [I b,I c,I d,I e]] [aP 4 C,.one (B !q)]:=
h.of
theorem aow(h:ad [.b (a==5) false,.b (a==8) false,.b (a==6) false,.r 297 [aP 4 A] [aP 4 C]]):
av 299 [af a,aP 4 A,.agg [I b,I c,I d,I e]] [aP 4 C,ak true]:=
h.of
def u7(a b c d e:Int):aI:=bg 41 [(5,.aK (.one (.J (.own 27) 1 [[I a],[I b],[I c],[I d]]))),(6,aY e)] []
def Kl(a:Int):aI:=bg 41 [(4,aY a)] []
theorem aox(h:ad [.b (decide (a<4)) true,.x [[I d],[I e],[I b],[I c]] a [I f],.b (f != 0) true,.x [[I d],[I e],[I b],[I c]] a [I g]]):
a7 (aq f307 0) (u7 d e b c a) .ret (Kl g):=
h.aX [4] []
theorem aoy(h:ad [.b (decide (a<4)) true,.x [[I d],[I e],[I b],[I c]] a [I f],.b (f != 0) false,.u a]):
a7 (aq f307 0) (u7 d e b c a) .normal (u7 d e b c (a+1)):=
h.aX [6,5] []
def Rx:aI:=bg 41 [] []
theorem aoz(h:ad [.b (decide (a<4)) false]):
a7 (aq f307 0) (u7 d e b c a) (.exit 0) Rx:=
h.aX [] []
theorem aoA(h:ad [.r 322 [af b,af j] [af m],.r 322 [af a,af i] [af n],.r 322 [af f,af k] [af c],.r 322 [af g,af l] [af d],.l [] [6,5] [] (aq f307 0) (u7 m n c d 0) .ret (Kl e)]):
av 307 [.agg [I a,I b,I f,I g],.agg [I i,I j,I k,I l]] [af e]:=
h.of
theorem aoB(h:ad [.r 322 [af b,af i] [af l],.r 322 [af a,af g] [af m],.r 322 [af e,af j] [af c],.r 322 [af f,af k] [af d],.l [] [6,5] [] (aq f307 0) (u7 l m c d 0) (.exit 0) Rx]):
av 307 [.agg [I a,I b,I e,I f],.agg [I g,I i,I j,I k]] [af 0]:=
h.of
def u9(A:ae)(a b c d e:Int):aI:=bg 18 [(0,dw 4 A),(3,aQ 3),(5,aY e)] [(3,[ax a,ax b,ax c,ax d])]
def Km(q:Bool):aI:=bg 18 [(4,.aK (.one (.ba q)))] []
theorem anM(h:ad (iV A e f g i j [.b (f==a&&(g==b&&(i==c&&j==d))) true])):
a7 (aq f306 0) (u9 A a b c d e) .ret (Km true):=
h.aX [4] []
theorem anN(h:ad (iV A a f g i j [.b (f==b&&(g==c&&(i==d&&j==e))) false,.u a])):
a7 (aq f306 0) (u9 A b c d e a) .normal (u9 A b c d e (a+1)):=
h.aX [5,0,3] [3]
def Ry:aI:=bg 18 [] []
theorem anO(h:ad [.f A a false]):
a7 (aq f306 0) (u9 A b c d e a) (.exit 0) Ry:=
h.aX [] []
theorem anP(h:ad [.l [] [5,0,3] [3] (aq f306 0) (u9 A a b c d 0) .ret (Km q)]):
av 306 [aP 4 A,.agg [I a,I b,I c,I d]] [ak q]:=
h.of
theorem anQ(h:ad [.l [] [5,0,3] [3] (aq f306 0) (u9 A a b c d 0) (.exit 0) Ry]):
av 306 [aP 4 A,.agg [I a,I b,I c,I d]] [ak false]:=
h.of
theorem anR(h:ad [.r 306 [aP 4 A,.agg [I a,I b,I c,I d]] [ak q],.b q true,.g ([]:ae) A 32,.h A]):
av 238 [aP 4 A,.agg [I a,I b,I c,I d]] [aP 4 ([]++A)]:=
h.of
def u'(A:ae)(a b c d e:Int):aI:=bg 41 [(0,dw 4 A),(3,aQ 3),(5,aY e)] [(3,[ax a,ax b,ax c,ax d])]
theorem anS(h:ad (iV A a i j k f [.r 307 [.agg [I i,I j,I k,I f],.agg [I b,I c,I d,I e]] [af g],.b (decide (g<0)) true,.u a])):
a7 (aq f238 0) (u' A b c d e a) .normal (u' A b c d e (a+1)):=
h.aX [5,0,3] [3]
def Aj(A:ae)(a b c d e:Int):aI:=bg 41 [(0,dw 4 A),(3,aQ 3),(5,aY e)] [(3,[ax a,ax b,ax c,ax d])]
theorem anT(h:ad (iV A e i j k f [.r 307 [.agg [I i,I j,I k,I f],.agg [I a,I b,I c,I d]] [af g],.b (decide (g<0)) false])):
a7 (aq f238 0) (u' A a b c d e) (.exit 0) (Aj A a b c d e):=
h.aX [0,5,3] [3]
theorem anU(h:ad [.f A a false]):
a7 (aq f238 0) (u' A b c d e a) (.exit 0) (Aj A b c d e a):=
h.aX [0,5,3] [3]
theorem anV(h:ad [.r 306 [aP 4 A,.agg [I b,I c,I d,I e]] [ak q],.b q false,.l [] [5,0,3] [3] (aq f238 0) (u' A b c d e 0) (.exit 0) (Aj A b c d e a),.p ((0:Int)<=none.getD 0),.p (none.getD 0<=(some a).getD (A.length:Int)),.p ((some a).getD (A.length:Int)<=(A.length:Int)),.p ((([]:ae).length+(List.take (((some a).getD (A.length:Int)).toNat-0) (List.drop 0 A)).length)*32<=140737488355328),.p (([]:ae).length+(List.take (((some a).getD (A.length:Int)).toNat-0) (List.drop 0 A)).length<=9223372036854775807),.p (Flat (List.take (((some a).getD (A.length:Int)).toNat-0) (List.drop 0 A))),.p ((([]++List.take (((some a).getD (A.length:Int)).toNat-0) (List.drop 0 A)).length+[[I b,I c,I d,I e]].length)*32<=140737488355328),.p (([]++List.take (((some a).getD (A.length:Int)).toNat-0) (List.drop 0 A)).length+[[I b,I c,I d,I e]].length<=9223372036854775807),.h [[I b,I c,I d,I e]],.p (0<=(some a).getD 0),.p ((some a).getD 0<=none.getD (A.length:Int)),.p (none.getD (A.length:Int)<=(A.length:Int)),.p ((([]++List.take (((some a).getD (A.length:Int)).toNat-0) (List.drop 0 A)++[[I b,I c,I d,I e]]).length+(List.take (A.length-((some a).getD 0).toNat) (List.drop ((some a).getD 0).toNat A)).length)*32<=140737488355328),.p (([]++List.take (((some a).getD (A.length:Int)).toNat-0) (List.drop 0 A)++[[I b,I c,I d,I e]]).length+(List.take (A.length-((some a).getD 0).toNat) (List.drop ((some a).getD 0).toNat A)).length<=9223372036854775807),.p (Flat (List.take (A.length-((some a).getD 0).toNat) (List.drop ((some a).getD 0).toNat A)))]):
av 238 [aP 4 A,.agg [I b,I c,I d,I e]] [.one (.J 4 ([]++List.take (((some a).getD (A.length:Int)).toNat-0) (List.drop 0 A)++[[I b,I c,I d,I e]]++List.take (A.length-((some a).getD 0).toNat) (List.drop ((some a).getD 0).toNat A)))]:=
h.of
theorem anW(h:ad [.v ((A.length:Int)-1),.r 168 [af a,af 0,af ((A.length:Int)-1)] [ak q],.n q true]):
av 249 [.agg (bq A b c),af a] [.agg (bj 0 0 0 []),ak false]:=
h.of
theorem anX(h:ad [.v ((A.length:Int)-1),.r 168 [af a,af 0,af ((A.length:Int)-1)] [ak q],.n q false,.x A a (bj b c d C),.g ([]:ae) C 8,.h C]):
av 249 [.agg (bq A e f),af a] [.agg (bj b c d ([]++C)),ak true]:=
h.of
def kV(A:ae)(a b c d:Int)(q:Bool)(e:Int):aI:=bg 54 [(0,dw 4 A),(1,aY a),(2,aY b),(3,aY c),(10,aY e),(11,.aK (.one (.ba q))),(12,aY d)] []
theorem anY(h:ad (iV A a f g i e [.b (f==b) true,.b (g==c) true,.b (i==d) true,.n q true,.u a])):
a7 (aq f324 0) (kV A b c d a q j) .normal (kV A b c d (a+1) true e):=
h.aX [12,0,1,2,3,11,10] []
theorem anZ(h:ad (iV A a g i j c [.b (g==b) true,.b (i==d) true,.b (j==e) true,.n q false,.b (decide (c<f)) true,.u a])):
a7 (aq f324 0) (kV A b d e a q f) .normal (kV A b d e (a+1) true c):=
h.aX [12,0,1,2,3,11,10] []
theorem an0(h:ad (iV A a g i j f [.b (g==b) true,.b (i==c) true,.b (j==d) true,.n q false,.b (decide (f<e)) false,.u a])):
a7 (aq f324 0) (kV A b c d a q e) .normal (kV A b c d (a+1) q e):=
h.aX [12,0,1,2,3,11,10] []
theorem an1(h:ad (iV A a f g i j [.b (f==b) true,.b (g==c) true,.b (i==d) false,.u a])):
a7 (aq f324 0) (kV A b c d a q e) .normal (kV A b c d (a+1) q e):=
h.aX [12,0,1,2,3,11,10] []
theorem an2(h:ad (iV A a f g j i [.b (f==b) true,.b (g==c) false,.u a])):
a7 (aq f324 0) (kV A b c d a q e) .normal (kV A b c d (a+1) q e):=
h.aX [12,0,1,2,3,11,10] []
theorem an3(h:ad (iV A a f i j g [.b (f==b) false,.u a])):
a7 (aq f324 0) (kV A b c d a q e) .normal (kV A b c d (a+1) q e):=
h.aX [12,0,1,2,3,11,10] []
def Rz(a:Int)(q:Bool):aI:=bg 54 [(10,aY a),(11,.aK (.one (.ba q)))] []
theorem an4(h:ad [.f A a false]):
a7 (aq f324 0) (kV A c d e a q b) (.exit 0) (Rz b q):=
h.aX [10,11] []
theorem an5(h:ad [.l [] [12,0,1,2,3,11,10] [] (aq f324 0) (kV A a b c 0 false 0) (.exit 0) (Rz d q)]):
av 324 [aP 4 A,af a,af b,af c] [af d,ak q]:=
h.of
theorem an6(h:ad [.b (a==5) true]):
av 268 [af a] [ak true]:=
h.of
theorem an7(h:ad [.b (a==5) false,.b (a==6) true]):
av 268 [af a] [ak true]:=
h.of
theorem an8(h:ad [.b (a==5) false,.b (a==6) false]):
av 268 [af a] [ak (a==8)]:=
h.of
theorem an9(h:ad (EI A [.b (a==6) true,.r 306 [aP 4 A,.agg [I b,I c,I d,I e]] [ak q],.b q true])):
av 269 [af a,aP 4 A,.agg [I b,I c,I d,I e]] [aP 4 ([]++A),ak false]:=
h.of
theorem aoa(h:ad (EI A [.b (e==6) true,.r 306 [aP 4 A,.agg [I a,I b,I c,I d]] [ak q],.b q false,.r 238 [aP 4 A,.agg [I a,I b,I c,I d]] [aP 4 C]])):
av 269 [af e,aP 4 A,.agg [I a,I b,I c,I d]] [aP 4 C,ak true]:=
h.of
def LQ(A:ae)(a:Int)(l:List O):List O:=EI A (.b (a==6) false::l)
def LG(A:ae)(a b c d e:Int)(q:Bool)(l:List O):List O:=LQ A a (.b (a==5) true::.b (a==5) true::.r 324 [aP 4 A,af b,af c,af d] [af e,ak q]::l)
theorem aob(h:ad (LG A a b c d f q [.b q true,.b (decide (f<=e)) true])):
av 269 [af a,aP 4 A,.agg [I b,I c,I d,I e]] [aP 4 ([]++A),ak false]:=
h.of
def kW(A:ae)(a b c d e:Int)(C:ae):aI:=bg 94 [(1,dw 4 A),(5,aQ 5),(11,aJ.aK (bu.one (aC 48 4 C))),(12,aY e)] [(5,[ax a,ax b,ax c,ax d])]
theorem anC(h:ad (iV A a g l m n [.b (g != f) true,.x A a [I b,I c,I d,I e],.g C [[I b,I c,I d,I e]] 32,.h [[I b,I c,I d,I e]],.u a])):
a7 (aq f269 0) (kW A f i j k a C) .normal (kW A f i j k (a+1) (C++[[I b,I c,I d,I e]])):=
h.aX [12,1,5,11] [5]
theorem anD(h:ad (iV A a i m n o [.b (i != f) false,.x A a [I p,I j,I a0,I cg],.b (j != g) true,.x A a [I b,I c,I d,I e],.g C [[I b,I c,I d,I e]] 32,.h [[I b,I c,I d,I e]],.u a])):
a7 (aq f269 0) (kW A f g k l a C) .normal (kW A f g k l (a+1) (C++[[I b,I c,I d,I e]])):=
h.aX [12,1,5,11] [5]
theorem anE(h:ad (iV A a j n o p [.b (j != f) false,.x A a [I a0,I k,I cg,I dx],.b (k != g) false,.x A a [I d0,I bE,I l,I f0],.b (l != i) true,.x A a [I b,I c,I d,I e],.g C [[I b,I c,I d,I e]] 32,.h [[I b,I c,I d,I e]],.u a])):
a7 (aq f269 0) (kW A f g i m a C) .normal (kW A f g i m (a+1) (C++[[I b,I c,I d,I e]])):=
h.aX [12,1,5,11] [5]
theorem anF(h:ad (iV A a e j k l [.b (e != b) false,.x A a [I m,I f,I n,I o],.b (f != c) false,.x A a [I p,I a0,I g,I cg],.b (g != d) false,.u a])):
a7 (aq f269 0) (kW A b c d i a C) .normal (kW A b c d i (a+1) C):=
h.aX [12,1,5,11] [5]
def xx(a b c d:Int)(A:ae):aI:=bg 94 [(5,aQ 5),(11,aJ.aK (bu.one (aC 48 4 A)))] [(5,[ax a,ax b,ax c,ax d])]
theorem anG(h:ad [.f A e false]):
a7 (aq f269 0) (kW A a b c d e C) (.exit 1) (xx a b c d C):=
h.aX [11,5] [5]
theorem anH(h:ad (LG A e a b c f q [.b q true,.b (decide (f<=d)) false,.l [] [12,1,5,11] [5] (aq f269 0) (kW A a b c d 0 []) (.exit 1) (xx a b c d C),.r 238 [aP 4 C,.agg [I a,I b,I c,I d]] [aP 4 E]])):
av 269 [af e,aP 4 A,.agg [I a,I b,I c,I d]] [aP 4 E,ak true]:=
h.of
theorem anI(h:ad (LG A d a b c f q [.b q false,.l [] [12,1,5,11] [5] (aq f269 0) (kW A a b c e 0 []) (.exit 1) (xx a b c e C),.r 238 [aP 4 C,.agg [I a,I b,I c,I e]] [aP 4 E]])):
av 269 [af d,aP 4 A,.agg [I a,I b,I c,I e]] [aP 4 E,ak true]:=
h.of
def LH(A:ae)(a b c d e:Int)(q:Bool)(l:List O):List O:=LQ A a (.b (a==5) false::.b (a==8) true::.r 324 [aP 4 A,af b,af c,af d] [af e,ak q]::l)
theorem anJ(h:ad (LH A a b c d f q [.b q true,.b (decide (f<=e)) true])):
av 269 [af a,aP 4 A,.agg [I b,I c,I d,I e]] [aP 4 ([]++A),ak false]:=
h.of
theorem anK(h:ad (LH A e a b c f q [.b q true,.b (decide (f<=d)) false,.l [] [12,1,5,11] [5] (aq f269 0) (kW A a b c d 0 []) (.exit 1) (xx a b c d C),.r 238 [aP 4 C,.agg [I a,I b,I c,I d]] [aP 4 E]])):
av 269 [af e,aP 4 A,.agg [I a,I b,I c,I d]] [aP 4 E,ak true]:=
h.of
theorem anL(h:ad (LH A d a b c f q [.b q false,.l [] [12,1,5,11] [5] (aq f269 0) (kW A a b c e 0 []) (.exit 1) (xx a b c e C),.r 238 [aP 4 C,.agg [I a,I b,I c,I e]] [aP 4 E]])):
av 269 [af d,aP 4 A,.agg [I a,I b,I c,I e]] [aP 4 E,ak true]:=
h.of
theorem apc(h:ad (LQ A a [.b (a==5) false,.b (a==8) false])):
av 269 [af a,aP 4 A,.agg [I b,I c,I d,I e]] [aP 4 ([]++A),ak true]:=
h.of
