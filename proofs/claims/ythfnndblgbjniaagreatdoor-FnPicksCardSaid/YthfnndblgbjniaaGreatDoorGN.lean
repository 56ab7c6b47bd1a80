import Derived.Test.YthfnndblgbjniaaGreatDoorGE
namespace Go.Proofs.YthfnndblgbjniaaGreatDoor
open Go.Sx Go.RowKit Go.Proofs.Tryz
variable {a b c d e f g i j k l m n o p a0 b6 cS d0 bz f0 : Int} {A C E F G H ah K : af} {q r : Bool}
theorem arx(h:ae [.g ([]:af) A 40,.h A]):
 al 126 [aO 5 A] [aO 5 ([]++A)]:=
 h.of
def rQ(a b:Int)(l:List O):List O:=.b (decide (a<b)) true::l
theorem ary(h:ae (rQ b a [])):
 al 68 [ag c,ag a,ag b] [ag a]:=
 h.of
def oJ(a b:Int)(l:List O):List O:=.b (decide (a<b)) false::l
theorem arz(h:ae (oJ c a [.b (decide (b<a)) true])):
 al 68 [ag b,ag a,ag c] [ag a]:=
 h.of
theorem arA(h:ae (oJ a c [.b (decide (b<c)) false,.b (decide (b>a)) true])):
 al 68 [ag b,ag c,ag a] [ag a]:=
 h.of
theorem arB(h:ae (oJ c b [.b (decide (a<b)) false,.b (decide (a>c)) false])):
 al 68 [ag a,ag b,ag c] [ag a]:=
 h.of
theorem arC(h:ae (rQ b a [])):
 al 67 [ag c,ag a,ag b] [ag a]:=
 h.of
theorem arD(h:ae (oJ c a [.b (decide (b<a)) true])):
 al 67 [ag b,ag a,ag c] [ag a]:=
 h.of
theorem arE(h:ae (oJ b c [.b (decide (a<c)) false])):
 al 67 [ag a,ag c,ag b] [ag (if b<a then b else a)]:=
 h.of
def A5(a b:Int)(A:af):aF:=bf 62 [(3,aG.aC (bl.one (aw 9 3 A))),(4,aU a),(5,aU b)] []
theorem arF(h:ae (rQ a b [.g A [[I 1,I a,I 0],[I 3,I a,I 0],[I 2,I a,I 0],[I 7,I a,I 0]] 24,.h [[I 1,I a,I 0],[I 3,I a,I 0],[I 2,I a,I 0],[I 7,I a,I 0]],.u a])):
 aY (ap f31 0) (A5 b a A) .normal (A5 b (a+1) (A++[[I 1,I a,I 0],[I 3,I a,I 0],[I 2,I a,I 0],[I 7,I a,I 0]])):=
 h.aT [5,4,3] []
def Ru(a:Int)(A:af):aF:=bf 62 [(3,aG.aC (bl.one (aw 9 3 A))),(4,aU a)] []
theorem arG(h:ae (oJ b a [])):
 aY (ap f31 0) (A5 a b A) (.exit 0) (Ru a A):=
 h.aT [4,3] []
def Ag(a b:Int)(A:af):aF:=bf 62 [(3,aG.aC (bl.one (aw 9 3 A))),(4,aU a),(6,aU b)] []
def vL(a b c:Int)(A:af):aF:=bf 62 [(3,aG.aC (bl.one (aw 9 3 A))),(4,aU a),(6,aU b),(7,aU c)] []
def V8(a b c:Int)(A:af)(l:List O):List O:=rQ a b (.b (c != a) true::.g A [[I 4,I c,I a],[I 5,I c,I a]] 24::.h [[I 4,I c,I a],[I 5,I c,I a]]::.u a::l)
theorem arH(h:ae (V8 a c b A [])):
 aY (ap f31 2) (vL c b a A) .normal (vL c b (a+1) (A++[[I 4,I b,I a],[I 5,I b,I a]])):=
 h.aT [7,4,6,3] []
theorem arI(h:ae (rQ a b [.b (c != a) false,.u a])):
 aY (ap f31 2) (vL b c a A) .normal (vL b c (a+1) A):=
 h.aT [7,4,6,3] []
def Rv(a b:Int)(A:af):aF:=bf 62 [(3,aG.aC (bl.one (aw 9 3 A))),(4,aU a),(6,aU b)] []
theorem arJ(h:ae (oJ b a [])):
 aY (ap f31 2) (vL a c b A) (.exit 4) (Rv a c A):=
 h.aT [6,4,3] []
theorem arK(h:ae (rQ a b [.l [] [7,4,6,3] [] (ap f31 2) (vL b a 0 A) (.exit 4) (Rv b a C),.u a])):
 aY (ap f31 1) (Ag b a A) .normal (Ag b (a+1) C):=
 h.aT [6,4,3] []
def Rw(A:af):aF:=bf 62 [(3,aG.aC (bl.one (aw 9 3 A)))] []
theorem arL(h:ae (oJ b a [])):
 aY (ap f31 1) (Ag a b A) (.exit 2) (Rw A):=
 h.aT [3] []
def Ah(a:Int)(A:af):aF:=bf 62 [(3,aG.aC (bl.one (aw 9 3 A))),(8,aU a)] []
theorem arM(h:ae [.b (decide (a<=3)) true,.g A [[I 6,I a,I 0]] 24,.h [[I 6,I a,I 0]],.u a]):
 aY (ap f31 3) (Ah a A) .normal (Ah (a+1) (A++[[I 6,I a,I 0]])):=
 h.aT [8,3] []
def Rx(A:af):aF:=bf 62 [(3,aG.aC (bl.one (aw 9 3 A)))] []
theorem arN(h:ae [.b (decide (a<=3)) false]):
 aY (ap f31 3) (Ah a A) (.exit 6) (Rx A):=
 h.aT [3] []
theorem arO(h:ae [.r 68 [ag b,ag 0,ag 4] [ag a],.l [] [5,4,3] [] (ap f31 0) (A5 a 0 []) (.exit 0) (Ru a C),.l [] [6,4,3] [] (ap f31 1) (Ag a 0 C) (.exit 2) (Rw E),.l [] [8,3] [] (ap f31 3) (Ah 0 E) (.exit 6) (Rx A)]):
 al 31 [.agg (a8 F b c G H ah K)] [aO 3 A]:=
 h.of
def Ai(a b:Int)(A:af):aF:=bf 65 [(3,aU a),(4,aG.aC (bl.one (aw 31 3 A))),(5,aU b)] []
def s4(a b c:Int)(A:af):aF:=bf 65 [(3,aU a),(4,aG.aC (bl.one (aw 31 3 A))),(5,aU b),(20,.aC (.one (.J (.own 20) 1 [[I 1],[I 3],[I 2],[I 7]]))),(21,aU (↑[[I 1],[I 3],[I 2],[I 7]].length:Int)),(22,aU c)] []
theorem EZ(h:ae [.i [[I 1],[I 3],[I 2],[I 7]] b [I c],.g A [[I c,I a,I 0]] 24,.h [[I c,I a,I 0]],.u b]):
 aY (ap f29 1) (s4 d a b A) .normal (s4 d a (b+1) (A++[[I c,I a,I 0]])):=
 h.aT [22,21,20,4,5,3] []
def Ry(a b:Int)(A:af):aF:=bf 65 [(3,aU a),(4,aG.aC (bl.one (aw 31 3 A))),(5,aU b)] []
theorem arP(h:ae [.f [[I 1],[I 3],[I 2],[I 7]] a false]):
 aY (ap f29 1) (s4 b c a A) (.exit 2) (Ry b c A):=
 h.aT [5,3,4] []
theorem arQ(h:ae (rQ a b [.l [] [22,21,20,4,5,3] [] (ap f29 1) (s4 b a 0 C) (.exit 2) (Ry b a A),.u a])):
 aY (ap f29 0) (Ai b a C) .normal (Ai b (a+1) A):=
 h.aT [5,3,4] []
def Q0(a:Int)(A:af):aF:=bf 65 [(3,aU a),(4,aG.aC (bl.one (aw 31 3 A)))] []
theorem arR(h:ae (oJ b a [])):
 aY (ap f29 0) (Ai a b A) (.exit 0) (Q0 a A):=
 h.aT [3,4] []
def Aj(a b:Int)(A:af):aF:=bf 65 [(3,aU a),(4,aG.aC (bl.one (aw 31 3 A))),(8,aU b)] []
def vM(a b c:Int)(A:af):aF:=bf 65 [(3,aU a),(4,aG.aC (bl.one (aw 31 3 A))),(8,aU b),(9,aU c)] []
theorem arS(h:ae (V8 a c b A [])):
 aY (ap f29 3) (vM c b a A) .normal (vM c b (a+1) (A++[[I 4,I b,I a],[I 5,I b,I a]])):=
 h.aT [9,3,8,4] []
theorem arT(h:ae (rQ a b [.b (c != a) false,.u a])):
 aY (ap f29 3) (vM b c a A) .normal (vM b c (a+1) A):=
 h.aT [9,3,8,4] []
def Q1(a b:Int)(A:af):aF:=bf 65 [(3,aU a),(4,aG.aC (bl.one (aw 31 3 A))),(8,aU b)] []
theorem arU(h:ae (oJ b a [])):
 aY (ap f29 3) (vM a c b A) (.exit 6) (Q1 a c A):=
 h.aT [8,3,4] []
theorem arV(h:ae (rQ a b [.l [] [9,3,8,4] [] (ap f29 3) (vM b a 0 A) (.exit 6) (Q1 b a C),.u a])):
 aY (ap f29 2) (Aj b a A) .normal (Aj b (a+1) C):=
 h.aT [8,3,4] []
def Q2(A:af):aF:=bf 65 [(4,aG.aC (bl.one (aw 31 3 A)))] []
theorem arl(h:ae (oJ b a [])):
 aY (ap f29 2) (Aj a b A) (.exit 4) (Q2 A):=
 h.aT [4] []
def Ak(a:Int)(A:af):aF:=bf 65 [(4,aG.aC (bl.one (aw 31 3 A))),(10,aU a)] []
theorem arm(h:ae [.b (decide (a<=3)) true,.g A [[I 6,I a,I 0]] 24,.h [[I 6,I a,I 0]],.u a]):
 aY (ap f29 4) (Ak a A) .normal (Ak (a+1) (A++[[I 6,I a,I 0]])):=
 h.aT [10,4] []
def Q3(A:af):aF:=bf 65 [(4,aG.aC (bl.one (aw 31 3 A)))] []
theorem arn(h:ae [.b (decide (a<=3)) false]):
 aY (ap f29 4) (Ak a A) (.exit 8) (Q3 A):=
 h.aT [4] []
theorem aro(h:ae [.r 67 [ag b,ag 0,ag 4] [ag a],.l [(4,31,3)] [5,3,4] [] (ap f29 0) (Ai a 0 []) (.exit 0) (Q0 a C),.l [] [8,3,4] [] (ap f29 2) (Aj a 0 C) (.exit 4) (Q2 E),.l [] [10,4] [] (ap f29 4) (Ak 0 E) (.exit 8) (Q3 A)]):
 al 29 [.agg (a8 F b c G H ah K)] [aO 3 A]:=
 h.of
theorem arp(h:ae [.b (decide (a>=b)) true]):
 al 64 [ag a,ag b,ag c] [ai (decide (a<=c))]:=
 h.of
theorem arq(h:ae [.b (decide (a>=b)) false]):
 al 64 [ag a,ag b,ag c] [ai false]:=
 h.of
theorem ars(h:ae [.b (decide (a>=b)) true]):
 al 65 [ag a,ag b,ag c] [ai (decide (a<=c))]:=
 h.of
theorem art(h:ae [.b (decide (a>=b)) false]):
 al 65 [ag a,ag b,ag c] [ai false]:=
 h.of
theorem aru(h:ae (rQ a b [])):
 al 219 [ag a,ag b] [ag (-1)]:=
 h.of
theorem arv(h:ae (oJ a b [.b (decide (a>b)) true])):
 al 219 [ag a,ag b] [ag 1]:=
 h.of
theorem asX(h:ae (oJ a b [.b (decide (a>b)) false])):
 al 219 [ag a,ag b] [ag 0]:=
 h.of
theorem asY(a:Int)(h:ae []):
 al 238 [ag a] [ai (a != a)]:=
 h.of
def MI(a:Int)(q:Bool)(b:Int)(r:Bool)(l:List O):List O:=.r 238 [ag a] [ai q]::.r 238 [ag b] [ai r]::.b q false::.b r false::l
theorem asZ(h:ae (MI a q b r [.b (decide (a<b)) true])):
 al 231 [ag a,ag b] [ag (-1)]:=
 h.of
theorem as0(h:ae (MI a q b r [.b (decide (a<b)) false,.b (decide (a>b)) true])):
 al 231 [ag a,ag b] [ag 1]:=
 h.of
theorem as1(h:ae (MI a q b r [.b (decide (a<b)) false,.b (decide (a>b)) false])):
 al 231 [ag a,ag b] [ag 0]:=
 h.of
def vN(A C:af)(a:Int):aF:=bf 36 [(0,du 1 A),(1,du 1 C),(9,du 1 A),(10,aU (A.length:Int)),(11,aU a)] []
def Kp(a:Int):aF:=bf 36 [(4,aU a)] []
theorem as2(h:ae [.i C a [I c],.b (decide (a>=(A.length:Int))) false,.x A a [I d],.r 231 [ag c,ag d] [ag b],.b (b != 0) true]):
 aY (ap f218 0) (vN C A a) .ret (Kp b):=
 h.aT [4] []
theorem as3(h:ae [.i C a [I b],.b (decide (a>=(A.length:Int))) false,.x A a [I c],.r 231 [ag b,ag c] [ag d],.b (d != 0) false,.u a]):
 aY (ap f218 0) (vN C A a) .normal (vN C A (a+1)):=
 h.aT [11,10,9,1,0] []
def Q4(A C:af):aF:=bf 36 [(0,du 1 A),(1,du 1 C)] []
theorem as4(h:ae [.f A a false]):
 aY (ap f218 0) (vN A C a) (.exit 0) (Q4 A C):=
 h.aT [0,1] []
theorem as5(h:ae [.l [] [11,10,9,1,0] [] (ap f218 0) (vN A C 0) .ret (Kp a)]):
 al 218 [aO 1 A,aO 1 C] [ag a]:=
 h.of
theorem as6(h:ae [.l [] [11,10,9,1,0] [] (ap f218 0) (vN A C 0) (.exit 0) (Q4 A C),.f C (A.length:Int) false]):
 al 218 [aO 1 A,aO 1 C] [ag 0]:=
 h.of
theorem as7(h:ae [.r 218 [aO 1 A,aO 1 C] [ag a]]):
 al 203 [aO 1 A,aO 1 C] [ag a]:=
 h.of
def vO(A:af)(a b:Int)(C:af):aF:=bf 30 [(0,du 5 A),(1,aU a),(5,aG.aC (bl.one (aw 7 5 C))),(6,aU b)] []
theorem as8(h:ae [.i A a (bj j i k l m),.b (i==g) true,.x A a (bj f b c d e),.g C [(bj f b c d e)] 40,.h [(bj f b c d e)],.u a]):
 aY (ap f217 0) (vO A g a C) .normal (vO A g (a+1) (C++[(bj f b c d e)])):=
 h.aT [6,0,1,5] []
theorem as9(h:ae [.i A a (bj d c e f g),.b (c==b) false,.u a]):
 aY (ap f217 0) (vO A b a C) .normal (vO A b (a+1) C):=
 h.aT [6,0,1,5] []
def Q5(A:af):aF:=bf 30 [(5,aG.aC (bl.one (aw 7 5 A)))] []
theorem ata(h:ae [.f A a false]):
 aY (ap f217 0) (vO A b a C) (.exit 0) (Q5 C):=
 h.aT [5] []
theorem atb(h:ae [.l [] [6,0,1,5] [] (ap f217 0) (vO A a 0 []) (.exit 0) (Q5 C)]):
 al 217 [aO 5 A,ag a] [aO 5 C]:=
 h.of
def vP(A:af)(a b:Int)(C:af):aF:=bf 25 [(1,aU a),(5,aG.aC (bl.one (aw 22 5 C))),(8,du 5 A),(9,aU (A.length:Int)),(10,aU b)] []
theorem atc(h:ae [.i A b (bj c a d e f),.b (a==g) true,.g C [(bj c a d e f)] 40,.h [(bj c a d e f)],.u b]):
 aY (ap f193 0) (vP A g b C) .normal (vP A g (b+1) (C++[(bj c a d e f)])):=
 h.aT [10,9,8,1,5] []
theorem atd(h:ae [.i A a (bj d c e f g),.b (c==b) false,.u a]):
 aY (ap f193 0) (vP A b a C) .normal (vP A b (a+1) C):=
 h.aT [10,9,8,1,5] []
def Q6(A:af):aF:=bf 25 [(5,aG.aC (bl.one (aw 22 5 A)))] []
theorem ate(h:ae [.f A a false]):
 aY (ap f193 0) (vP A b a C) (.exit 0) (Q6 C):=
 h.aT [5] []
theorem atf(h:ae [.l [(5,22,5)] [10,9,8,1,5] [] (ap f193 0) (vP A a 0 []) (.exit 0) (Q6 C)]):
 al 193 [aO 5 A,ag a] [aO 5 C]:=
 h.of
def vQ(A C E F G H ah K:af)(a b:Int):aF:=bf 21 [(1,aU a),(2,aS 2),(5,aU b)] [(2,[.J .free 5 A,.J .free 5 C,.J .free 5 E,.J .free 4 F,.J .free 1 G,.J .free 1 H,.J .free 1 ah,.J .free 2 K])]
def Kq(q:Bool):aF:=bf 21 [(4,.aC (.one (.bg q)))] []
theorem atg(h:ae [.i A c [I a,B q],.b (a==b) true]):
 aY (ap f21 0) (vQ C E F G H ah K A b c) .ret (Kq true):=
 h.aT [4] []
theorem ath(h:ae [.i A a [I c,B q],.b (c==b) false,.u a]):
 aY (ap f21 0) (vQ C E F G H ah K A b a) .normal (vQ C E F G H ah K A b (a+1)):=
 h.aT [5,2,1] [2]
def Q7:aF:=bf 21 [] []
theorem ati(h:ae [.f A a false]):
 aY (ap f21 0) (vQ C E F G H ah K A b a) (.exit 0) Q7:=
 h.aT [] []
theorem atj(h:ae [.l [] [5,2,1] [2] (ap f21 0) (vQ A C E F G H ah K a 0) .ret (Kq q)]):
 al 21 [.agg (aX A C E F G H ah K),ag a] [ai q]:=
 h.of
theorem atk(h:ae [.l [] [5,2,1] [2] (ap f21 0) (vQ A C E F G H ah K a 0) (.exit 0) Q7]):
 al 21 [.agg (aX A C E F G H ah K),ag a] [ai false]:=
 h.of
theorem atl(h:ae [.r 133 [aO 2 A,.one (.a8 134 [D.ptr [I a]])] [ai q]]):
 al 82 [aO 2 A,ag a] [ai q]:=
 h.of
theorem atm(h:ae []):
 al 134 [.agg [I a,B q],.one (.ptr [I b])] [ai (a==b)]:=
 h.of
theorem asx(h:ae [.r 82 [aO 2 A,ag a] [ai q]]):
 al 43 [.agg (aX C E F G H ah K A),ag a] [ai q]:=
 h.of
def vR(A:af)(g1:Nat)(bQ:List D)(a:Int):aF:=bf 19 [(0,du 5 A),(1,.aC (.one (.fd (D.a8 g1 bQ)))),(7,aU (A.length:Int)),(8,aU a)] []
def JS(a:Int):aF:=bf 19 [(4,aU a)] []
theorem asy{A:af}{g1:Nat}{bQ:List D}{a b c d e f:Int}{q:Bool}(h:ae [.i A a (bj b c d e f),.p (hj prog g1=true),.r g1 ([.agg (bj b c d e f)]++List.map .one bQ) [ai q],.b q true]):
 aY (ap f212 0) (vR A g1 bQ a) .ret (JS a):=
 h.aT [4] []
theorem asz{A:af}{g1:Nat}{bQ:List D}{a b c d e f:Int}{q:Bool}(h:ae [.i A a (bj b c d e f),.p (hj prog g1=true),.r g1 ([.agg (bj b c d e f)]++List.map .one bQ) [ai q],.b q false,.u a]):
 aY (ap f212 0) (vR A g1 bQ a) .normal (vR A g1 bQ (a+1)):=
 h.aT [8,7,1,0] []
def Q8:aF:=bf 19 [] []
theorem asA{A:af}{g1:Nat}{bQ:List D}{a:Int}(h:ae [.f A a false]):
 aY (ap f212 0) (vR A g1 bQ a) (.exit 0) Q8:=
 h.aT [] []
theorem asB{A:af}{g1:Nat}{bQ:List D}{a:Int}(h:ae [.l [] [8,7,1,0] [] (ap f212 0) (vR A g1 bQ 0) .ret (JS a)]):
 al 212 [aO 5 A,.one (.a8 g1 bQ)] [ag a]:=
 h.of
theorem asC{A:af}{g1:Nat}{bQ:List D}(h:ae [.l [] [8,7,1,0] [] (ap f212 0) (vR A g1 bQ 0) (.exit 0) Q8]):
 al 212 [aO 5 A,.one (.a8 g1 bQ)] [ag (-1)]:=
 h.of
def vS(A:af)(g1:Nat)(bQ:List D)(a:Int):aF:=bf 19 [(0,du 2 A),(1,.aC (.one (.fd (D.a8 g1 bQ)))),(7,aU (A.length:Int)),(8,aU a)] []
def JT(a:Int):aF:=bf 19 [(4,aU a)] []
theorem asD{A:af}{g1:Nat}{bQ:List D}{a b:Int}{q r:Bool}(h:ae [.i A a [I b,B q],.p (hj prog g1=true),.r g1 ([.agg [I b,B q]]++List.map .one bQ) [ai r],.b r true]):
 aY (ap f182 0) (vS A g1 bQ a) .ret (JT a):=
 h.aT [4] []
theorem asE{A:af}{g1:Nat}{bQ:List D}{a b:Int}{q r:Bool}(h:ae [.i A a [I b,B q],.p (hj prog g1=true),.r g1 ([.agg [I b,B q]]++List.map .one bQ) [ai r],.b r false,.u a]):
 aY (ap f182 0) (vS A g1 bQ a) .normal (vS A g1 bQ (a+1)):=
 h.aT [8,7,1,0] []
def Q9:aF:=bf 19 [] []
theorem asF{A:af}{g1:Nat}{bQ:List D}{a:Int}(h:ae [.f A a false]):
 aY (ap f182 0) (vS A g1 bQ a) (.exit 0) Q9:=
 h.aT [] []
theorem asG{A:af}{g1:Nat}{bQ:List D}{a:Int}(h:ae [.l [] [8,7,1,0] [] (ap f182 0) (vS A g1 bQ 0) .ret (JT a)]):
 al 182 [aO 2 A,.one (.a8 g1 bQ)] [ag a]:=
 h.of
theorem asH{A:af}{g1:Nat}{bQ:List D}(h:ae [.l [] [8,7,1,0] [] (ap f182 0) (vS A g1 bQ 0) (.exit 0) Q9]):
 al 182 [aO 2 A,.one (.a8 g1 bQ)] [ag (-1)]:=
 h.of
def vT(A:af)(g1:Nat)(bQ:List D)(a:Int):aF:=bf 19 [(0,du 3 A),(1,.aC (.one (.fd (D.a8 g1 bQ)))),(7,aU (A.length:Int)),(8,aU a)] []
def JU(a:Int):aF:=bf 19 [(4,aU a)] []
theorem asI{A:af}{g1:Nat}{bQ:List D}{a b c:Int}{q r:Bool}(h:ae [.i A a [I b,I c,B q],.p (hj prog g1=true),.r g1 ([.agg [I b,I c,B q]]++List.map .one bQ) [ai r],.b r true]):
 aY (ap f39 0) (vT A g1 bQ a) .ret (JU a):=
 h.aT [4] []
theorem asJ{A:af}{g1:Nat}{bQ:List D}{a b c:Int}{q r:Bool}(h:ae [.i A a [I b,I c,B q],.p (hj prog g1=true),.r g1 ([.agg [I b,I c,B q]]++List.map .one bQ) [ai r],.b r false,.u a]):
 aY (ap f39 0) (vT A g1 bQ a) .normal (vT A g1 bQ (a+1)):=
 h.aT [8,7,1,0] []
def SA:aF:=bf 19 [] []
theorem asK{A:af}{g1:Nat}{bQ:List D}{a:Int}(h:ae [.f A a false]):
 aY (ap f39 0) (vT A g1 bQ a) (.exit 0) SA:=
 h.aT [] []
theorem asL{A:af}{g1:Nat}{bQ:List D}{a:Int}(h:ae [.l [] [8,7,1,0] [] (ap f39 0) (vT A g1 bQ 0) .ret (JU a)]):
 al 39 [aO 3 A,.one (.a8 g1 bQ)] [ag a]:=
 h.of
theorem asM{A:af}{g1:Nat}{bQ:List D}(h:ae [.l [] [8,7,1,0] [] (ap f39 0) (vT A g1 bQ 0) (.exit 0) SA]):
 al 39 [aO 3 A,.one (.a8 g1 bQ)] [ag (-1)]:=
 h.of
def vU(A:af)(g1:Nat)(bQ:List D)(a:Int):aF:=bf 19 [(0,du 4 A),(1,.aC (.one (.fd (D.a8 g1 bQ)))),(7,aU (A.length:Int)),(8,aU a)] []
def JV(a:Int):aF:=bf 19 [(4,aU a)] []
def jC(A:af)(a b c d e:Int)(l:List O):List O:=.i A a [I b,I c,I d,I e]::l
theorem asN{A:af}{g1:Nat}{bQ:List D}{a b c d e:Int}{q:Bool}(h:ae (jC A a b c d e [.p (hj prog g1=true),.r g1 ([.agg [I b,I c,I d,I e]]++List.map .one bQ) [ai q],.b q true])):
 aY (ap f234 0) (vU A g1 bQ a) .ret (JV a):=
 h.aT [4] []
theorem asO{A:af}{g1:Nat}{bQ:List D}{a b c d e:Int}{q:Bool}(h:ae (jC A a b c d e [.p (hj prog g1=true),.r g1 ([.agg [I b,I c,I d,I e]]++List.map .one bQ) [ai q],.b q false,.u a])):
 aY (ap f234 0) (vU A g1 bQ a) .normal (vU A g1 bQ (a+1)):=
 h.aT [8,7,1,0] []
def SB:aF:=bf 19 [] []
theorem asP{A:af}{g1:Nat}{bQ:List D}{a:Int}(h:ae [.f A a false]):
 aY (ap f234 0) (vU A g1 bQ a) (.exit 0) SB:=
 h.aT [] []
theorem asQ{A:af}{g1:Nat}{bQ:List D}{a:Int}(h:ae [.l [] [8,7,1,0] [] (ap f234 0) (vU A g1 bQ 0) .ret (JV a)]):
 al 234 [aO 4 A,.one (.a8 g1 bQ)] [ag a]:=
 h.of
theorem asR{A:af}{g1:Nat}{bQ:List D}(h:ae [.l [] [8,7,1,0] [] (ap f234 0) (vU A g1 bQ 0) (.exit 0) SB]):
 al 234 [aO 4 A,.one (.a8 g1 bQ)] [ag (-1)]:=
 h.of
theorem asS{A:af}{g1:Nat}{bQ:List D}{a:Int}(h:ae [.r 212 [aO 5 A,.one (.a8 g1 bQ)] [ag a]]):
 al 191 [aO 5 A,.one (.a8 g1 bQ)] [ai (decide (a>=0))]:=
 h.of
theorem asT{A:af}{g1:Nat}{bQ:List D}{a:Int}(h:ae [.r 182 [aO 2 A,.one (.a8 g1 bQ)] [ag a]]):
 al 133 [aO 2 A,.one (.a8 g1 bQ)] [ai (decide (a>=0))]:=
 h.of
end Go.Proofs.YthfnndblgbjniaaGreatDoor
namespace Go.Proofs.YthfnndblgbjniaaGreatDoor
open Go.Sx Go.RowKit Go.Proofs.Tryz
variable {a b c d e f g i j k l m n o p a0 b6 cS d0 bz f0 : Int} {A C E F G H ah K : af} {q r : Bool}
def FE(A:af)(l:List O):List O:=.g ([]:af) A 32::.h A::l
theorem asU(h:ae (FE A [])):
 al 127 [aO 4 A] [aO 4 ([]++A)]:=
 h.of
theorem asV(h:ae [.r 230 [aO 4 A,.agg [I a,I b,I c,I d]] [ai q]]):
 al 211 [aO 4 A,.agg [I a,I b,I c,I d]] [ai q]:=
 h.of
theorem asW(h:ae [.r 203 [.one (.J 1 [[I b],[I a],[I c],[I d]]),.one (.J 1 [[I f],[I e],[I g],[I i]])] [ag j]]):
 al 179 [.agg [I a,I b,I c,I d],.agg [I e,I f,I g,I i]] [ag j]:=
 h.of
theorem asn(h:ae [.r 237 [aO 4 A,.agg [I a,I b,I c,I d]] [ag e]]):
 al 230 [aO 4 A,.agg [I a,I b,I c,I d]] [ai (decide (e>=0))]:=
 h.of
def vV(A:af)(a b c d e:Int):aF:=bf 19 [(0,du 4 A),(3,aS 3),(7,aU (A.length:Int)),(8,aU e)] [(3,[au a,au b,au c,au d])]
def JW(a:Int):aF:=bf 19 [(4,aU a)] []
theorem aso(h:ae (jC A a f g i j [.b (b==f&&(c==g&&(d==i&&e==j))) true])):
 aY (ap f237 0) (vV A b c d e a) .ret (JW a):=
 h.aT [4] []
theorem asp(h:ae (jC A a f g i j [.b (b==f&&(c==g&&(d==i&&e==j))) false,.u a])):
 aY (ap f237 0) (vV A b c d e a) .normal (vV A b c d e (a+1)):=
 h.aT [8,7,3,0] [3]
def SC:aF:=bf 19 [] []
theorem asq(h:ae [.f A a false]):
 aY (ap f237 0) (vV A b c d e a) (.exit 0) SC:=
 h.aT [] []
theorem asr(h:ae [.l [] [8,7,3,0] [3] (ap f237 0) (vV A a b c d 0) .ret (JW e)]):
 al 237 [aO 4 A,.agg [I a,I b,I c,I d]] [ag e]:=
 h.of
theorem ass(h:ae [.l [] [8,7,3,0] [3] (ap f237 0) (vV A a b c d 0) (.exit 0) SC]):
 al 237 [aO 4 A,.agg [I a,I b,I c,I d]] [ag (-1)]:=
 h.of
theorem ast(h:ae [.r 127 [aO 4 A] [aO 4 C],.r 211 [aO 4 A,.agg [I a,I b,I c,I d]] [ai q],.b q true]):
 al 210 [aO 4 A,.agg [I a,I b,I c,I d]] [aO 4 C]:=
 h.of
def vW(A:af)(a b c d:Int)(C:af)(e:Int):aF:=bf 33 [(0,du 4 A),(3,aS 3),(5,aG.aC (bl.one (aw 90000 4 C))),(6,aU e)] [(3,[au a,au b,au c,au d])]
theorem asu(h:ae (jC A a j k f g [.r 179 [.agg [I j,I k,I f,I g],.agg [I b,I c,I d,I e]] [ag i],.b (decide (i<0)) true,.u a])):
 aY (ap f210 0) (vW A b c d e C a) .normal (vW A b c d e C (a+1)):=
 h.aT [6,0,3,5] [3]
def Al(a b c d:Int)(A:af)(e:Int):aF:=bf 33 [(3,aS 3),(5,aG.aC (bl.one (aw 90000 4 A))),(6,aU e)] [(3,[au a,au b,au c,au d])]
theorem asv(h:ae (jC A e j k f g [.r 179 [.agg [I j,I k,I f,I g],.agg [I a,I b,I c,I d]] [ag i],.b (decide (i<0)) false])):
 aY (ap f210 0) (vW A a b c d C e) (.exit 0) (Al a b c d C e):=
 h.aT [5,6,3] [3]
theorem asw(h:ae [.f A a false]):
 aY (ap f210 0) (vW A b c d e C a) (.exit 0) (Al b c d e C a):=
 h.aT [5,6,3] [3]
theorem atY(h:ae [.r 127 [aO 4 A] [aO 4 C],.r 211 [aO 4 A,.agg [I a,I b,I c,I d]] [ai q],.b q false,.l [] [6,0,3,5] [3] (ap f210 0) (vW A a b c d C 0) (.exit 0) (Al a b c d C e),.a (.qH [[some none],[none],[some none]] 0 [] [aO 4 E]),.p (kl prog 229 [GA.one (eL.e3 4 C none),GA.one (eL.ro (I e)),GA.one (eL.e3 4 [[I a,I b,I c,I d]] none)] [aO 4 E])]):
 al 210 [aO 4 A,.agg [I a,I b,I c,I d]] [aO 4 E]:=
 h.of
theorem SD(h:ae [.v ((A.length:Int)-1),.r 64 [ag a,ag 0,ag ((A.length:Int)-1)] [ai q]]):
 al 132 [.agg (bq A b c),ag a] [ai q]:=
 h.of
theorem atZ(h:ae [.b (a==d) true,.b (b==e) true]):
 al 228 [.agg [I a,I b,I c,I g],.agg [I d,I e,I f,I i]] [ai (c==f)]:=
 h.of
theorem at0(h:ae [.b (a==c) true,.b (b==d) false]):
 al 228 [.agg [I a,I b,I e,I f],.agg [I c,I d,I g,I i]] [ai false]:=
 h.of
theorem at1(h:ae [.b (a==b) false]):
 al 228 [.agg [I a,I c,I d,I e],.agg [I b,I f,I g,I i]] [ai false]:=
 h.of
theorem at2(h:ae [.r 228 [.agg [I e,I f,I g,I i],.agg [I a,I b,I c,I d]] [ai q]]):
 al 227 [.agg [I a,I b,I c,I d],.one (.ptr [I e,I f,I g,I i])] [ai q]:=
 h.of
theorem at3{A:af}{g1:Nat}{bQ:List D}{a:Int}(h:ae [.r 234 [aO 4 A,.one (.a8 g1 bQ)] [ag a],.b (a==-1) true]):
 NL 226 [GA.one (eL.e3 4 A none),GA.one (eL.ro (D.a8 g1 bQ))] [aO 4 A]:=
 h.Pn
def uw(g0:Nat)(c7:List D)(a b:Int)(A:af):aF:=bf 42 [(0,aG.aC (bl.one (aw 1000000000 4 A))),(1,.aC (.one (.fd (D.a8 g0 c7)))),(5,aU b),(6,aU a)] []
theorem at4{g1:Nat}{bQ:List D}{b a:Int}{A:af}{d e f c:Int}{q:Bool}{d12 d13 d14 d15:D}(h:ae (jC A b d e f c [.p (hj prog g1=true),.r g1 ([.agg [I d,I e,I f,I c]]++List.map .one bQ) [ai q],.n q true,.x A a [d12,d13,d14,d15],.u a,.u b])):
 aY (ap f226 0) (uw g1 bQ b a A) .normal (uw g1 bQ (b+1) (a+1) (A.set a.toNat [I d,I e,I f,I c])):=
 h.aT [6,0,1,5] []
theorem at5{g1:Nat}{bQ:List D}{a c:Int}{A:af}{d e f b:Int}{q:Bool}(h:ae (jC A a d e f b [.p (hj prog g1=true),.r g1 ([.agg [I d,I e,I f,I b]]++List.map .one bQ) [ai q],.n q false,.u a])):
 aY (ap f226 0) (uw g1 bQ a c A) .normal (uw g1 bQ (a+1) c A):=
 h.aT [6,0,1,5] []
def JX(A:af)(a:Int):aF:=bf 42 [(0,aG.aC (bl.one (aw 1000000000 4 A))),(5,aU a)] []
theorem at6{g1:Nat}{bQ:List D}{a b:Int}{A:af}(h:ae [.f A a false]):
 aY (ap f226 0) (uw g1 bQ a b A) (.exit 0) (JX A b):=
 h.aT [0,5] []
theorem at7{C:af}{g1:Nat}{bQ:List D}{b:Int}{A:af}{a:Int}(h:ae [.r 234 [aO 4 C,.one (.a8 g1 bQ)] [ag b],.b (b==-1) false,.u b,.l [] [6,0,1,5] [] (ap f226 0) (uw g1 bQ (b+1) b C) (.exit 0) (JX A a),.a .own,.p (0<=(some a).getD 0),.p ((some a).getD 0<(A.length:Int)),.h A,.p ((0:Int)<=none.getD 0),.p (none.getD 0<=(some a).getD (↑(List.take ((some a).getD 0).toNat A++List.replicate (A.length-((some a).getD 0).toNat) [I 0,I 0,I 0,I 0]).length:Int)),.p ((some a).getD (↑(List.take ((some a).getD 0).toNat A++List.replicate (A.length-((some a).getD 0).toNat) [I 0,I 0,I 0,I 0]).length:Int)<=(↑(List.take ((some a).getD 0).toNat A++List.replicate (A.length-((some a).getD 0).toNat) [I 0,I 0,I 0,I 0]).length:Int))]):
 NL 226 [GA.one (eL.e3 4 C none),GA.one (eL.ro (D.a8 g1 bQ))] [.one (.J 4 (List.take (((some a).getD (↑(List.take ((some a).getD 0).toNat A++List.replicate (A.length-((some a).getD 0).toNat) [I 0,I 0,I 0,I 0]).length:Int)).toNat-0) (List.drop 0 (List.take ((some a).getD 0).toNat A++List.replicate (A.length-((some a).getD 0).toNat) [I 0,I 0,I 0,I 0]))))]:=
 h.Pn
def oz(A:af)(a b c d:Int)(q:Bool)(e:Int):aF:=bf 41 [(1,aU a),(2,aU b),(3,aU c),(10,aU e),(11,.aC (.one (.bg q))),(14,du 4 A),(15,aU (A.length:Int)),(16,aU d)] []
def FD(A:af)(a b c d e f g i:Int)(q:Bool)(l:List O):List O:=jC A a b c d e (.r 228 [.agg [I b,I c,I d,I e],.agg [I f,I g,I i,I 0]] [ai q]::l)
theorem aua(h:ae (FD A a f g i c b d e q [.b q true,.n r true,.u a])):
 aY (ap f225 0) (oz A b d e a r j) .normal (oz A b d e (a+1) true c):=
 h.aT [16,15,14,1,2,3,11,10] []
theorem aub(h:ae (FD A b g i j a c d e q [.b q true,.n r false,.b (decide (a<f)) true,.u b])):
 aY (ap f225 0) (oz A c d e b r f) .normal (oz A c d e (b+1) true a):=
 h.aT [16,15,14,1,2,3,11,10] []
theorem auc(h:ae (FD A a g i j c b d e r [.b r true,.n q false,.b (decide (c<f)) false,.u a])):
 aY (ap f225 0) (oz A b d e a q f) .normal (oz A b d e (a+1) q f):=
 h.aT [16,15,14,1,2,3,11,10] []
theorem aud(h:ae (FD A a g i j e b c d q [.b q false,.u a])):
 aY (ap f225 0) (oz A b c d a r f) .normal (oz A b c d (a+1) r f):=
 h.aT [16,15,14,1,2,3,11,10] []
def SE(a:Int)(q:Bool):aF:=bf 41 [(10,aU a),(11,.aC (.one (.bg q)))] []
theorem aue(h:ae [.f A a false]):
 aY (ap f225 0) (oz A c d e a q b) (.exit 0) (SE b q):=
 h.aT [10,11] []
theorem auf(h:ae [.l [] [16,15,14,1,2,3,11,10] [] (ap f225 0) (oz A a b c 0 false 0) (.exit 0) (SE d q)]):
 al 225 [aO 4 A,ag a,ag b,ag c] [ag d,ai q]:=
 h.of
theorem aug(h:ae [.r 225 [aO 4 A,ag a,ag b,ag c] [ag e,ai q],.b q true,.b (decide (e<=d)) true,.r 127 [aO 4 A] [aO 4 C]]):
 al 209 [aO 4 A,.agg [I a,I b,I c,I d]] [aO 4 C,ai false]:=
 h.of
theorem auh(h:ae [.r 225 [aO 4 A,ag a,ag b,ag c] [ag e,ai q],.b q true,.b (decide (e<=d)) false,.r 127 [aO 4 A] [aO 4 F],.a (.qH [[some none],[none]] 0 [] [aO 4 C]),.p (kl prog 226 [GA.one (eL.e3 4 F none),GA.one (eL.ro (D.a8 227 [D.ptr [I a,I b,I c,I d]]))] [aO 4 C]),.r 210 [aO 4 C,.agg [I a,I b,I c,I d]] [aO 4 E]]):
 al 209 [aO 4 A,.agg [I a,I b,I c,I d]] [aO 4 E,ai true]:=
 h.of
theorem aui(h:ae [.r 225 [aO 4 A,ag a,ag b,ag c] [ag e,ai q],.b q false,.r 127 [aO 4 A] [aO 4 F],.a (.qH [[some none],[none]] 0 [] [aO 4 C]),.p (kl prog 226 [GA.one (eL.e3 4 F none),GA.one (eL.ro (D.a8 227 [D.ptr [I a,I b,I c,I d]]))] [aO 4 C]),.r 210 [aO 4 C,.agg [I a,I b,I c,I d]] [aO 4 E]]):
 al 209 [aO 4 A,.agg [I a,I b,I c,I d]] [aO 4 E,ai true]:=
 h.of
theorem auj(h:ae [.b (a==5) true,.b (a==5) true,.r 209 [aO 4 A,.agg [I b,I c,I d,I e]] [aO 4 C,ai q]]):
 al 189 [ag a,aO 4 A,.agg [I b,I c,I d,I e]] [aO 4 C,ai q]:=
 h.of
theorem auk(h:ae [.b (a==5) false,.b (a==8) true,.r 209 [aO 4 A,.agg [I b,I c,I d,I e]] [aO 4 C,ai q]]):
 al 189 [ag a,aO 4 A,.agg [I b,I c,I d,I e]] [aO 4 C,ai q]:=
 h.of
theorem aul(h:ae [.b (a==5) false,.b (a==8) false,.b (a==6) true,.r 210 [aO 4 A,.agg [I b,I c,I d,I e]] [aO 4 C],.r 211 [aO 4 A,.agg [I b,I c,I d,I e]] [ai q]]):
 al 189 [ag a,aO 4 A,.agg [I b,I c,I d,I e]] [aO 4 C,.one (B !q)]:=
 h.of
theorem aum(h:ae [.b (a==5) false,.b (a==8) false,.b (a==6) false,.r 127 [aO 4 A] [aO 4 C]]):
 al 189 [ag a,aO 4 A,.agg [I b,I c,I d,I e]] [aO 4 C,ai true]:=
 h.of
def vX(a b c d e:Int):aF:=bf 41 [(5,.aC (.one (.J (.own 27) 1 [[I a],[I b],[I c],[I d]]))),(6,aU e)] []
def JY(a:Int):aF:=bf 41 [(4,aU a)] []
theorem aun(h:ae [.b (decide (a<4)) true,.x [[I d],[I e],[I b],[I c]] a [I f],.b (f != 0) true,.x [[I d],[I e],[I b],[I c]] a [I g]]):
 aY (ap f204 0) (vX d e b c a) .ret (JY g):=
 h.aT [4] []
theorem auo(h:ae [.b (decide (a<4)) true,.x [[I d],[I e],[I b],[I c]] a [I f],.b (f != 0) false,.u a]):
 aY (ap f204 0) (vX d e b c a) .normal (vX d e b c (a+1)):=
 h.aT [6,5] []
def SF:aF:=bf 41 [] []
theorem aup(h:ae [.b (decide (a<4)) false]):
 aY (ap f204 0) (vX d e b c a) (.exit 0) SF:=
 h.aT [] []
theorem atx(h:ae [.r 219 [ag b,ag j] [ag m],.r 219 [ag a,ag i] [ag n],.r 219 [ag f,ag k] [ag c],.r 219 [ag g,ag l] [ag d],.l [] [6,5] [] (ap f204 0) (vX m n c d 0) .ret (JY e)]):
 al 204 [.agg [I a,I b,I f,I g],.agg [I i,I j,I k,I l]] [ag e]:=
 h.of
theorem aty(h:ae [.r 219 [ag b,ag i] [ag l],.r 219 [ag a,ag g] [ag m],.r 219 [ag e,ag j] [ag c],.r 219 [ag f,ag k] [ag d],.l [] [6,5] [] (ap f204 0) (vX l m c d 0) (.exit 0) SF]):
 al 204 [.agg [I a,I b,I e,I f],.agg [I g,I i,I j,I k]] [ag 0]:=
 h.of
def vY(A:af)(a b c d e:Int):aF:=bf 18 [(0,du 4 A),(3,aS 3),(5,aU e)] [(3,[au a,au b,au c,au d])]
def JZ(q:Bool):aF:=bf 18 [(4,.aC (.one (.bg q)))] []
theorem atz(h:ae (jC A e f g i j [.b (f==a&&(g==b&&(i==c&&j==d))) true])):
 aY (ap f214 0) (vY A a b c d e) .ret (JZ true):=
 h.aT [4] []
theorem atA(h:ae (jC A a f g i j [.b (f==b&&(g==c&&(i==d&&j==e))) false,.u a])):
 aY (ap f214 0) (vY A b c d e a) .normal (vY A b c d e (a+1)):=
 h.aT [5,0,3] [3]
def SG:aF:=bf 18 [] []
theorem atB(h:ae [.f A a false]):
 aY (ap f214 0) (vY A b c d e a) (.exit 0) SG:=
 h.aT [] []
theorem atC(h:ae [.l [] [5,0,3] [3] (ap f214 0) (vY A a b c d 0) .ret (JZ q)]):
 al 214 [aO 4 A,.agg [I a,I b,I c,I d]] [ai q]:=
 h.of
theorem atD(h:ae [.l [] [5,0,3] [3] (ap f214 0) (vY A a b c d 0) (.exit 0) SG]):
 al 214 [aO 4 A,.agg [I a,I b,I c,I d]] [ai false]:=
 h.of
theorem atE(h:ae [.r 214 [aO 4 A,.agg [I a,I b,I c,I d]] [ai q],.b q true,.g ([]:af) A 32,.h A]):
 al 215 [aO 4 A,.agg [I a,I b,I c,I d]] [aO 4 ([]++A)]:=
 h.of
def vZ(A:af)(a b c d e:Int):aF:=bf 41 [(0,du 4 A),(3,aS 3),(5,aU e)] [(3,[au a,au b,au c,au d])]
theorem atF(h:ae (jC A a i j k f [.r 204 [.agg [I i,I j,I k,I f],.agg [I b,I c,I d,I e]] [ag g],.b (decide (g<0)) true,.u a])):
 aY (ap f215 0) (vZ A b c d e a) .normal (vZ A b c d e (a+1)):=
 h.aT [5,0,3] [3]
def Am(A:af)(a b c d e:Int):aF:=bf 41 [(0,du 4 A),(3,aS 3),(5,aU e)] [(3,[au a,au b,au c,au d])]
theorem atG(h:ae (jC A e i j k f [.r 204 [.agg [I i,I j,I k,I f],.agg [I a,I b,I c,I d]] [ag g],.b (decide (g<0)) false])):
 aY (ap f215 0) (vZ A a b c d e) (.exit 0) (Am A a b c d e):=
 h.aT [0,5,3] [3]
theorem atH(h:ae [.f A a false]):
 aY (ap f215 0) (vZ A b c d e a) (.exit 0) (Am A b c d e a):=
 h.aT [0,5,3] [3]
theorem atI(h:ae [.r 214 [aO 4 A,.agg [I b,I c,I d,I e]] [ai q],.b q false,.l [] [5,0,3] [3] (ap f215 0) (vZ A b c d e 0) (.exit 0) (Am A b c d e a),.p ((0:Int)<=none.getD 0),.p (none.getD 0<=(some a).getD (A.length:Int)),.p ((some a).getD (A.length:Int)<=(A.length:Int)),.p ((([]:af).length+(List.take (((some a).getD (A.length:Int)).toNat-0) (List.drop 0 A)).length)*32<=140737488355328),.p (([]:af).length+(List.take (((some a).getD (A.length:Int)).toNat-0) (List.drop 0 A)).length<=9223372036854775807),.p (Flat (List.take (((some a).getD (A.length:Int)).toNat-0) (List.drop 0 A))),.p ((([]++List.take (((some a).getD (A.length:Int)).toNat-0) (List.drop 0 A)).length+[[I b,I c,I d,I e]].length)*32<=140737488355328),.p (([]++List.take (((some a).getD (A.length:Int)).toNat-0) (List.drop 0 A)).length+[[I b,I c,I d,I e]].length<=9223372036854775807),.h [[I b,I c,I d,I e]],.p (0<=(some a).getD 0),.p ((some a).getD 0<=none.getD (A.length:Int)),.p (none.getD (A.length:Int)<=(A.length:Int)),.p ((([]++List.take (((some a).getD (A.length:Int)).toNat-0) (List.drop 0 A)++[[I b,I c,I d,I e]]).length+(List.take (A.length-((some a).getD 0).toNat) (List.drop ((some a).getD 0).toNat A)).length)*32<=140737488355328),.p (([]++List.take (((some a).getD (A.length:Int)).toNat-0) (List.drop 0 A)++[[I b,I c,I d,I e]]).length+(List.take (A.length-((some a).getD 0).toNat) (List.drop ((some a).getD 0).toNat A)).length<=9223372036854775807),.p (Flat (List.take (A.length-((some a).getD 0).toNat) (List.drop ((some a).getD 0).toNat A)))]):
 al 215 [aO 4 A,.agg [I b,I c,I d,I e]] [.one (.J 4 ([]++List.take (((some a).getD (A.length:Int)).toNat-0) (List.drop 0 A)++[[I b,I c,I d,I e]]++List.take (A.length-((some a).getD 0).toNat) (List.drop ((some a).getD 0).toNat A)))]:=
 h.of
theorem atJ(h:ae [.v ((A.length:Int)-1),.r 65 [ag a,ag 0,ag ((A.length:Int)-1)] [ai q],.n q true]):
 al 194 [.agg (bq A b c),ag a] [.agg (bk 0 0 0 []),ai false]:=
 h.of
theorem atK(h:ae [.v ((A.length:Int)-1),.r 65 [ag a,ag 0,ag ((A.length:Int)-1)] [ai q],.n q false,.x A a (bk b c d C),.g ([]:af) C 8,.h C]):
 al 194 [.agg (bq A e f),ag a] [.agg (bk b c d ([]++C)),ai true]:=
 h.of
def lB(A:af)(a b c d:Int)(q:Bool)(e:Int):aF:=bf 54 [(0,du 4 A),(1,aU a),(2,aU b),(3,aU c),(10,aU e),(11,.aC (.one (.bg q))),(12,aU d)] []
theorem atL(h:ae (jC A a f g i e [.b (f==b) true,.b (g==c) true,.b (i==d) true,.n q true,.u a])):
 aY (ap f216 0) (lB A b c d a q j) .normal (lB A b c d (a+1) true e):=
 h.aT [12,0,1,2,3,11,10] []
theorem atM(h:ae (jC A a g i j c [.b (g==b) true,.b (i==d) true,.b (j==e) true,.n q false,.b (decide (c<f)) true,.u a])):
 aY (ap f216 0) (lB A b d e a q f) .normal (lB A b d e (a+1) true c):=
 h.aT [12,0,1,2,3,11,10] []
theorem atN(h:ae (jC A a g i j f [.b (g==b) true,.b (i==c) true,.b (j==d) true,.n q false,.b (decide (f<e)) false,.u a])):
 aY (ap f216 0) (lB A b c d a q e) .normal (lB A b c d (a+1) q e):=
 h.aT [12,0,1,2,3,11,10] []
theorem atO(h:ae (jC A a f g i j [.b (f==b) true,.b (g==c) true,.b (i==d) false,.u a])):
 aY (ap f216 0) (lB A b c d a q e) .normal (lB A b c d (a+1) q e):=
 h.aT [12,0,1,2,3,11,10] []
theorem atP(h:ae (jC A a f g j i [.b (f==b) true,.b (g==c) false,.u a])):
 aY (ap f216 0) (lB A b c d a q e) .normal (lB A b c d (a+1) q e):=
 h.aT [12,0,1,2,3,11,10] []
theorem atQ(h:ae (jC A a f i j g [.b (f==b) false,.u a])):
 aY (ap f216 0) (lB A b c d a q e) .normal (lB A b c d (a+1) q e):=
 h.aT [12,0,1,2,3,11,10] []
def SH(a:Int)(q:Bool):aF:=bf 54 [(10,aU a),(11,.aC (.one (.bg q)))] []
theorem atS(h:ae [.f A a false]):
 aY (ap f216 0) (lB A c d e a q b) (.exit 0) (SH b q):=
 h.aT [10,11] []
theorem atT(h:ae [.l [] [12,0,1,2,3,11,10] [] (ap f216 0) (lB A a b c 0 false 0) (.exit 0) (SH d q)]):
 al 216 [aO 4 A,ag a,ag b,ag c] [ag d,ai q]:=
 h.of
theorem atU(h:ae [.b (a==5) true]):
 al 196 [ag a] [ai true]:=
 h.of
theorem atV(h:ae [.b (a==5) false,.b (a==6) true]):
 al 196 [ag a] [ai true]:=
 h.of
theorem atW(h:ae [.b (a==5) false,.b (a==6) false]):
 al 196 [ag a] [ai (a==8)]:=
 h.of
theorem atX(h:ae (FE A [.b (a==6) true,.r 214 [aO 4 A,.agg [I b,I c,I d,I e]] [ai q],.b q true])):
 al 197 [ag a,aO 4 A,.agg [I b,I c,I d,I e]] [aO 4 ([]++A),ai false]:=
 h.of
theorem atn(h:ae (FE A [.b (e==6) true,.r 214 [aO 4 A,.agg [I a,I b,I c,I d]] [ai q],.b q false,.r 215 [aO 4 A,.agg [I a,I b,I c,I d]] [aO 4 C]])):
 al 197 [ag e,aO 4 A,.agg [I a,I b,I c,I d]] [aO 4 C,ai true]:=
 h.of
def My(A:af)(a:Int)(l:List O):List O:=FE A (.b (a==6) false::l)
def Mz(A:af)(a b c d e:Int)(q:Bool)(l:List O):List O:=My A a (.b (a==5) true::.b (a==5) true::.r 216 [aO 4 A,ag b,ag c,ag d] [ag e,ai q]::l)
theorem ato(h:ae (Mz A a b c d f q [.b q true,.b (decide (f<=e)) true])):
 al 197 [ag a,aO 4 A,.agg [I b,I c,I d,I e]] [aO 4 ([]++A),ai false]:=
 h.of
def lC(A:af)(a b c d e:Int)(C:af):aF:=bf 94 [(1,du 4 A),(5,aS 5),(11,aG.aC (bl.one (aw 48 4 C))),(12,aU e)] [(5,[au a,au b,au c,au d])]
theorem atp(h:ae (jC A a g l m n [.b (g != f) true,.x A a [I b,I c,I d,I e],.g C [[I b,I c,I d,I e]] 32,.h [[I b,I c,I d,I e]],.u a])):
 aY (ap f197 0) (lC A f i j k a C) .normal (lC A f i j k (a+1) (C++[[I b,I c,I d,I e]])):=
 h.aT [12,1,5,11] [5]
theorem atq(h:ae (jC A a i m n o [.b (i != f) false,.x A a [I p,I j,I a0,I b6],.b (j != g) true,.x A a [I b,I c,I d,I e],.g C [[I b,I c,I d,I e]] 32,.h [[I b,I c,I d,I e]],.u a])):
 aY (ap f197 0) (lC A f g k l a C) .normal (lC A f g k l (a+1) (C++[[I b,I c,I d,I e]])):=
 h.aT [12,1,5,11] [5]
theorem atr(h:ae (jC A a j n o p [.b (j != f) false,.x A a [I a0,I k,I b6,I cS],.b (k != g) false,.x A a [I d0,I bz,I l,I f0],.b (l != i) true,.x A a [I b,I c,I d,I e],.g C [[I b,I c,I d,I e]] 32,.h [[I b,I c,I d,I e]],.u a])):
 aY (ap f197 0) (lC A f g i m a C) .normal (lC A f g i m (a+1) (C++[[I b,I c,I d,I e]])):=
 h.aT [12,1,5,11] [5]
theorem ats(h:ae (jC A a e j k l [.b (e != b) false,.x A a [I m,I f,I n,I o],.b (f != c) false,.x A a [I p,I a0,I g,I b6],.b (g != d) false,.u a])):
 aY (ap f197 0) (lC A b c d i a C) .normal (lC A b c d i (a+1) C):=
 h.aT [12,1,5,11] [5]
def xF(a b c d:Int)(A:af):aF:=bf 94 [(5,aS 5),(11,aG.aC (bl.one (aw 48 4 A)))] [(5,[au a,au b,au c,au d])]
theorem att(h:ae [.f A e false]):
 aY (ap f197 0) (lC A a b c d e C) (.exit 1) (xF a b c d C):=
 h.aT [11,5] [5]
theorem atu(h:ae (Mz A e a b c f q [.b q true,.b (decide (f<=d)) false,.l [] [12,1,5,11] [5] (ap f197 0) (lC A a b c d 0 []) (.exit 1) (xF a b c d C),.r 215 [aO 4 C,.agg [I a,I b,I c,I d]] [aO 4 E]])):
 al 197 [ag e,aO 4 A,.agg [I a,I b,I c,I d]] [aO 4 E,ai true]:=
 h.of
theorem atv(h:ae (Mz A d a b c f q [.b q false,.l [] [12,1,5,11] [5] (ap f197 0) (lC A a b c e 0 []) (.exit 1) (xF a b c e C),.r 215 [aO 4 C,.agg [I a,I b,I c,I e]] [aO 4 E]])):
 al 197 [ag d,aO 4 A,.agg [I a,I b,I c,I e]] [aO 4 E,ai true]:=
 h.of
def MA(A:af)(a b c d e:Int)(q:Bool)(l:List O):List O:=My A a (.b (a==5) false::.b (a==8) true::.r 216 [aO 4 A,ag b,ag c,ag d] [ag e,ai q]::l)
theorem atw(h:ae (MA A a b c d f q [.b q true,.b (decide (f<=e)) true])):
 al 197 [ag a,aO 4 A,.agg [I b,I c,I d,I e]] [aO 4 ([]++A),ai false]:=
 h.of
theorem au1(h:ae (MA A e a b c f q [.b q true,.b (decide (f<=d)) false,.l [] [12,1,5,11] [5] (ap f197 0) (lC A a b c d 0 []) (.exit 1) (xF a b c d C),.r 215 [aO 4 C,.agg [I a,I b,I c,I d]] [aO 4 E]])):
 al 197 [ag e,aO 4 A,.agg [I a,I b,I c,I d]] [aO 4 E,ai true]:=
 h.of
theorem au2(h:ae (MA A d a b c f q [.b q false,.l [] [12,1,5,11] [5] (ap f197 0) (lC A a b c e 0 []) (.exit 1) (xF a b c e C),.r 215 [aO 4 C,.agg [I a,I b,I c,I e]] [aO 4 E]])):
 al 197 [ag d,aO 4 A,.agg [I a,I b,I c,I e]] [aO 4 E,ai true]:=
 h.of
theorem au3(h:ae (My A a [.b (a==5) false,.b (a==8) false])):
 al 197 [ag a,aO 4 A,.agg [I b,I c,I d,I e]] [aO 4 ([]++A),ai true]:=
 h.of
