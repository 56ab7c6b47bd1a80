import Derived.Test.YthfnndblgbjniaaGreatDoorGE
namespace Go.Proofs.YthfnndblgbjniaaGreatDoor
open Go.Sx Go.RowKit Go.Proofs.Tryz
variable {a b c d e f g i j k l m n o p a0 cj df d0 bD f0 : Int} {A C E F G H ah K L : ae} {q r s : Bool}
theorem al7(h:af [.g ([]:ae) A 40,.h A]):
 ax 126 [aY 5 A] [aY 5 ([]++A)]:=
 h.of
def w5(a b:Int)(l:List O):List O:=.b (decide (a<b)) true::l
theorem al8(h:af (w5 b a [])):
 ax 68 [ag c,ag a,ag b] [ag a]:=
 h.of
def tf(a b:Int)(l:List O):List O:=.b (decide (a<b)) false::l
theorem al9(h:af (tf c a [.b (decide (b<a)) true])):
 ax 68 [ag b,ag a,ag c] [ag a]:=
 h.of
theorem ama(h:af (tf a c [.b (decide (b<c)) false,.b (decide (b>a)) true])):
 ax 68 [ag b,ag c,ag a] [ag a]:=
 h.of
theorem amb(h:af (tf c b [.b (decide (a<b)) false,.b (decide (a>c)) false])):
 ax 68 [ag a,ag b,ag c] [ag a]:=
 h.of
def yw(a b:Int)(A:ae):aD:=bd 62 [(3,aE.az (bg.one (al 9 3 A))),(4,aU a),(5,aU b)] []
theorem amc(h:af (w5 a b [.g A [[I 1,I a,I 0],[I 3,I a,I 0],[I 2,I a,I 0],[I 7,I a,I 0]] 24,.h [[I 1,I a,I 0],[I 3,I a,I 0],[I 2,I a,I 0],[I 7,I a,I 0]],.u a])):
 aX (aq f31 0) (yw b a A) .normal (yw b (a+1) (A++[[I 1,I a,I 0],[I 3,I a,I 0],[I 2,I a,I 0],[I 7,I a,I 0]])):=
 h.aV [5,4,3] []
def Qe(a:Int)(A:ae):aD:=bd 62 [(3,aE.az (bg.one (al 9 3 A))),(4,aU a)] []
theorem amd(h:af (tf b a [])):
 aX (aq f31 0) (yw a b A) (.exit 0) (Qe a A):=
 h.aV [4,3] []
def y9(a b:Int)(A:ae):aD:=bd 62 [(3,aE.az (bg.one (al 9 3 A))),(4,aU a),(6,aU b)] []
def uW(a b c:Int)(A:ae):aD:=bd 62 [(3,aE.az (bg.one (al 9 3 A))),(4,aU a),(6,aU b),(7,aU c)] []
theorem aln(h:af (w5 a c [.b (b != a) true,.g A [[I 4,I b,I a],[I 5,I b,I a]] 24,.h [[I 4,I b,I a],[I 5,I b,I a]],.u a])):
 aX (aq f31 2) (uW c b a A) .normal (uW c b (a+1) (A++[[I 4,I b,I a],[I 5,I b,I a]])):=
 h.aV [7,4,6,3] []
theorem alo(h:af (w5 a b [.b (c != a) false,.u a])):
 aX (aq f31 2) (uW b c a A) .normal (uW b c (a+1) A):=
 h.aV [7,4,6,3] []
def Qf(a b:Int)(A:ae):aD:=bd 62 [(3,aE.az (bg.one (al 9 3 A))),(4,aU a),(6,aU b)] []
theorem alp(h:af (tf b a [])):
 aX (aq f31 2) (uW a c b A) (.exit 4) (Qf a c A):=
 h.aV [6,4,3] []
theorem alq(h:af (w5 a b [.l [] [7,4,6,3] [] (aq f31 2) (uW b a 0 A) (.exit 4) (Qf b a C),.u a])):
 aX (aq f31 1) (y9 b a A) .normal (y9 b (a+1) C):=
 h.aV [6,4,3] []
def Qg(A:ae):aD:=bd 62 [(3,aE.az (bg.one (al 9 3 A)))] []
theorem alr(h:af (tf b a [])):
 aX (aq f31 1) (y9 a b A) (.exit 2) (Qg A):=
 h.aV [3] []
def y'(a:Int)(A:ae):aD:=bd 62 [(3,aE.az (bg.one (al 9 3 A))),(8,aU a)] []
theorem als(h:af [.b (decide (a<=3)) true,.g A [[I 6,I a,I 0]] 24,.h [[I 6,I a,I 0]],.u a]):
 aX (aq f31 3) (y' a A) .normal (y' (a+1) (A++[[I 6,I a,I 0]])):=
 h.aV [8,3] []
def Qh(A:ae):aD:=bd 62 [(3,aE.az (bg.one (al 9 3 A)))] []
theorem alu(h:af [.b (decide (a<=3)) false]):
 aX (aq f31 3) (y' a A) (.exit 6) (Qh A):=
 h.aV [3] []
theorem alv(h:af [.r 68 [ag b,ag 0,ag 4] [ag a],.l [] [5,4,3] [] (aq f31 0) (yw a 0 []) (.exit 0) (Qe a C),.l [] [6,4,3] [] (aq f31 1) (y9 a 0 C) (.exit 2) (Qg E),.l [] [8,3] [] (aq f31 3) (y' 0 E) (.exit 6) (Qh A)]):
 ax 31 [.agg (bI F b c G H ah K)] [aY 3 A]:=
 h.of
theorem alw(h:af [.b (decide (a>=b)) true]):
 ax 64 [ag a,ag b,ag c] [ar (decide (a<=c))]:=
 h.of
theorem alx(h:af [.b (decide (a>=b)) false]):
 ax 64 [ag a,ag b,ag c] [ar false]:=
 h.of
theorem aly(h:af [.b (decide (a>=b)) true]):
 ax 65 [ag a,ag b,ag c] [ar (decide (a<=c))]:=
 h.of
theorem alz(h:af [.b (decide (a>=b)) false]):
 ax 65 [ag a,ag b,ag c] [ar false]:=
 h.of
theorem alA(h:af (w5 a b [])):
 ax 219 [ag a,ag b] [ag (-1)]:=
 h.of
theorem alB(h:af (tf a b [.b (decide (a>b)) true])):
 ax 219 [ag a,ag b] [ag 1]:=
 h.of
theorem alC(h:af (tf a b [.b (decide (a>b)) false])):
 ax 219 [ag a,ag b] [ag 0]:=
 h.of
theorem alD(a:Int)(h:af []):
 ax 238 [ag a] [ar (a != a)]:=
 h.of
def KY(a:Int)(q:Bool)(b:Int)(r:Bool)(l:List O):List O:=.r 238 [ag a] [ar q]::.r 238 [ag b] [ar r]::.b q false::.b r false::l
theorem alE(h:af (KY a q b r [.b (decide (a<b)) true])):
 ax 231 [ag a,ag b] [ag (-1)]:=
 h.of
theorem alF(h:af (KY a q b r [.b (decide (a<b)) false,.b (decide (a>b)) true])):
 ax 231 [ag a,ag b] [ag 1]:=
 h.of
theorem alG(h:af (KY a q b r [.b (decide (a<b)) false,.b (decide (a>b)) false])):
 ax 231 [ag a,ag b] [ag 0]:=
 h.of
def uX(A C:ae)(a:Int):aD:=bd 36 [(0,cQ 1 A),(1,cQ 1 C),(9,cQ 1 A),(10,aU (A.length:Int)),(11,aU a)] []
def Jq(a:Int):aD:=bd 36 [(4,aU a)] []
theorem alH(h:af [.i C a [I c],.b (decide (a>=(A.length:Int))) false,.x A a [I d],.r 231 [ag c,ag d] [ag b],.b (b != 0) true]):
 aX (aq f218 0) (uX C A a) .ret (Jq b):=
 h.aV [4] []
theorem alI(h:af [.i C a [I b],.b (decide (a>=(A.length:Int))) false,.x A a [I c],.r 231 [ag b,ag c] [ag d],.b (d != 0) false,.u a]):
 aX (aq f218 0) (uX C A a) .normal (uX C A (a+1)):=
 h.aV [11,10,9,1,0] []
def Qi(A C:ae):aD:=bd 36 [(0,cQ 1 A),(1,cQ 1 C)] []
theorem alJ(h:af [.f A a false]):
 aX (aq f218 0) (uX A C a) (.exit 0) (Qi A C):=
 h.aV [0,1] []
theorem alK(h:af [.l [] [11,10,9,1,0] [] (aq f218 0) (uX A C 0) .ret (Jq a)]):
 ax 218 [aY 1 A,aY 1 C] [ag a]:=
 h.of
theorem alL(h:af [.l [] [11,10,9,1,0] [] (aq f218 0) (uX A C 0) (.exit 0) (Qi A C),.f C (A.length:Int) false]):
 ax 218 [aY 1 A,aY 1 C] [ag 0]:=
 h.of
theorem alM(h:af [.r 218 [aY 1 A,aY 1 C] [ag a]]):
 ax 203 [aY 1 A,aY 1 C] [ag a]:=
 h.of
def uY(A:ae)(a b:Int)(C:ae):aD:=bd 30 [(0,cQ 5 A),(1,aU a),(5,aE.az (bg.one (al 7 5 C))),(6,aU b)] []
theorem alN(h:af [.i A a (bw j i k l m),.b (i==g) true,.x A a (bw f b c d e),.g C [(bw f b c d e)] 40,.h [(bw f b c d e)],.u a]):
 aX (aq f217 0) (uY A g a C) .normal (uY A g (a+1) (C++[(bw f b c d e)])):=
 h.aV [6,0,1,5] []
theorem alc(h:af [.i A a (bw d c e f g),.b (c==b) false,.u a]):
 aX (aq f217 0) (uY A b a C) .normal (uY A b (a+1) C):=
 h.aV [6,0,1,5] []
def Qj(A:ae):aD:=bd 30 [(5,aE.az (bg.one (al 7 5 A)))] []
theorem ald(h:af [.f A a false]):
 aX (aq f217 0) (uY A b a C) (.exit 0) (Qj C):=
 h.aV [5] []
theorem ale(h:af [.l [] [6,0,1,5] [] (aq f217 0) (uY A a 0 []) (.exit 0) (Qj C)]):
 ax 217 [aY 5 A,ag a] [aY 5 C]:=
 h.of
def uZ(A C E F G H ah K:ae)(a b:Int):aD:=bd 21 [(1,aU a),(2,aN 2),(5,aU b)] [(2,[.J .free 5 A,.J .free 5 C,.J .free 5 E,.J .free 4 F,.J .free 1 G,.J .free 1 H,.J .free 1 ah,.J .free 2 K])]
def Jr(q:Bool):aD:=bd 21 [(4,.az (.one (.a1 q)))] []
theorem alf(h:af [.i A c [I a,B q],.b (a==b) true]):
 aX (aq f21 0) (uZ C E F G H ah K A b c) .ret (Jr true):=
 h.aV [4] []
theorem alg(h:af [.i A a [I c,B q],.b (c==b) false,.u a]):
 aX (aq f21 0) (uZ C E F G H ah K A b a) .normal (uZ C E F G H ah K A b (a+1)):=
 h.aV [5,2,1] [2]
def Qk:aD:=bd 21 [] []
theorem alh(h:af [.f A a false]):
 aX (aq f21 0) (uZ C E F G H ah K A b a) (.exit 0) Qk:=
 h.aV [] []
theorem ali(h:af [.l [] [5,2,1] [2] (aq f21 0) (uZ A C E F G H ah K a 0) .ret (Jr q)]):
 ax 21 [.agg (bf A C E F G H ah K),ag a] [ar q]:=
 h.of
theorem alj(h:af [.l [] [5,2,1] [2] (aq f21 0) (uZ A C E F G H ah K a 0) (.exit 0) Qk]):
 ax 21 [.agg (bf A C E F G H ah K),ag a] [ar false]:=
 h.of
theorem alk(h:af [.r 133 [aY 2 A,.one (.bI 134 [D.ptr [I a]])] [ar q]]):
 ax 82 [aY 2 A,ag a] [ar q]:=
 h.of
theorem alm(h:af []):
 ax 134 [.agg [I a,B q],.one (.ptr [I b])] [ar (a==b)]:=
 h.of
theorem amO(h:af [.r 82 [aY 2 A,ag a] [ar q]]):
 ax 43 [.agg (bf C E F G H ah K A),ag a] [ar q]:=
 h.of
def u0(a b c:Int)(q:Bool)(E F G H ah K A C:ae):aD:=bd 28 [(1,aU a),(2,aN 2),(4,aN 4),(6,aU b)] [(4,[ak c,.a1 q]),(2,[.J .free 5 E,.J .free 5 F,.J .free 5 G,.J .free 4 H,.J .free 1 ah,.J .free 1 K,.J .free 1 A,.J .free 2 C])]
def Ql(q:Bool)(a:Int)(r:Bool):aD:=bd 28 [(4,aN 4),(5,.az (.one (.a1 q)))] [(4,[ak a,.a1 r])]
theorem amP(h:af [.i A a [I b,B s],.b (b==d) true,.x A a [I c,B q]]):
 aX (aq f15 0) (u0 d a e r C E F G H ah K A) .ret (Ql true c q):=
 h.aV [4,5] [4]
theorem amQ(h:af [.i A a [I d,B r],.b (d==b) false,.u a]):
 aX (aq f15 0) (u0 b a c q C E F G H ah K A) .normal (u0 b (a+1) c q C E F G H ah K A):=
 h.aV [6,2,1,4] [4,2]
def Qm(a:Int)(q:Bool):aD:=bd 28 [(4,aN 4)] [(4,[ak a,.a1 q])]
theorem amR(h:af [.f A b false]):
 aX (aq f15 0) (u0 c b a q C E F G H ah K A) (.exit 0) (Qm a q):=
 h.aV [4] [4]
theorem amS(h:af [.l [] [6,2,1,4] [4,2] (aq f15 0) (u0 b 0 0 false A C E F G H ah K) .ret (Ql r a q)]):
 ax 15 [.agg (bf A C E F G H ah K),ag b] [.agg [I a,B q],ar r]:=
 h.of
theorem amT(h:af [.l [] [6,2,1,4] [4,2] (aq f15 0) (u0 a 0 0 false A C E F G H ah K) (.exit 0) (Qm b q)]):
 ax 15 [.agg (bf A C E F G H ah K),ag a] [.agg [I 0,B false],ar false]:=
 h.of
def u1(A:ae)(a b c:Int)(q:Bool):aD:=bd 22 [(1,aU a),(4,aN 4),(9,cQ 2 A),(10,aU (A.length:Int)),(11,aU b)] [(4,[ak c,.a1 q])]
def Qn(q:Bool)(a:Int)(r:Bool):aD:=bd 22 [(4,aN 4),(5,.az (.one (.a1 q)))] [(4,[ak a,.a1 r])]
theorem amU(h:af [.i A c [I a,B q],.b (a==b) true]):
 aX (aq f14 0) (u1 A b c d r) .ret (Qn true a q):=
 h.aV [4,5] [4]
theorem amV(h:af [.i A a [I d,B r],.b (d==b) false,.u a]):
 aX (aq f14 0) (u1 A b a c q) .normal (u1 A b (a+1) c q):=
 h.aV [11,10,9,1,4] [4]
def Qo(a:Int)(q:Bool):aD:=bd 22 [(4,aN 4)] [(4,[ak a,.a1 q])]
theorem amW(h:af [.f A b false]):
 aX (aq f14 0) (u1 A c b a q) (.exit 0) (Qo a q):=
 h.aV [4] [4]
theorem amX(h:af [.l [] [11,10,9,1,4] [4] (aq f14 0) (u1 A b 0 0 false) .ret (Qn r a q)]):
 ax 14 [.agg (bf C E F G H ah K A),ag b] [.agg [I a,B q],ar r]:=
 h.of
theorem amY(h:af [.l [] [11,10,9,1,4] [4] (aq f14 0) (u1 A a 0 0 false) (.exit 0) (Qo b q)]):
 ax 14 [.agg (bf C E F G H ah K A),ag a] [.agg [I 0,B false],ar false]:=
 h.of
def u2(A:ae)(g1:Nat)(b8:List D)(a:Int):aD:=bd 19 [(0,cQ 8 A),(1,.az (.one (.fd (D.bI g1 b8)))),(7,aU (A.length:Int)),(8,aU a)] []
def Js(a:Int):aD:=bd 19 [(4,aU a)] []
theorem amZ{A:ae}{g1:Nat}{b8:List D}{a:Int}{F G H ah K L C E:ae}{q:Bool}(h:af [.i A a (bf F G H ah K L C E),.p (h9 prog g1=true),.r g1 ([.agg (bf F G H ah K L C E)]++List.map .one b8) [ar q],.b q true]):
 aX (aq f89 0) (u2 A g1 b8 a) .ret (Js a):=
 h.aV [4] []
theorem am0{A:ae}{g1:Nat}{b8:List D}{a:Int}{F G H ah K L C E:ae}{q:Bool}(h:af [.i A a (bf F G H ah K L C E),.p (h9 prog g1=true),.r g1 ([.agg (bf F G H ah K L C E)]++List.map .one b8) [ar q],.b q false,.u a]):
 aX (aq f89 0) (u2 A g1 b8 a) .normal (u2 A g1 b8 (a+1)):=
 h.aV [8,7,1,0] []
def Qp:aD:=bd 19 [] []
theorem am1{A:ae}{g1:Nat}{b8:List D}{a:Int}(h:af [.f A a false]):
 aX (aq f89 0) (u2 A g1 b8 a) (.exit 0) Qp:=
 h.aV [] []
theorem am2{A:ae}{g1:Nat}{b8:List D}{a:Int}(h:af [.l [] [8,7,1,0] [] (aq f89 0) (u2 A g1 b8 0) .ret (Js a)]):
 ax 89 [aY 8 A,.one (.bI g1 b8)] [ag a]:=
 h.of
theorem am3{A:ae}{g1:Nat}{b8:List D}(h:af [.l [] [8,7,1,0] [] (aq f89 0) (u2 A g1 b8 0) (.exit 0) Qp]):
 ax 89 [aY 8 A,.one (.bI g1 b8)] [ag (-1)]:=
 h.of
def u3(A:ae)(g1:Nat)(b8:List D)(a:Int):aD:=bd 19 [(0,cQ 2 A),(1,.az (.one (.fd (D.bI g1 b8)))),(7,aU (A.length:Int)),(8,aU a)] []
def Jt(a:Int):aD:=bd 19 [(4,aU a)] []
theorem am4{A:ae}{g1:Nat}{b8:List D}{a b:Int}{q r:Bool}(h:af [.i A a [I b,B q],.p (h9 prog g1=true),.r g1 ([.agg [I b,B q]]++List.map .one b8) [ar r],.b r true]):
 aX (aq f182 0) (u3 A g1 b8 a) .ret (Jt a):=
 h.aV [4] []
theorem am5{A:ae}{g1:Nat}{b8:List D}{a b:Int}{q r:Bool}(h:af [.i A a [I b,B q],.p (h9 prog g1=true),.r g1 ([.agg [I b,B q]]++List.map .one b8) [ar r],.b r false,.u a]):
 aX (aq f182 0) (u3 A g1 b8 a) .normal (u3 A g1 b8 (a+1)):=
 h.aV [8,7,1,0] []
def Qq:aD:=bd 19 [] []
theorem am6{A:ae}{g1:Nat}{b8:List D}{a:Int}(h:af [.f A a false]):
 aX (aq f182 0) (u3 A g1 b8 a) (.exit 0) Qq:=
 h.aV [] []
theorem am7{A:ae}{g1:Nat}{b8:List D}{a:Int}(h:af [.l [] [8,7,1,0] [] (aq f182 0) (u3 A g1 b8 0) .ret (Jt a)]):
 ax 182 [aY 2 A,.one (.bI g1 b8)] [ag a]:=
 h.of
theorem am8{A:ae}{g1:Nat}{b8:List D}(h:af [.l [] [8,7,1,0] [] (aq f182 0) (u3 A g1 b8 0) (.exit 0) Qq]):
 ax 182 [aY 2 A,.one (.bI g1 b8)] [ag (-1)]:=
 h.of
def uc(A:ae)(g1:Nat)(b8:List D)(a:Int):aD:=bd 19 [(0,cQ 3 A),(1,.az (.one (.fd (D.bI g1 b8)))),(7,aU (A.length:Int)),(8,aU a)] []
def Ju(a:Int):aD:=bd 19 [(4,aU a)] []
theorem am9{A:ae}{g1:Nat}{b8:List D}{a b c:Int}{q r:Bool}(h:af [.i A a [I b,I c,B q],.p (h9 prog g1=true),.r g1 ([.agg [I b,I c,B q]]++List.map .one b8) [ar r],.b r true]):
 aX (aq f39 0) (uc A g1 b8 a) .ret (Ju a):=
 h.aV [4] []
theorem ana{A:ae}{g1:Nat}{b8:List D}{a b c:Int}{q r:Bool}(h:af [.i A a [I b,I c,B q],.p (h9 prog g1=true),.r g1 ([.agg [I b,I c,B q]]++List.map .one b8) [ar r],.b r false,.u a]):
 aX (aq f39 0) (uc A g1 b8 a) .normal (uc A g1 b8 (a+1)):=
 h.aV [8,7,1,0] []
def Qr:aD:=bd 19 [] []
theorem anb{A:ae}{g1:Nat}{b8:List D}{a:Int}(h:af [.f A a false]):
 aX (aq f39 0) (uc A g1 b8 a) (.exit 0) Qr:=
 h.aV [] []
theorem anc{A:ae}{g1:Nat}{b8:List D}{a:Int}(h:af [.l [] [8,7,1,0] [] (aq f39 0) (uc A g1 b8 0) .ret (Ju a)]):
 ax 39 [aY 3 A,.one (.bI g1 b8)] [ag a]:=
 h.of
theorem ane{A:ae}{g1:Nat}{b8:List D}(h:af [.l [] [8,7,1,0] [] (aq f39 0) (uc A g1 b8 0) (.exit 0) Qr]):
 ax 39 [aY 3 A,.one (.bI g1 b8)] [ag (-1)]:=
 h.of
theorem amo{A:ae}{g1:Nat}{b8:List D}{a:Int}(h:af [.r 89 [aY 8 A,.one (.bI g1 b8)] [ag a]]):
 ax 51 [aY 8 A,.one (.bI g1 b8)] [ar (decide (a>=0))]:=
 h.of
theorem amp{A:ae}{g1:Nat}{b8:List D}{a:Int}(h:af [.r 182 [aY 2 A,.one (.bI g1 b8)] [ag a]]):
 ax 133 [aY 2 A,.one (.bI g1 b8)] [ar (decide (a>=0))]:=
 h.of
end Go.Proofs.YthfnndblgbjniaaGreatDoor
namespace Go.Proofs.YthfnndblgbjniaaGreatDoor
open Go.Sx Go.RowKit Go.Proofs.Tryz
variable {a b c d e f g i j k l m n o p a0 cj df d0 bD f0 : Int} {A C E F G H ah K L : ae} {q r s : Bool}
def DI(A:ae)(l:List O):List O:=.g ([]:ae) A 32::.h A::l
theorem amq(h:af (DI A [])):
 ax 127 [aY 4 A] [aY 4 ([]++A)]:=
 h.of
theorem amr(h:af [.r 203 [.one (.J 1 [[I b],[I a],[I c],[I d]]),.one (.J 1 [[I f],[I e],[I g],[I i]])] [ag j]]):
 ax 179 [.agg [I a,I b,I c,I d],.agg [I e,I f,I g,I i]] [ag j]:=
 h.of
theorem Qs(h:af [.v ((A.length:Int)-1),.r 64 [ag a,ag 0,ag ((A.length:Int)-1)] [ar q]]):
 ax 132 [.agg (bC A b c),ag a] [ar q]:=
 h.of
def ud(a b c d e:Int):aD:=bd 41 [(5,.az (.one (.J (.own 27) 1 [[I a],[I b],[I c],[I d]]))),(6,aU e)] []
def Jv(a:Int):aD:=bd 41 [(4,aU a)] []
theorem ams(h:af [.b (decide (a<4)) true,.x [[I d],[I e],[I b],[I c]] a [I f],.b (f != 0) true,.x [[I d],[I e],[I b],[I c]] a [I g]]):
 aX (aq f204 0) (ud d e b c a) .ret (Jv g):=
 h.aV [4] []
theorem amt(h:af [.b (decide (a<4)) true,.x [[I d],[I e],[I b],[I c]] a [I f],.b (f != 0) false,.u a]):
 aX (aq f204 0) (ud d e b c a) .normal (ud d e b c (a+1)):=
 h.aV [6,5] []
def Qt:aD:=bd 41 [] []
theorem amu(h:af [.b (decide (a<4)) false]):
 aX (aq f204 0) (ud d e b c a) (.exit 0) Qt:=
 h.aV [] []
theorem amv(h:af [.r 219 [ag b,ag j] [ag m],.r 219 [ag a,ag i] [ag n],.r 219 [ag f,ag k] [ag c],.r 219 [ag g,ag l] [ag d],.l [] [6,5] [] (aq f204 0) (ud m n c d 0) .ret (Jv e)]):
 ax 204 [.agg [I a,I b,I f,I g],.agg [I i,I j,I k,I l]] [ag e]:=
 h.of
theorem amw(h:af [.r 219 [ag b,ag i] [ag l],.r 219 [ag a,ag g] [ag m],.r 219 [ag e,ag j] [ag c],.r 219 [ag f,ag k] [ag d],.l [] [6,5] [] (aq f204 0) (ud l m c d 0) (.exit 0) Qt]):
 ax 204 [.agg [I a,I b,I e,I f],.agg [I g,I i,I j,I k]] [ag 0]:=
 h.of
def ue(A:ae)(a b c d e:Int):aD:=bd 18 [(0,cQ 4 A),(3,aN 3),(5,aU e)] [(3,[ak a,ak b,ak c,ak d])]
def Jw(q:Bool):aD:=bd 18 [(4,.az (.one (.a1 q)))] []
theorem amx(h:af [.i A e [I f,I g,I i,I j],.b (f==a&&(g==b&&(i==c&&j==d))) true]):
 aX (aq f214 0) (ue A a b c d e) .ret (Jw true):=
 h.aV [4] []
theorem amy(h:af [.i A a [I f,I g,I i,I j],.b (f==b&&(g==c&&(i==d&&j==e))) false,.u a]):
 aX (aq f214 0) (ue A b c d e a) .normal (ue A b c d e (a+1)):=
 h.aV [5,0,3] [3]
def Qu:aD:=bd 18 [] []
theorem amz(h:af [.f A a false]):
 aX (aq f214 0) (ue A b c d e a) (.exit 0) Qu:=
 h.aV [] []
theorem amA(h:af [.l [] [5,0,3] [3] (aq f214 0) (ue A a b c d 0) .ret (Jw q)]):
 ax 214 [aY 4 A,.agg [I a,I b,I c,I d]] [ar q]:=
 h.of
theorem amB(h:af [.l [] [5,0,3] [3] (aq f214 0) (ue A a b c d 0) (.exit 0) Qu]):
 ax 214 [aY 4 A,.agg [I a,I b,I c,I d]] [ar false]:=
 h.of
theorem amC(h:af [.r 214 [aY 4 A,.agg [I a,I b,I c,I d]] [ar q],.b q true,.g ([]:ae) A 32,.h A]):
 ax 215 [aY 4 A,.agg [I a,I b,I c,I d]] [aY 4 ([]++A)]:=
 h.of
def uf(A:ae)(a b c d e:Int):aD:=bd 41 [(0,cQ 4 A),(3,aN 3),(5,aU e)] [(3,[ak a,ak b,ak c,ak d])]
theorem amD(h:af [.i A a [I i,I j,I k,I f],.r 204 [.agg [I i,I j,I k,I f],.agg [I b,I c,I d,I e]] [ag g],.b (decide (g<0)) true,.u a]):
 aX (aq f215 0) (uf A b c d e a) .normal (uf A b c d e (a+1)):=
 h.aV [5,0,3] [3]
def za(A:ae)(a b c d e:Int):aD:=bd 41 [(0,cQ 4 A),(3,aN 3),(5,aU e)] [(3,[ak a,ak b,ak c,ak d])]
theorem amE(h:af [.i A e [I i,I j,I k,I f],.r 204 [.agg [I i,I j,I k,I f],.agg [I a,I b,I c,I d]] [ag g],.b (decide (g<0)) false]):
 aX (aq f215 0) (uf A a b c d e) (.exit 0) (za A a b c d e):=
 h.aV [0,5,3] [3]
theorem amF(h:af [.f A a false]):
 aX (aq f215 0) (uf A b c d e a) (.exit 0) (za A b c d e a):=
 h.aV [0,5,3] [3]
theorem amG(h:af [.r 214 [aY 4 A,.agg [I b,I c,I d,I e]] [ar q],.b q false,.l [] [5,0,3] [3] (aq f215 0) (uf A b c d e 0) (.exit 0) (za A b c d e a),.p ((0:Int)<=none.getD 0),.p (none.getD 0<=(some a).getD (A.length:Int)),.p ((some a).getD (A.length:Int)<=(A.length:Int)),.p ((([]:ae).length+(List.take (((some a).getD (A.length:Int)).toNat-0) (List.drop 0 A)).length)*32<=140737488355328),.p (([]:ae).length+(List.take (((some a).getD (A.length:Int)).toNat-0) (List.drop 0 A)).length<=9223372036854775807),.p (Flat (List.take (((some a).getD (A.length:Int)).toNat-0) (List.drop 0 A))),.p ((([]++List.take (((some a).getD (A.length:Int)).toNat-0) (List.drop 0 A)).length+[[I b,I c,I d,I e]].length)*32<=140737488355328),.p (([]++List.take (((some a).getD (A.length:Int)).toNat-0) (List.drop 0 A)).length+[[I b,I c,I d,I e]].length<=9223372036854775807),.h [[I b,I c,I d,I e]],.p (0<=(some a).getD 0),.p ((some a).getD 0<=none.getD (A.length:Int)),.p (none.getD (A.length:Int)<=(A.length:Int)),.p ((([]++List.take (((some a).getD (A.length:Int)).toNat-0) (List.drop 0 A)++[[I b,I c,I d,I e]]).length+(List.take (A.length-((some a).getD 0).toNat) (List.drop ((some a).getD 0).toNat A)).length)*32<=140737488355328),.p (([]++List.take (((some a).getD (A.length:Int)).toNat-0) (List.drop 0 A)++[[I b,I c,I d,I e]]).length+(List.take (A.length-((some a).getD 0).toNat) (List.drop ((some a).getD 0).toNat A)).length<=9223372036854775807),.p (Flat (List.take (A.length-((some a).getD 0).toNat) (List.drop ((some a).getD 0).toNat A)))]):
 ax 215 [aY 4 A,.agg [I b,I c,I d,I e]] [.one (.J 4 ([]++List.take (((some a).getD (A.length:Int)).toNat-0) (List.drop 0 A)++[[I b,I c,I d,I e]]++List.take (A.length-((some a).getD 0).toNat) (List.drop ((some a).getD 0).toNat A)))]:=
 h.of
theorem amH(h:af [.v ((A.length:Int)-1),.r 65 [ag a,ag 0,ag ((A.length:Int)-1)] [ar q],.n q true]):
 ax 194 [.agg (bC A b c),ag a] [.agg (bi 0 0 0 []),ar false]:=
 h.of
theorem amI(h:af [.v ((A.length:Int)-1),.r 65 [ag a,ag 0,ag ((A.length:Int)-1)] [ar q],.n q false,.x A a (bi b c d C),.g ([]:ae) C 8,.h C]):
 ax 194 [.agg (bC A e f),ag a] [.agg (bi b c d ([]++C)),ar true]:=
 h.of
def kj(A:ae)(a b c d:Int)(q:Bool)(e:Int):aD:=bd 54 [(0,cQ 4 A),(1,aU a),(2,aU b),(3,aU c),(10,aU e),(11,.az (.one (.a1 q))),(12,aU d)] []
def Dx(A:ae)(a b c d e f g:Int)(l:List O):List O:=.i A a [I b,I c,I d,I e]::.b (b==f) true::.b (c==g) true::l
theorem amJ(h:af (Dx A a f g i e b c [.b (i==d) true,.n q true,.u a])):
 aX (aq f216 0) (kj A b c d a q j) .normal (kj A b c d (a+1) true e):=
 h.aV [12,0,1,2,3,11,10] []
theorem amK(h:af (Dx A a g i j c b d [.b (j==e) true,.n q false,.b (decide (c<f)) true,.u a])):
 aX (aq f216 0) (kj A b d e a q f) .normal (kj A b d e (a+1) true c):=
 h.aV [12,0,1,2,3,11,10] []
theorem amL(h:af (Dx A a g i j f b c [.b (j==d) true,.n q false,.b (decide (f<e)) false,.u a])):
 aX (aq f216 0) (kj A b c d a q e) .normal (kj A b c d (a+1) q e):=
 h.aV [12,0,1,2,3,11,10] []
theorem amM(h:af (Dx A a f g i j b c [.b (i==d) false,.u a])):
 aX (aq f216 0) (kj A b c d a q e) .normal (kj A b c d (a+1) q e):=
 h.aV [12,0,1,2,3,11,10] []
theorem amN(h:af [.i A a [I f,I g,I j,I i],.b (f==b) true,.b (g==c) false,.u a]):
 aX (aq f216 0) (kj A b c d a q e) .normal (kj A b c d (a+1) q e):=
 h.aV [12,0,1,2,3,11,10] []
theorem ame(h:af [.i A a [I f,I i,I j,I g],.b (f==b) false,.u a]):
 aX (aq f216 0) (kj A b c d a q e) .normal (kj A b c d (a+1) q e):=
 h.aV [12,0,1,2,3,11,10] []
def Qv(a:Int)(q:Bool):aD:=bd 54 [(10,aU a),(11,.az (.one (.a1 q)))] []
theorem amf(h:af [.f A a false]):
 aX (aq f216 0) (kj A c d e a q b) (.exit 0) (Qv b q):=
 h.aV [10,11] []
theorem amg(h:af [.l [] [12,0,1,2,3,11,10] [] (aq f216 0) (kj A a b c 0 false 0) (.exit 0) (Qv d q)]):
 ax 216 [aY 4 A,ag a,ag b,ag c] [ag d,ar q]:=
 h.of
theorem amh(h:af [.b (a==5) true]):
 ax 196 [ag a] [ar true]:=
 h.of
theorem ami(h:af [.b (a==5) false,.b (a==6) true]):
 ax 196 [ag a] [ar true]:=
 h.of
theorem amj(h:af [.b (a==5) false,.b (a==6) false]):
 ax 196 [ag a] [ar (a==8)]:=
 h.of
theorem amk(h:af (DI A [.b (a==6) true,.r 214 [aY 4 A,.agg [I b,I c,I d,I e]] [ar q],.b q true])):
 ax 197 [ag a,aY 4 A,.agg [I b,I c,I d,I e]] [aY 4 ([]++A),ar false]:=
 h.of
theorem aml(h:af (DI A [.b (e==6) true,.r 214 [aY 4 A,.agg [I a,I b,I c,I d]] [ar q],.b q false,.r 215 [aY 4 A,.agg [I a,I b,I c,I d]] [aY 4 C]])):
 ax 197 [ag e,aY 4 A,.agg [I a,I b,I c,I d]] [aY 4 C,ar true]:=
 h.of
def KZ(A:ae)(a:Int)(l:List O):List O:=DI A (.b (a==6) false::l)
def KP(A:ae)(a b c d e:Int)(q:Bool)(l:List O):List O:=KZ A a (.b (a==5) true::.b (a==5) true::.r 216 [aY 4 A,ag b,ag c,ag d] [ag e,ar q]::l)
theorem amm(h:af (KP A a b c d f q [.b q true,.b (decide (f<=e)) true])):
 ax 197 [ag a,aY 4 A,.agg [I b,I c,I d,I e]] [aY 4 ([]++A),ar false]:=
 h.of
def kk(A:ae)(a b c d e:Int)(C:ae):aD:=bd 94 [(1,cQ 4 A),(5,aN 5),(11,aE.az (bg.one (al 48 4 C))),(12,aU e)] [(5,[ak a,ak b,ak c,ak d])]
theorem amn(h:af [.i A a [I g,I l,I m,I n],.b (g != f) true,.x A a [I b,I c,I d,I e],.g C [[I b,I c,I d,I e]] 32,.h [[I b,I c,I d,I e]],.u a]):
 aX (aq f197 0) (kk A f i j k a C) .normal (kk A f i j k (a+1) (C++[[I b,I c,I d,I e]])):=
 h.aV [12,1,5,11] [5]
theorem anR(h:af [.i A a [I i,I m,I n,I o],.b (i != f) false,.x A a [I p,I j,I a0,I cj],.b (j != g) true,.x A a [I b,I c,I d,I e],.g C [[I b,I c,I d,I e]] 32,.h [[I b,I c,I d,I e]],.u a]):
 aX (aq f197 0) (kk A f g k l a C) .normal (kk A f g k l (a+1) (C++[[I b,I c,I d,I e]])):=
 h.aV [12,1,5,11] [5]
theorem anS(h:af [.i A a [I j,I n,I o,I p],.b (j != f) false,.x A a [I a0,I k,I cj,I df],.b (k != g) false,.x A a [I d0,I bD,I l,I f0],.b (l != i) true,.x A a [I b,I c,I d,I e],.g C [[I b,I c,I d,I e]] 32,.h [[I b,I c,I d,I e]],.u a]):
 aX (aq f197 0) (kk A f g i m a C) .normal (kk A f g i m (a+1) (C++[[I b,I c,I d,I e]])):=
 h.aV [12,1,5,11] [5]
theorem anT(h:af [.i A a [I e,I j,I k,I l],.b (e != b) false,.x A a [I m,I f,I n,I o],.b (f != c) false,.x A a [I p,I a0,I g,I cj],.b (g != d) false,.u a]):
 aX (aq f197 0) (kk A b c d i a C) .normal (kk A b c d i (a+1) C):=
 h.aV [12,1,5,11] [5]
def wI(a b c d:Int)(A:ae):aD:=bd 94 [(5,aN 5),(11,aE.az (bg.one (al 48 4 A)))] [(5,[ak a,ak b,ak c,ak d])]
theorem anU(h:af [.f A e false]):
 aX (aq f197 0) (kk A a b c d e C) (.exit 1) (wI a b c d C):=
 h.aV [11,5] [5]
theorem anV(h:af (KP A e a b c f q [.b q true,.b (decide (f<=d)) false,.l [] [12,1,5,11] [5] (aq f197 0) (kk A a b c d 0 []) (.exit 1) (wI a b c d C),.r 215 [aY 4 C,.agg [I a,I b,I c,I d]] [aY 4 E]])):
 ax 197 [ag e,aY 4 A,.agg [I a,I b,I c,I d]] [aY 4 E,ar true]:=
 h.of
theorem anW(h:af (KP A d a b c f q [.b q false,.l [] [12,1,5,11] [5] (aq f197 0) (kk A a b c e 0 []) (.exit 1) (wI a b c e C),.r 215 [aY 4 C,.agg [I a,I b,I c,I e]] [aY 4 E]])):
 ax 197 [ag d,aY 4 A,.agg [I a,I b,I c,I e]] [aY 4 E,ar true]:=
 h.of
def KQ(A:ae)(a b c d e:Int)(q:Bool)(l:List O):List O:=KZ A a (.b (a==5) false::.b (a==8) true::.r 216 [aY 4 A,ag b,ag c,ag d] [ag e,ar q]::l)
theorem anX(h:af (KQ A a b c d f q [.b q true,.b (decide (f<=e)) true])):
 ax 197 [ag a,aY 4 A,.agg [I b,I c,I d,I e]] [aY 4 ([]++A),ar false]:=
 h.of
theorem anY(h:af (KQ A e a b c f q [.b q true,.b (decide (f<=d)) false,.l [] [12,1,5,11] [5] (aq f197 0) (kk A a b c d 0 []) (.exit 1) (wI a b c d C),.r 215 [aY 4 C,.agg [I a,I b,I c,I d]] [aY 4 E]])):
 ax 197 [ag e,aY 4 A,.agg [I a,I b,I c,I d]] [aY 4 E,ar true]:=
 h.of
theorem anZ(h:af (KQ A d a b c f q [.b q false,.l [] [12,1,5,11] [5] (aq f197 0) (kk A a b c e 0 []) (.exit 1) (wI a b c e C),.r 215 [aY 4 C,.agg [I a,I b,I c,I e]] [aY 4 E]])):
 ax 197 [ag d,aY 4 A,.agg [I a,I b,I c,I e]] [aY 4 E,ar true]:=
 h.of
theorem an0(h:af (KZ A a [.b (a==5) false,.b (a==8) false])):
 ax 197 [ag a,aY 4 A,.agg [I b,I c,I d,I e]] [aY 4 ([]++A),ar true]:=
 h.of
