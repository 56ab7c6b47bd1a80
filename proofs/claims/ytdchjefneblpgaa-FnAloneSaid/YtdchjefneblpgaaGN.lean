import Derived.Test.YtdchjefneblpgaaGE
set_option linter.unusedVariables false
set_option linter.unusedSimpArgs false
namespace Go.Proofs.Ytdchjefneblpgaa
open Go.Sx Go.RowKit Go.Proofs.Try
variable {a b c d e f g i j k l m n o p a0 cm dH d0 b8 f0 : Int} {A C E F : aE} {q r : Bool}
theorem SB(h:al [.b (decide (b<a)) true]):
 aA 67 [ao c,ao a,ao b] [ao a]:=
 h.of
theorem SC(h:al [.b (decide (c<a)) false,.b (decide (b<a)) true]):
 aA 67 [ao b,ao a,ao c] [ao a]:=
 h.of
theorem SD(h:al [.b (decide (a<c)) false,.b (decide (b<c)) false,.b (decide (b>a)) true]):
 aA 67 [ao b,ao c,ao a] [ao a]:=
 h.of
theorem SE(h:al [.b (decide (c<b)) false,.b (decide (a<b)) false,.b (decide (a>c)) false]):
 aA 67 [ao a,ao b,ao c] [ao a]:=
 h.of
theorem SF(h:al [.b (decide (a>=b)) true]):
 aA 49 [ao a,ao b,ao c] [au (decide (a<=c))]:=
 h.of
theorem SG(h:al [.b (decide (a>=b)) false]):
 aA 49 [ao a,ao b,ao c] [au false]:=
 h.of
theorem SH(h:al [.b (decide (a>=b)) true]):
 aA 56 [ao a,ao b,ao c] [au (decide (a<=c))]:=
 h.of
theorem R7(h:al [.b (decide (a>=b)) false]):
 aA 56 [ao a,ao b,ao c] [au false]:=
 h.of
theorem R8(h:al [.b (decide (a<b)) true]):
 aA 87 [ao a,ao b] [ao (-1)]:=
 h.of
theorem R9(h:al [.b (decide (a<b)) false,.b (decide (a>b)) true]):
 aA 87 [ao a,ao b] [ao 1]:=
 h.of
theorem R'(h:al [.b (decide (a<b)) false,.b (decide (a>b)) false]):
 aA 87 [ao a,ao b] [ao 0]:=
 h.of
theorem Sa(a:Int)(h:al []):
 aA 97 [ao a] [au (a != a)]:=
 h.of
def F'(a:Int)(q:Bool)(b:Int)(r:Bool)(l:List O):List O:=.r 97 [ao a] [au q]::.r 97 [ao b] [au r]::.b q false::.b r false::l
theorem Sb(h:al (F' a q b r [.b (decide (a<b)) true])):
 aA 95 [ao a,ao b] [ao (-1)]:=
 h.of
theorem Sc(h:al (F' a q b r [.b (decide (a<b)) false,.b (decide (a>b)) true])):
 aA 95 [ao a,ao b] [ao 1]:=
 h.of
theorem Sd(h:al (F' a q b r [.b (decide (a<b)) false,.b (decide (a>b)) false])):
 aA 95 [ao a,ao b] [ao 0]:=
 h.of
def sI(A C:aE)(a:Int):aG:=bR 36 [(0,eB 1 A),(1,eB 1 C),(9,eB 1 A),(10,bB (A.length:Int)),(11,bB a)] []
def Ej(a:Int):aG:=bR 36 [(4,bB a)] []
theorem Se(h:al [.i C a [I c],.b (decide (a>=(A.length:Int))) false,.x A a [I d],.r 95 [ao c,ao d] [ao b],.b (b != 0) true]):
 bp (aF f93 0) (sI C A a) .ret (Ej b):=
 h.bu [4] []
theorem Sf(h:al [.i C a [I b],.b (decide (a>=(A.length:Int))) false,.x A a [I c],.r 95 [ao b,ao c] [ao d],.b (d != 0) false,.u a]):
 bp (aF f93 0) (sI C A a) .normal (sI C A (a+1)):=
 h.bu [11,10,9,1,0] []
def Km(A C:aE):aG:=bR 36 [(0,eB 1 A),(1,eB 1 C)] []
theorem TI(h:al [.f A a false]):
 bp (aF f93 0) (sI A C a) (.exit 0) (Km A C):=
 h.bu [0,1] []
theorem TJ(h:al [.l [] [11,10,9,1,0] [] (aF f93 0) (sI A C 0) .ret (Ej a)]):
 aA 93 [aB 1 A,aB 1 C] [ao a]:=
 h.of
theorem TK(h:al [.l [] [11,10,9,1,0] [] (aF f93 0) (sI A C 0) (.exit 0) (Km A C),.f C (A.length:Int) false]):
 aA 93 [aB 1 A,aB 1 C] [ao 0]:=
 h.of
theorem TL(h:al [.r 93 [aB 1 A,aB 1 C] [ao a]]):
 aA 89 [aB 1 A,aB 1 C] [ao a]:=
 h.of
def sJ(A:aE)(a b:Int)(C:aE):aG:=bR 25 [(1,bB a),(5,az.aN (bi.one (bU 22 5 C))),(8,eB 5 A),(9,bB (A.length:Int)),(10,bB b)] []
theorem TM(h:al [.i A b (bx c a d e f),.b (a==g) true,.g C [(bx c a d e f)] 40,.h [(bx c a d e f)],.u b]):
 bp (aF f30 0) (sJ A g b C) .normal (sJ A g (b+1) (C++[(bx c a d e f)])):=
 h.bu [10,9,8,1,5] []
theorem TN(h:al [.i A a (bx d c e f g),.b (c==b) false,.u a]):
 bp (aF f30 0) (sJ A b a C) .normal (sJ A b (a+1) C):=
 h.bu [10,9,8,1,5] []
def JO(A:aE):aG:=bR 25 [(5,az.aN (bi.one (bU 22 5 A)))] []
theorem TO(h:al [.f A a false]):
 bp (aF f30 0) (sJ A b a C) (.exit 0) (JO C):=
 h.bu [5] []
theorem TP(h:al [.l [(5,22,5)] [10,9,8,1,5] [] (aF f30 0) (sJ A a 0 []) (.exit 0) (JO C)]):
 aA 30 [aB 5 A,ao a] [aB 5 C]:=
 h.of
def sK(A:aE)(g1:Nat)(bM:List D)(a:Int):aG:=bR 19 [(0,eB 4 A),(1,.aN (.one (.fd (D.da g1 bM)))),(7,bB (A.length:Int)),(8,bB a)] []
def Ek(a:Int):aG:=bR 19 [(4,bB a)] []
def fQ(A:aE)(a b c d e:Int)(l:List O):List O:=.i A a [I b,I c,I d,I e]::l
theorem TQ{A:aE}{g1:Nat}{bM:List D}{a b c d e:Int}{q:Bool}(h:al (fQ A a b c d e [.p (hM prog g1=true),.r g1 ([.agg [I b,I c,I d,I e]]++List.map .one bM) [au q],.b q true])):
 bp (aF f88 0) (sK A g1 bM a) .ret (Ek a):=
 h.bu [4] []
theorem TR{A:aE}{g1:Nat}{bM:List D}{a b c d e:Int}{q:Bool}(h:al (fQ A a b c d e [.p (hM prog g1=true),.r g1 ([.agg [I b,I c,I d,I e]]++List.map .one bM) [au q],.b q false,.u a])):
 bp (aF f88 0) (sK A g1 bM a) .normal (sK A g1 bM (a+1)):=
 h.bu [8,7,1,0] []
def JP:aG:=bR 19 [] []
theorem TS{A:aE}{g1:Nat}{bM:List D}{a:Int}(h:al [.f A a false]):
 bp (aF f88 0) (sK A g1 bM a) (.exit 0) JP:=
 h.bu [] []
theorem TT{A:aE}{g1:Nat}{bM:List D}{a:Int}(h:al [.l [] [8,7,1,0] [] (aF f88 0) (sK A g1 bM 0) .ret (Ek a)]):
 aA 88 [aB 4 A,.one (.da g1 bM)] [ao a]:=
 h.of
theorem TU{A:aE}{g1:Nat}{bM:List D}(h:al [.l [] [8,7,1,0] [] (aF f88 0) (sK A g1 bM 0) (.exit 0) JP]):
 aA 88 [aB 4 A,.one (.da g1 bM)] [ao (-1)]:=
 h.of
end Go.Proofs.Ytdchjefneblpgaa
namespace Go.Proofs.Ytdchjefneblpgaa
open Go.Sx Go.RowKit Go.Proofs.Try
variable {a b c d e f g i j k l m n o p a0 cm dH d0 b8 f0 : Int} {A C E F : aE} {q r : Bool}
def z'(A:aE)(l:List O):List O:=.g ([]:aE) A 32::.h A::l
theorem TV(h:al (z' A [])):
 aA 53 [aB 4 A] [aB 4 ([]++A)]:=
 h.of
theorem TW(h:al [.r 86 [aB 4 A,.agg [I a,I b,I c,I d]] [au q]]):
 aA 73 [aB 4 A,.agg [I a,I b,I c,I d]] [au q]:=
 h.of
theorem TX(h:al [.r 89 [.one (.aa 1 [[I b],[I a],[I c],[I d]]),.one (.aa 1 [[I f],[I e],[I g],[I i]])] [ao j]]):
 aA 84 [.agg [I a,I b,I c,I d],.agg [I e,I f,I g,I i]] [ao j]:=
 h.of
theorem TY(h:al [.r 92 [aB 4 A,.agg [I a,I b,I c,I d]] [ao e]]):
 aA 86 [aB 4 A,.agg [I a,I b,I c,I d]] [au (decide (e>=0))]:=
 h.of
def sL(A:aE)(a b c d e:Int):aG:=bR 19 [(0,eB 4 A),(3,bC 3),(7,bB (A.length:Int)),(8,bB e)] [(3,[aS a,aS b,aS c,aS d])]
def El(a:Int):aG:=bR 19 [(4,bB a)] []
theorem TZ(h:al (fQ A a f g i j [.b (b==f&&(c==g&&(d==i&&e==j))) true])):
 bp (aF f92 0) (sL A b c d e a) .ret (El a):=
 h.bu [4] []
theorem T0(h:al (fQ A a f g i j [.b (b==f&&(c==g&&(d==i&&e==j))) false,.u a])):
 bp (aF f92 0) (sL A b c d e a) .normal (sL A b c d e (a+1)):=
 h.bu [8,7,3,0] [3]
def JQ:aG:=bR 19 [] []
theorem T1(h:al [.f A a false]):
 bp (aF f92 0) (sL A b c d e a) (.exit 0) JQ:=
 h.bu [] []
theorem T2(h:al [.l [] [8,7,3,0] [3] (aF f92 0) (sL A a b c d 0) .ret (El e)]):
 aA 92 [aB 4 A,.agg [I a,I b,I c,I d]] [ao e]:=
 h.of
theorem T3(h:al [.l [] [8,7,3,0] [3] (aF f92 0) (sL A a b c d 0) (.exit 0) JQ]):
 aA 92 [aB 4 A,.agg [I a,I b,I c,I d]] [ao (-1)]:=
 h.of
theorem T4(h:al [.r 53 [aB 4 A] [aB 4 C],.r 73 [aB 4 A,.agg [I a,I b,I c,I d]] [au q],.b q true]):
 aA 72 [aB 4 A,.agg [I a,I b,I c,I d]] [aB 4 C]:=
 h.of
def sM(A:aE)(a b c d:Int)(C:aE)(e:Int):aG:=bR 33 [(0,eB 4 A),(3,bC 3),(5,az.aN (bi.one (bU 90000 4 C))),(6,bB e)] [(3,[aS a,aS b,aS c,aS d])]
theorem T5(h:al (fQ A a j k f g [.r 84 [.agg [I j,I k,I f,I g],.agg [I b,I c,I d,I e]] [ao i],.b (decide (i<0)) true,.u a])):
 bp (aF f72 0) (sM A b c d e C a) .normal (sM A b c d e C (a+1)):=
 h.bu [6,0,3,5] [3]
def wF(a b c d:Int)(A:aE)(e:Int):aG:=bR 33 [(3,bC 3),(5,az.aN (bi.one (bU 90000 4 A))),(6,bB e)] [(3,[aS a,aS b,aS c,aS d])]
theorem T6(h:al (fQ A e j k f g [.r 84 [.agg [I j,I k,I f,I g],.agg [I a,I b,I c,I d]] [ao i],.b (decide (i<0)) false])):
 bp (aF f72 0) (sM A a b c d C e) (.exit 0) (wF a b c d C e):=
 h.bu [5,6,3] [3]
theorem T7(h:al [.f A a false]):
 bp (aF f72 0) (sM A b c d e C a) (.exit 0) (wF b c d e C a):=
 h.bu [5,6,3] [3]
theorem Ti(h:al [.r 53 [aB 4 A] [aB 4 C],.r 73 [aB 4 A,.agg [I a,I b,I c,I d]] [au q],.b q false,.l [] [6,0,3,5] [3] (aF f72 0) (sM A a b c d C 0) (.exit 0) (wF a b c d C e),.a (.oO [[some none],[none],[some none]] 0 [] [aB 4 E]),.p (je prog 85 [GA.one (dP.ed 4 C none),GA.one (dP.ro (I e)),GA.one (dP.ed 4 [[I a,I b,I c,I d]] none)] [aB 4 E])]):
 aA 72 [aB 4 A,.agg [I a,I b,I c,I d]] [aB 4 E]:=
 h.of
theorem JR(h:al [.v ((A.length:Int)-1),.r 49 [ao a,ao 0,ao ((A.length:Int)-1)] [au q]]):
 aA 37 [.agg (bj A b c),ao a] [au q]:=
 h.of
def pM(A:aE)(a:Int)(C E:aE)(b c:Int):aG:=bR 34 [(2,bC 2),(5,az.aN (bi.one (bU 31 4 C))),(8,eB 4 A),(9,bB (A.length:Int)),(10,bB a)] [(2,[.aa .free 4 E,aS b,aS c])]
theorem Tj(h:al (fQ C e a b c d [.r 37 [.agg (bj A f g),ao a] [au q],.b q true,.x A a (aX i j k F),.b (i==8) true,.g E [[I a,I b,I c,I d]] 32,.h [[I a,I b,I c,I d]],.u e])):
 bp (aF f23 0) (pM C e E A f g) .normal (pM C (e+1) (E++[[I a,I b,I c,I d]]) A f g):=
 h.bu [10,9,8,2,5] [2]
theorem Tk(h:al (fQ C a d f g i [.r 37 [.agg (bj A b c),ao d] [au q],.b q true,.x A d (aX e j k F),.b (e==8) false,.u a])):
 bp (aF f23 0) (pM C a E A b c) .normal (pM C (a+1) E A b c):=
 h.bu [10,9,8,2,5] [2]
theorem Tl(h:al (fQ A a d e f g [.r 37 [.agg (bj C b c),ao d] [au q],.b q false,.u a])):
 bp (aF f23 0) (pM A a E C b c) .normal (pM A (a+1) E C b c):=
 h.bu [10,9,8,2,5] [2]
def JS(A:aE):aG:=bR 34 [(5,az.aN (bi.one (bU 31 4 A)))] []
theorem Tm(h:al [.f A a false]):
 bp (aF f23 0) (pM A a C E b c) (.exit 0) (JS C):=
 h.bu [5] []
theorem Tn(h:al [.l [(5,31,4)] [10,9,8,2,5] [2] (aF f23 0) (pM C 0 [] A a b) (.exit 0) (JS E)]):
 aA 23 [.agg (bj A a b),aB 4 C] [aB 4 E]:=
 h.of
theorem To(h:al [.b (a==d) true,.b (b==e) true]):
 aA 83 [.agg [I a,I b,I c,I g],.agg [I d,I e,I f,I i]] [au (c==f)]:=
 h.of
theorem Tp(h:al [.b (a==c) true,.b (b==d) false]):
 aA 83 [.agg [I a,I b,I e,I f],.agg [I c,I d,I g,I i]] [au false]:=
 h.of
theorem Tq(h:al [.b (a==b) false]):
 aA 83 [.agg [I a,I c,I d,I e],.agg [I b,I f,I g,I i]] [au false]:=
 h.of
theorem Tr(h:al [.r 83 [.agg [I e,I f,I g,I i],.agg [I a,I b,I c,I d]] [au q]]):
 aA 82 [.agg [I a,I b,I c,I d],.one (.ptr [I e,I f,I g,I i])] [au q]:=
 h.of
theorem Ts{A:aE}{g1:Nat}{bM:List D}{a:Int}(h:al [.r 88 [aB 4 A,.one (.da g1 bM)] [ao a],.b (a==-1) true]):
 GY 81 [GA.one (dP.ed 4 A none),GA.one (dP.ro (D.da g1 bM))] [aB 4 A]:=
 h.Iz
def q5(g0:Nat)(cf:List D)(a b:Int)(A:aE):aG:=bR 42 [(0,az.aN (bi.one (bU 1000000000 4 A))),(1,.aN (.one (.fd (D.da g0 cf)))),(5,bB b),(6,bB a)] []
theorem Tt{g1:Nat}{bM:List D}{b a:Int}{A:aE}{d e f c:Int}{q:Bool}{d12 d13 d14 d15:D}(h:al (fQ A b d e f c [.p (hM prog g1=true),.r g1 ([.agg [I d,I e,I f,I c]]++List.map .one bM) [au q],.n q true,.x A a [d12,d13,d14,d15],.u a,.u b])):
 bp (aF f81 0) (q5 g1 bM b a A) .normal (q5 g1 bM (b+1) (a+1) (A.set a.toNat [I d,I e,I f,I c])):=
 h.bu [6,0,1,5] []
theorem Tu{g1:Nat}{bM:List D}{a c:Int}{A:aE}{d e f b:Int}{q:Bool}(h:al (fQ A a d e f b [.p (hM prog g1=true),.r g1 ([.agg [I d,I e,I f,I b]]++List.map .one bM) [au q],.n q false,.u a])):
 bp (aF f81 0) (q5 g1 bM a c A) .normal (q5 g1 bM (a+1) c A):=
 h.bu [6,0,1,5] []
def Em(A:aE)(a:Int):aG:=bR 42 [(0,az.aN (bi.one (bU 1000000000 4 A))),(5,bB a)] []
theorem Tv{g1:Nat}{bM:List D}{a b:Int}{A:aE}(h:al [.f A a false]):
 bp (aF f81 0) (q5 g1 bM a b A) (.exit 0) (Em A b):=
 h.bu [0,5] []
theorem Tw{C:aE}{g1:Nat}{bM:List D}{b:Int}{A:aE}{a:Int}(h:al [.r 88 [aB 4 C,.one (.da g1 bM)] [ao b],.b (b==-1) false,.u b,.l [] [6,0,1,5] [] (aF f81 0) (q5 g1 bM (b+1) b C) (.exit 0) (Em A a),.a .own,.p (0<=(some a).getD 0),.p ((some a).getD 0<(A.length:Int)),.h A,.p ((0:Int)<=none.getD 0),.p (none.getD 0<=(some a).getD (↑(List.take ((some a).getD 0).toNat A++List.replicate (A.length-((some a).getD 0).toNat) [I 0,I 0,I 0,I 0]).length:Int)),.p ((some a).getD (↑(List.take ((some a).getD 0).toNat A++List.replicate (A.length-((some a).getD 0).toNat) [I 0,I 0,I 0,I 0]).length:Int)<=(↑(List.take ((some a).getD 0).toNat A++List.replicate (A.length-((some a).getD 0).toNat) [I 0,I 0,I 0,I 0]).length:Int))]):
 GY 81 [GA.one (dP.ed 4 C none),GA.one (dP.ro (D.da g1 bM))] [.one (.aa 4 (List.take (((some a).getD (↑(List.take ((some a).getD 0).toNat A++List.replicate (A.length-((some a).getD 0).toNat) [I 0,I 0,I 0,I 0]).length:Int)).toNat-0) (List.drop 0 (List.take ((some a).getD 0).toNat A++List.replicate (A.length-((some a).getD 0).toNat) [I 0,I 0,I 0,I 0]))))]:=
 h.Iz
def lA(A:aE)(a b c d:Int)(q:Bool)(e:Int):aG:=bR 41 [(1,bB a),(2,bB b),(3,bB c),(10,bB e),(11,.aN (.one (.bP q))),(14,eB 4 A),(15,bB (A.length:Int)),(16,bB d)] []
def z8(A:aE)(a b c d e f g i:Int)(q:Bool)(l:List O):List O:=fQ A a b c d e (.r 83 [.agg [I b,I c,I d,I e],.agg [I f,I g,I i,I 0]] [au q]::l)
theorem Tx(h:al (z8 A a f g i c b d e q [.b q true,.n r true,.u a])):
 bp (aF f80 0) (lA A b d e a r j) .normal (lA A b d e (a+1) true c):=
 h.bu [16,15,14,1,2,3,11,10] []
theorem Ty(h:al (z8 A b g i j a c d e q [.b q true,.n r false,.b (decide (a<f)) true,.u b])):
 bp (aF f80 0) (lA A c d e b r f) .normal (lA A c d e (b+1) true a):=
 h.bu [16,15,14,1,2,3,11,10] []
theorem Tz(h:al (z8 A a g i j c b d e r [.b r true,.n q false,.b (decide (c<f)) false,.u a])):
 bp (aF f80 0) (lA A b d e a q f) .normal (lA A b d e (a+1) q f):=
 h.bu [16,15,14,1,2,3,11,10] []
theorem TA(h:al (z8 A a g i j e b c d q [.b q false,.u a])):
 bp (aF f80 0) (lA A b c d a r f) .normal (lA A b c d (a+1) r f):=
 h.bu [16,15,14,1,2,3,11,10] []
def JT(a:Int)(q:Bool):aG:=bR 41 [(10,bB a),(11,.aN (.one (.bP q)))] []
theorem TB(h:al [.f A a false]):
 bp (aF f80 0) (lA A c d e a q b) (.exit 0) (JT b q):=
 h.bu [10,11] []
theorem TC(h:al [.l [] [16,15,14,1,2,3,11,10] [] (aF f80 0) (lA A a b c 0 false 0) (.exit 0) (JT d q)]):
 aA 80 [aB 4 A,ao a,ao b,ao c] [ao d,au q]:=
 h.of
theorem TD(h:al [.r 80 [aB 4 A,ao a,ao b,ao c] [ao e,au q],.b q true,.b (decide (e<=d)) true,.r 53 [aB 4 A] [aB 4 C]]):
 aA 71 [aB 4 A,.agg [I a,I b,I c,I d]] [aB 4 C,au false]:=
 h.of
theorem TE(h:al [.r 80 [aB 4 A,ao a,ao b,ao c] [ao e,au q],.b q true,.b (decide (e<=d)) false,.r 53 [aB 4 A] [aB 4 F],.a (.oO [[some none],[none]] 0 [] [aB 4 C]),.p (je prog 81 [GA.one (dP.ed 4 F none),GA.one (dP.ro (D.da 82 [D.ptr [I a,I b,I c,I d]]))] [aB 4 C]),.r 72 [aB 4 C,.agg [I a,I b,I c,I d]] [aB 4 E]]):
 aA 71 [aB 4 A,.agg [I a,I b,I c,I d]] [aB 4 E,au true]:=
 h.of
theorem TF(h:al [.r 80 [aB 4 A,ao a,ao b,ao c] [ao e,au q],.b q false,.r 53 [aB 4 A] [aB 4 F],.a (.oO [[some none],[none]] 0 [] [aB 4 C]),.p (je prog 81 [GA.one (dP.ed 4 F none),GA.one (dP.ro (D.da 82 [D.ptr [I a,I b,I c,I d]]))] [aB 4 C]),.r 72 [aB 4 C,.agg [I a,I b,I c,I d]] [aB 4 E]]):
 aA 71 [aB 4 A,.agg [I a,I b,I c,I d]] [aB 4 E,au true]:=
 h.of
theorem TG(h:al [.b (a==5) true,.b (a==5) true,.r 71 [aB 4 A,.agg [I b,I c,I d,I e]] [aB 4 C,au q]]):
 aA 55 [ao a,aB 4 A,.agg [I b,I c,I d,I e]] [aB 4 C,au q]:=
 h.of
theorem TH(h:al [.b (a==5) false,.b (a==8) true,.r 71 [aB 4 A,.agg [I b,I c,I d,I e]] [aB 4 C,au q]]):
 aA 55 [ao a,aB 4 A,.agg [I b,I c,I d,I e]] [aB 4 C,au q]:=
 h.of
theorem S9(h:al [.b (a==5) false,.b (a==8) false,.b (a==6) true,.r 72 [aB 4 A,.agg [I b,I c,I d,I e]] [aB 4 C],.r 73 [aB 4 A,.agg [I b,I c,I d,I e]] [au q]]):
 aA 55 [ao a,aB 4 A,.agg [I b,I c,I d,I e]] [aB 4 C,.one (B !q)]:=
 h.of
theorem S'(h:al [.b (a==5) false,.b (a==8) false,.b (a==6) false,.r 53 [aB 4 A] [aB 4 C]]):
 aA 55 [ao a,aB 4 A,.agg [I b,I c,I d,I e]] [aB 4 C,au true]:=
 h.of
def sN(a b c d e:Int):aG:=bR 41 [(5,.aN (.one (.aa (.own 27) 1 [[I a],[I b],[I c],[I d]]))),(6,bB e)] []
def En(a:Int):aG:=bR 41 [(4,bB a)] []
theorem Ta(h:al [.b (decide (a<4)) true,.x [[I d],[I e],[I b],[I c]] a [I f],.b (f != 0) true,.x [[I d],[I e],[I b],[I c]] a [I g]]):
 bp (aF f77 0) (sN d e b c a) .ret (En g):=
 h.bu [4] []
theorem Tb(h:al [.b (decide (a<4)) true,.x [[I d],[I e],[I b],[I c]] a [I f],.b (f != 0) false,.u a]):
 bp (aF f77 0) (sN d e b c a) .normal (sN d e b c (a+1)):=
 h.bu [6,5] []
def JU:aG:=bR 41 [] []
theorem Tc(h:al [.b (decide (a<4)) false]):
 bp (aF f77 0) (sN d e b c a) (.exit 0) JU:=
 h.bu [] []
theorem Td(h:al [.r 87 [ao b,ao j] [ao m],.r 87 [ao a,ao i] [ao n],.r 87 [ao f,ao k] [ao c],.r 87 [ao g,ao l] [ao d],.l [] [6,5] [] (aF f77 0) (sN m n c d 0) .ret (En e)]):
 aA 77 [.agg [I a,I b,I f,I g],.agg [I i,I j,I k,I l]] [ao e]:=
 h.of
theorem Te(h:al [.r 87 [ao b,ao i] [ao l],.r 87 [ao a,ao g] [ao m],.r 87 [ao e,ao j] [ao c],.r 87 [ao f,ao k] [ao d],.l [] [6,5] [] (aF f77 0) (sN l m c d 0) (.exit 0) JU]):
 aA 77 [.agg [I a,I b,I e,I f],.agg [I g,I i,I j,I k]] [ao 0]:=
 h.of
def sO(A:aE)(a b c d e:Int):aG:=bR 18 [(0,eB 4 A),(3,bC 3),(5,bB e)] [(3,[aS a,aS b,aS c,aS d])]
def Eo(q:Bool):aG:=bR 18 [(4,.aN (.one (.bP q)))] []
theorem Tf(h:al (fQ A e f g i j [.b (f==a&&(g==b&&(i==c&&j==d))) true])):
 bp (aF f75 0) (sO A a b c d e) .ret (Eo true):=
 h.bu [4] []
theorem Tg(h:al (fQ A a f g i j [.b (f==b&&(g==c&&(i==d&&j==e))) false,.u a])):
 bp (aF f75 0) (sO A b c d e a) .normal (sO A b c d e (a+1)):=
 h.bu [5,0,3] [3]
def JV:aG:=bR 18 [] []
theorem Th(h:al [.f A a false]):
 bp (aF f75 0) (sO A b c d e a) (.exit 0) JV:=
 h.bu [] []
theorem UH(h:al [.l [] [5,0,3] [3] (aF f75 0) (sO A a b c d 0) .ret (Eo q)]):
 aA 75 [aB 4 A,.agg [I a,I b,I c,I d]] [au q]:=
 h.of
theorem UI(h:al [.l [] [5,0,3] [3] (aF f75 0) (sO A a b c d 0) (.exit 0) JV]):
 aA 75 [aB 4 A,.agg [I a,I b,I c,I d]] [au false]:=
 h.of
theorem UJ(h:al [.r 75 [aB 4 A,.agg [I a,I b,I c,I d]] [au q],.b q true,.g ([]:aE) A 32,.h A]):
 aA 63 [aB 4 A,.agg [I a,I b,I c,I d]] [aB 4 ([]++A)]:=
 h.of
def r7(A:aE)(a b c d e:Int):aG:=bR 41 [(0,eB 4 A),(3,bC 3),(5,bB e)] [(3,[aS a,aS b,aS c,aS d])]
theorem UK(h:al (fQ A a i j k f [.r 77 [.agg [I i,I j,I k,I f],.agg [I b,I c,I d,I e]] [ao g],.b (decide (g<0)) true,.u a])):
 bp (aF f63 0) (r7 A b c d e a) .normal (r7 A b c d e (a+1)):=
 h.bu [5,0,3] [3]
def wG(A:aE)(a b c d e:Int):aG:=bR 41 [(0,eB 4 A),(3,bC 3),(5,bB e)] [(3,[aS a,aS b,aS c,aS d])]
theorem UL(h:al (fQ A e i j k f [.r 77 [.agg [I i,I j,I k,I f],.agg [I a,I b,I c,I d]] [ao g],.b (decide (g<0)) false])):
 bp (aF f63 0) (r7 A a b c d e) (.exit 0) (wG A a b c d e):=
 h.bu [0,5,3] [3]
theorem UM(h:al [.f A a false]):
 bp (aF f63 0) (r7 A b c d e a) (.exit 0) (wG A b c d e a):=
 h.bu [0,5,3] [3]
theorem UN(h:al [.r 75 [aB 4 A,.agg [I b,I c,I d,I e]] [au q],.b q false,.l [] [5,0,3] [3] (aF f63 0) (r7 A b c d e 0) (.exit 0) (wG A b c d e a),.p ((0:Int)<=none.getD 0),.p (none.getD 0<=(some a).getD (A.length:Int)),.p ((some a).getD (A.length:Int)<=(A.length:Int)),.p ((([]:aE).length+(List.take (((some a).getD (A.length:Int)).toNat-0) (List.drop 0 A)).length)*32<=140737488355328),.p (([]:aE).length+(List.take (((some a).getD (A.length:Int)).toNat-0) (List.drop 0 A)).length<=9223372036854775807),.p (Flat (List.take (((some a).getD (A.length:Int)).toNat-0) (List.drop 0 A))),.p ((([]++List.take (((some a).getD (A.length:Int)).toNat-0) (List.drop 0 A)).length+[[I b,I c,I d,I e]].length)*32<=140737488355328),.p (([]++List.take (((some a).getD (A.length:Int)).toNat-0) (List.drop 0 A)).length+[[I b,I c,I d,I e]].length<=9223372036854775807),.h [[I b,I c,I d,I e]],.p (0<=(some a).getD 0),.p ((some a).getD 0<=none.getD (A.length:Int)),.p (none.getD (A.length:Int)<=(A.length:Int)),.p ((([]++List.take (((some a).getD (A.length:Int)).toNat-0) (List.drop 0 A)++[[I b,I c,I d,I e]]).length+(List.take (A.length-((some a).getD 0).toNat) (List.drop ((some a).getD 0).toNat A)).length)*32<=140737488355328),.p (([]++List.take (((some a).getD (A.length:Int)).toNat-0) (List.drop 0 A)++[[I b,I c,I d,I e]]).length+(List.take (A.length-((some a).getD 0).toNat) (List.drop ((some a).getD 0).toNat A)).length<=9223372036854775807),.p (Flat (List.take (A.length-((some a).getD 0).toNat) (List.drop ((some a).getD 0).toNat A)))]):
 aA 63 [aB 4 A,.agg [I b,I c,I d,I e]] [.one (.aa 4 ([]++List.take (((some a).getD (A.length:Int)).toNat-0) (List.drop 0 A)++[[I b,I c,I d,I e]]++List.take (A.length-((some a).getD 0).toNat) (List.drop ((some a).getD 0).toNat A)))]:=
 h.of
theorem UO(h:al [.v ((A.length:Int)-1),.r 56 [ao a,ao 0,ao ((A.length:Int)-1)] [au q],.n q true]):
 aA 39 [.agg (bj A b c),ao a] [.agg (aX 0 0 0 []),au false]:=
 h.of
theorem UP(h:al [.v ((A.length:Int)-1),.r 56 [ao a,ao 0,ao ((A.length:Int)-1)] [au q],.n q false,.x A a (aX b c d C),.g ([]:aE) C 8,.h C]):
 aA 39 [.agg (bj A e f),ao a] [.agg (aX b c d ([]++C)),au true]:=
 h.of
def pN(A:aE)(a:Int)(C E:aE)(b c:Int):aG:=bR 40 [(1,eB 4 A),(2,bC 2),(5,az.aN (bi.one (bU 9 4 C))),(6,bB a)] [(2,[.aa .free 4 E,aS b,aS c])]
theorem UQ(h:al (fQ A a j k l m [.r 39 [.agg (bj E f g),ao j] [.agg (aX i n o F),au q],.b q true,.b (i==8) true,.x A a [I b,I c,I d,I e],.g C [[I b,I c,I d,I e]] 32,.h [[I b,I c,I d,I e]],.u a])):
 bp (aF f24 0) (pN A a C E f g) .normal (pN A (a+1) (C++[[I b,I c,I d,I e]]) E f g):=
 h.bu [6,1,2,5] [2]
theorem UR(h:al (fQ A a e f g i [.r 39 [.agg (bj C b c),ao e] [.agg (aX d j k F),au q],.b q true,.b (d==8) false,.u a])):
 bp (aF f24 0) (pN A a E C b c) .normal (pN A (a+1) E C b c):=
 h.bu [6,1,2,5] [2]
theorem US(h:al (fQ A a d e f g [.r 39 [.agg (bj C b c),ao d] [.agg (aX i j k F),au q],.b q false,.u a])):
 bp (aF f24 0) (pN A a E C b c) .normal (pN A (a+1) E C b c):=
 h.bu [6,1,2,5] [2]
def JW(A:aE):aG:=bR 40 [(5,az.aN (bi.one (bU 9 4 A)))] []
theorem UT(h:al [.f A a false]):
 bp (aF f24 0) (pN A a C E b c) (.exit 0) (JW C):=
 h.bu [5] []
theorem UU(h:al [.l [] [6,1,2,5] [2] (aF f24 0) (pN C 0 [] A a b) (.exit 0) (JW E)]):
 aA 24 [.agg (bj A a b),aB 4 C] [aB 4 E]:=
 h.of
def jq(A:aE)(a b c d:Int)(q:Bool)(e:Int):aG:=bR 54 [(0,eB 4 A),(1,bB a),(2,bB b),(3,bB c),(10,bB e),(11,.aN (.one (.bP q))),(12,bB d)] []
theorem UW(h:al (fQ A a f g i e [.b (f==b) true,.b (g==c) true,.b (i==d) true,.n q true,.u a])):
 bp (aF f76 0) (jq A b c d a q j) .normal (jq A b c d (a+1) true e):=
 h.bu [12,0,1,2,3,11,10] []
theorem UX(h:al (fQ A a g i j c [.b (g==b) true,.b (i==d) true,.b (j==e) true,.n q false,.b (decide (c<f)) true,.u a])):
 bp (aF f76 0) (jq A b d e a q f) .normal (jq A b d e (a+1) true c):=
 h.bu [12,0,1,2,3,11,10] []
theorem UY(h:al (fQ A a g i j f [.b (g==b) true,.b (i==c) true,.b (j==d) true,.n q false,.b (decide (f<e)) false,.u a])):
 bp (aF f76 0) (jq A b c d a q e) .normal (jq A b c d (a+1) q e):=
 h.bu [12,0,1,2,3,11,10] []
theorem UZ(h:al (fQ A a f g i j [.b (f==b) true,.b (g==c) true,.b (i==d) false,.u a])):
 bp (aF f76 0) (jq A b c d a q e) .normal (jq A b c d (a+1) q e):=
 h.bu [12,0,1,2,3,11,10] []
theorem U0(h:al (fQ A a f g j i [.b (f==b) true,.b (g==c) false,.u a])):
 bp (aF f76 0) (jq A b c d a q e) .normal (jq A b c d (a+1) q e):=
 h.bu [12,0,1,2,3,11,10] []
theorem U1(h:al (fQ A a f i j g [.b (f==b) false,.u a])):
 bp (aF f76 0) (jq A b c d a q e) .normal (jq A b c d (a+1) q e):=
 h.bu [12,0,1,2,3,11,10] []
def JX(a:Int)(q:Bool):aG:=bR 54 [(10,bB a),(11,.aN (.one (.bP q)))] []
theorem U2(h:al [.f A a false]):
 bp (aF f76 0) (jq A c d e a q b) (.exit 0) (JX b q):=
 h.bu [10,11] []
theorem U3(h:al [.l [] [12,0,1,2,3,11,10] [] (aF f76 0) (jq A a b c 0 false 0) (.exit 0) (JX d q)]):
 aA 76 [aB 4 A,ao a,ao b,ao c] [ao d,au q]:=
 h.of
theorem U4(h:al [.b (a==5) true]):
 aA 61 [ao a] [au true]:=
 h.of
theorem U5(h:al [.b (a==5) false,.b (a==6) true]):
 aA 61 [ao a] [au true]:=
 h.of
theorem U6(h:al [.b (a==5) false,.b (a==6) false]):
 aA 61 [ao a] [au (a==8)]:=
 h.of
theorem U7(h:al (z' A [.b (a==6) true,.r 75 [aB 4 A,.agg [I b,I c,I d,I e]] [au q],.b q true])):
 aA 62 [ao a,aB 4 A,.agg [I b,I c,I d,I e]] [aB 4 ([]++A),au false]:=
 h.of
theorem Uh(h:al (z' A [.b (e==6) true,.r 75 [aB 4 A,.agg [I a,I b,I c,I d]] [au q],.b q false,.r 63 [aB 4 A,.agg [I a,I b,I c,I d]] [aB 4 C]])):
 aA 62 [ao e,aB 4 A,.agg [I a,I b,I c,I d]] [aB 4 C,au true]:=
 h.of
def Ga(A:aE)(a:Int)(l:List O):List O:=z' A (.b (a==6) false::l)
def Gb(A:aE)(a b c d e:Int)(q:Bool)(l:List O):List O:=Ga A a (.b (a==5) true::.b (a==5) true::.r 76 [aB 4 A,ao b,ao c,ao d] [ao e,au q]::l)
theorem Ui(h:al (Gb A a b c d f q [.b q true,.b (decide (f<=e)) true])):
 aA 62 [ao a,aB 4 A,.agg [I b,I c,I d,I e]] [aB 4 ([]++A),au false]:=
 h.of
def jr(A:aE)(a b c d e:Int)(C:aE):aG:=bR 94 [(1,eB 4 A),(5,bC 5),(11,az.aN (bi.one (bU 48 4 C))),(12,bB e)] [(5,[aS a,aS b,aS c,aS d])]
theorem Uj(h:al (fQ A a g l m n [.b (g != f) true,.x A a [I b,I c,I d,I e],.g C [[I b,I c,I d,I e]] 32,.h [[I b,I c,I d,I e]],.u a])):
 bp (aF f62 0) (jr A f i j k a C) .normal (jr A f i j k (a+1) (C++[[I b,I c,I d,I e]])):=
 h.bu [12,1,5,11] [5]
theorem Uk(h:al (fQ A a i m n o [.b (i != f) false,.x A a [I p,I j,I a0,I cm],.b (j != g) true,.x A a [I b,I c,I d,I e],.g C [[I b,I c,I d,I e]] 32,.h [[I b,I c,I d,I e]],.u a])):
 bp (aF f62 0) (jr A f g k l a C) .normal (jr A f g k l (a+1) (C++[[I b,I c,I d,I e]])):=
 h.bu [12,1,5,11] [5]
theorem Ul(h:al (fQ A a j n o p [.b (j != f) false,.x A a [I a0,I k,I cm,I dH],.b (k != g) false,.x A a [I d0,I b8,I l,I f0],.b (l != i) true,.x A a [I b,I c,I d,I e],.g C [[I b,I c,I d,I e]] 32,.h [[I b,I c,I d,I e]],.u a])):
 bp (aF f62 0) (jr A f g i m a C) .normal (jr A f g i m (a+1) (C++[[I b,I c,I d,I e]])):=
 h.bu [12,1,5,11] [5]
theorem Um(h:al (fQ A a e j k l [.b (e != b) false,.x A a [I m,I f,I n,I o],.b (f != c) false,.x A a [I p,I a0,I g,I cm],.b (g != d) false,.u a])):
 bp (aF f62 0) (jr A b c d i a C) .normal (jr A b c d i (a+1) C):=
 h.bu [12,1,5,11] [5]
def uh(a b c d:Int)(A:aE):aG:=bR 94 [(5,bC 5),(11,az.aN (bi.one (bU 48 4 A)))] [(5,[aS a,aS b,aS c,aS d])]
theorem Un(h:al [.f A e false]):
 bp (aF f62 0) (jr A a b c d e C) (.exit 1) (uh a b c d C):=
 h.bu [11,5] [5]
theorem Uo(h:al (Gb A e a b c f q [.b q true,.b (decide (f<=d)) false,.l [] [12,1,5,11] [5] (aF f62 0) (jr A a b c d 0 []) (.exit 1) (uh a b c d C),.r 63 [aB 4 C,.agg [I a,I b,I c,I d]] [aB 4 E]])):
 aA 62 [ao e,aB 4 A,.agg [I a,I b,I c,I d]] [aB 4 E,au true]:=
 h.of
theorem Up(h:al (Gb A d a b c f q [.b q false,.l [] [12,1,5,11] [5] (aF f62 0) (jr A a b c e 0 []) (.exit 1) (uh a b c e C),.r 63 [aB 4 C,.agg [I a,I b,I c,I e]] [aB 4 E]])):
 aA 62 [ao d,aB 4 A,.agg [I a,I b,I c,I e]] [aB 4 E,au true]:=
 h.of
def Gc(A:aE)(a b c d e:Int)(q:Bool)(l:List O):List O:=Ga A a (.b (a==5) false::.b (a==8) true::.r 76 [aB 4 A,ao b,ao c,ao d] [ao e,au q]::l)
theorem Uq(h:al (Gc A a b c d f q [.b q true,.b (decide (f<=e)) true])):
 aA 62 [ao a,aB 4 A,.agg [I b,I c,I d,I e]] [aB 4 ([]++A),au false]:=
 h.of
theorem Ur(h:al (Gc A e a b c f q [.b q true,.b (decide (f<=d)) false,.l [] [12,1,5,11] [5] (aF f62 0) (jr A a b c d 0 []) (.exit 1) (uh a b c d C),.r 63 [aB 4 C,.agg [I a,I b,I c,I d]] [aB 4 E]])):
 aA 62 [ao e,aB 4 A,.agg [I a,I b,I c,I d]] [aB 4 E,au true]:=
 h.of
theorem Us(h:al (Gc A d a b c f q [.b q false,.l [] [12,1,5,11] [5] (aF f62 0) (jr A a b c e 0 []) (.exit 1) (uh a b c e C),.r 63 [aB 4 C,.agg [I a,I b,I c,I e]] [aB 4 E]])):
 aA 62 [ao d,aB 4 A,.agg [I a,I b,I c,I e]] [aB 4 E,au true]:=
 h.of
theorem Ut(h:al (Ga A a [.b (a==5) false,.b (a==8) false])):
 aA 62 [ao a,aB 4 A,.agg [I b,I c,I d,I e]] [aB 4 ([]++A),au true]:=
 h.of
