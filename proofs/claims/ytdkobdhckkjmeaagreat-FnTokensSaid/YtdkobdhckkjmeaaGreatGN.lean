import Derived.Test.YtdkobdhckkjmeaaGreatRows
import Derived.Test.YtdkobdhckkjmeaaGreatGE
set_option linter.unusedVariables false
set_option linter.unusedSimpArgs false
namespace Go.Proofs.YtdkobdhckkjmeaaGreat
open Go.Sx Go.RowKit Go.Proofs.Tryz
variable {a b c d e f g i j k l m n o p a0 b0 c0 d0 e0 f0 : Int} {A C E F G H J K L M N P Q : LL} {q r : Bool}
theorem qww(h:Oo [.g ([]:LL) A 40,.h A]):
 Rt 239 [cS 5 A] [cS 5 ([]++A)]:=
 h.of
def y0z(a b:Int)(l:List O):List O:=.b (decide (a<b)) true::l
theorem qwx(h:Oo (y0z b a [])):
 Rt 130 [cI c,cI a,cI b] [cI a]:=
 h.of
def y0A(a b:Int)(l:List O):List O:=.b (decide (a<b)) false::l
theorem qwy(h:Oo (y0A c a [.b (decide (b<a)) true])):
 Rt 130 [cI b,cI a,cI c] [cI a]:=
 h.of
theorem qwz(h:Oo (y0A a c [.b (decide (b<c)) false,.b (decide (b>a)) true])):
 Rt 130 [cI b,cI c,cI a] [cI a]:=
 h.of
theorem qwA(h:Oo (y0A c b [.b (decide (a<b)) false,.b (decide (a>c)) false])):
 Rt 130 [cI a,cI b,cI c] [cI a]:=
 h.of
def qhq(a b:Int)(A:LL):St:=
 { env:=envOf 62 [(3,PV.al (AL.one (lO 9 3 A))),(4,vI a),(5,vI b)],boxes:=[] }
theorem qwE(h:Oo (y0z a b [.g A [[I 1,I a,I 0],[I 3,I a,I 0],[I 2,I a,I 0],[I 7,I a,I 0]] 24,.h [[I 1,I a,I 0],[I 3,I a,I 0],[I 2,I a,I 0],[I 7,I a,I 0]],.u a])):
 Tp (qaa f129 0) (qhq b a A) .normal (qhq b (a+1) (A++[[I 1,I a,I 0],[I 3,I a,I 0],[I 2,I a,I 0],[I 7,I a,I 0]])):=
 h.lp [5,4,3] []
def qp2(a:Int)(A:LL):St:=
 { env:=envOf 62 [(3,PV.al (AL.one (lO 9 3 A))),(4,vI a)],boxes:=[] }
theorem qwF(h:Oo (y0A b a [])):
 Tp (qaa f129 0) (qhq a b A) (.exit 0) (qp2 a A):=
 h.lp [4,3] []
def qhr(a b:Int)(A:LL):St:=
 { env:=envOf 62 [(3,PV.al (AL.one (lO 9 3 A))),(4,vI a),(6,vI b)],boxes:=[] }
def qe0(a b c:Int)(A:LL):St:=
 { env:=envOf 62 [(3,PV.al (AL.one (lO 9 3 A))),(4,vI a),(6,vI b),(7,vI c)],boxes:=[] }
theorem qwG(h:Oo (y0z a c [.b (b != a) true,.g A [[I 4,I b,I a],[I 5,I b,I a]] 24,.h [[I 4,I b,I a],[I 5,I b,I a]],.u a])):
 Tp (qaa f129 2) (qe0 c b a A) .normal (qe0 c b (a+1) (A++[[I 4,I b,I a],[I 5,I b,I a]])):=
 h.lp [7,4,6,3] []
theorem qwH(h:Oo (y0z a b [.b (c != a) false,.u a])):
 Tp (qaa f129 2) (qe0 b c a A) .normal (qe0 b c (a+1) A):=
 h.lp [7,4,6,3] []
def qp3(a b:Int)(A:LL):St:=
 { env:=envOf 62 [(3,PV.al (AL.one (lO 9 3 A))),(4,vI a),(6,vI b)],boxes:=[] }
theorem qwI(h:Oo (y0A b a [])):
 Tp (qaa f129 2) (qe0 a c b A) (.exit 4) (qp3 a c A):=
 h.lp [6,4,3] []
theorem qwJ(h:Oo (y0z a b [.l [] [7,4,6,3] [] (qaa f129 2) (qe0 b a 0 A) (.exit 4) (qp3 b a C),.u a])):
 Tp (qaa f129 1) (qhr b a A) .normal (qhr b (a+1) C):=
 h.lp [6,4,3] []
def qp4(A:LL):St:=
 { env:=envOf 62 [(3,PV.al (AL.one (lO 9 3 A)))],boxes:=[] }
theorem qwK(h:Oo (y0A b a [])):
 Tp (qaa f129 1) (qhr a b A) (.exit 2) (qp4 A):=
 h.lp [3] []
def qhs(a:Int)(A:LL):St:=
 { env:=envOf 62 [(3,PV.al (AL.one (lO 9 3 A))),(8,vI a)],boxes:=[] }
theorem qwL(h:Oo [.b (decide (a≤3)) true,.g A [[I 6,I a,I 0]] 24,.h [[I 6,I a,I 0]],.u a]):
 Tp (qaa f129 3) (qhs a A) .normal (qhs (a+1) (A++[[I 6,I a,I 0]])):=
 h.lp [8,3] []
def qp5(A:LL):St:=
 { env:=envOf 62 [(3,PV.al (AL.one (lO 9 3 A)))],boxes:=[] }
theorem qwM(h:Oo [.b (decide (a≤3)) false]):
 Tp (qaa f129 3) (qhs a A) (.exit 6) (qp5 A):=
 h.lp [3] []
theorem qwN(h:Oo [.r 130 [cI b,cI 0,cI 4] [cI a],.l [] [5,4,3] [] (qaa f129 0) (qhq a 0 []) (.exit 0) (qp2 a C),.l [] [6,4,3] [] (qaa f129 1) (qhr a 0 C) (.exit 2) (qp4 E),.l [] [8,3] [] (qaa f129 3) (qhs 0 E) (.exit 6) (qp5 A)]):
 Rt 129 [.agg (cl F b c G H J K)] [cS 3 A]:=
 h.of
theorem qwZ(h:Oo [.b (decide (a≥b)) true]):
 Rt 158 [cI a,cI b,cI c] [cB (decide (a≤c))]:=
 h.of
theorem qw0(h:Oo [.b (decide (a≥b)) false]):
 Rt 158 [cI a,cI b,cI c] [cB false]:=
 h.of
theorem qw1(h:Oo [.b (decide (a≥b)) true]):
 Rt 167 [cI a,cI b,cI c] [cB (decide (a≤c))]:=
 h.of
theorem qw2(h:Oo [.b (decide (a≥b)) false]):
 Rt 167 [cI a,cI b,cI c] [cB false]:=
 h.of
theorem qw3(h:Oo (y0z a b [])):
 Rt 322 [cI a,cI b] [cI (-1)]:=
 h.of
theorem qw4(h:Oo (y0A a b [.b (decide (a>b)) true])):
 Rt 322 [cI a,cI b] [cI 1]:=
 h.of
theorem qw5(h:Oo (y0A a b [.b (decide (a>b)) false])):
 Rt 322 [cI a,cI b] [cI 0]:=
 h.of
theorem qw6(a:Int)(h:Oo []):
 Rt 365 [cI a] [cB (a != a)]:=
 h.of
def y0B(a:Int)(q:Bool)(b:Int)(r:Bool)(l:List O):List O:=.r 365 [cI a] [cB q]::.r 365 [cI b] [cB r]::.b q false::.b r false::l
theorem qw7(h:Oo (y0B a q b r [.b (decide (a<b)) true])):
 Rt 358 [cI a,cI b] [cI (-1)]:=
 h.of
theorem qw8(h:Oo (y0B a q b r [.b (decide (a<b)) false,.b (decide (a>b)) true])):
 Rt 358 [cI a,cI b] [cI 1]:=
 h.of
theorem qw9(h:Oo (y0B a q b r [.b (decide (a<b)) false,.b (decide (a>b)) false])):
 Rt 358 [cI a,cI b] [cI 0]:=
 h.of
def qe2(A C:LL)(a:Int):St:=
 { env:=envOf 36 [(0,vF 1 A),(1,vF 1 C),(9,vF 1 A),(10,vI (A.length:Int)),(11,vI a)],boxes:=[] }
def qmc(a:Int):St:=
 { env:=envOf 36 [(4,vI a)],boxes:=[] }
theorem qxa(h:Oo [.i C a [I c],.b (decide (a≥(A.length:Int))) false,.x A a [I d],.r 358 [cI c,cI d] [cI b],.b (b != 0) true]):
 Tp (qaa f345 0) (qe2 C A a) .ret (qmc b):=
 h.lp [4] []
theorem qxb(h:Oo [.i C a [I b],.b (decide (a≥(A.length:Int))) false,.x A a [I c],.r 358 [cI b,cI c] [cI d],.b (d != 0) false,.u a]):
 Tp (qaa f345 0) (qe2 C A a) .normal (qe2 C A (a+1)):=
 h.lp [11,10,9,1,0] []
def qqb(A C:LL):St:=
 { env:=envOf 36 [(0,vF 1 A),(1,vF 1 C)],boxes:=[] }
theorem qxc(h:Oo [.f A a false]):
 Tp (qaa f345 0) (qe2 A C a) (.exit 0) (qqb A C):=
 h.lp [0,1] []
theorem qxd(h:Oo [.l [] [11,10,9,1,0] [] (qaa f345 0) (qe2 A C 0) .ret (qmc a)]):
 Rt 345 [cS 1 A,cS 1 C] [cI a]:=
 h.of
theorem qxe(h:Oo [.l [] [11,10,9,1,0] [] (qaa f345 0) (qe2 A C 0) (.exit 0) (qqb A C),.f C (A.length:Int) false]):
 Rt 345 [cS 1 A,cS 1 C] [cI 0]:=
 h.of
theorem qxf(h:Oo [.r 345 [cS 1 A,cS 1 C] [cI a]]):
 Rt 332 [cS 1 A,cS 1 C] [cI a]:=
 h.of
def qe3(A:LL)(a b:Int)(C:LL):St:=
 { env:=envOf 30 [(0,vF 5 A),(1,vI a),(5,PV.al (AL.one (lO 7 5 C))),(6,vI b)],boxes:=[] }
theorem qxp(h:Oo [.i A a (ri j i k l m),.b (i==g) true,.x A a (ri f b c d e),.g C [(ri f b c d e)] 40,.h [(ri f b c d e)],.u a]):
 Tp (qaa f185 0) (qe3 A g a C) .normal (qe3 A g (a+1) (C++[(ri f b c d e)])):=
 h.lp [6,0,1,5] []
theorem qxq(h:Oo [.i A a (ri d c e f g),.b (c==b) false,.u a]):
 Tp (qaa f185 0) (qe3 A b a C) .normal (qe3 A b (a+1) C):=
 h.lp [6,0,1,5] []
def qqe(A:LL):St:=
 { env:=envOf 30 [(5,PV.al (AL.one (lO 7 5 A)))],boxes:=[] }
theorem qxr(h:Oo [.f A a false]):
 Tp (qaa f185 0) (qe3 A b a C) (.exit 0) (qqe C):=
 h.lp [5] []
theorem qxs(h:Oo [.l [] [6,0,1,5] [] (qaa f185 0) (qe3 A a 0 []) (.exit 0) (qqe C)]):
 Rt 185 [cS 5 A,cI a] [cS 5 C]:=
 h.of
def qe4(A:LL)(a b:Int)(C:LL):St:=
 { env:=envOf 25 [(1,vI a),(5,PV.al (AL.one (lO 22 5 C))),(8,vF 5 A),(9,vI (A.length:Int)),(10,vI b)],boxes:=[] }
theorem qxt(h:Oo [.i A b (ri c a d e f),.b (a==g) true,.g C [(ri c a d e f)] 40,.h [(ri c a d e f)],.u b]):
 Tp (qaa f147 0) (qe4 A g b C) .normal (qe4 A g (b+1) (C++[(ri c a d e f)])):=
 h.lp [10,9,8,1,5] []
theorem qxu(h:Oo [.i A a (ri d c e f g),.b (c==b) false,.u a]):
 Tp (qaa f147 0) (qe4 A b a C) .normal (qe4 A b (a+1) C):=
 h.lp [10,9,8,1,5] []
def qqf(A:LL):St:=
 { env:=envOf 25 [(5,PV.al (AL.one (lO 22 5 A)))],boxes:=[] }
theorem qxv(h:Oo [.f A a false]):
 Tp (qaa f147 0) (qe4 A b a C) (.exit 0) (qqf C):=
 h.lp [5] []
theorem qxw(h:Oo [.l [(5,22,5)] [10,9,8,1,5] [] (qaa f147 0) (qe4 A a 0 []) (.exit 0) (qqf C)]):
 Rt 147 [cS 5 A,cI a] [cS 5 C]:=
 h.of
def qe5(A C E F G H J K:LL)(a b:Int):St:=
 { env:=envOf 21 [(1,vI a),(2,vP 2),(5,vI b)],boxes:=[(2,[.sl .free 5 A,.sl .free 5 C,.sl .free 5 E,.sl .free 4 F,.sl .free 1 G,.sl .free 1 H,.sl .free 1 J,.sl .free 2 K])] }
def qmd(q:Bool):St:=
 { env:=envOf 21 [(4,.al (.one (.sb q)))],boxes:=[] }
theorem qxy(h:Oo [.i A c [I a,B q],.b (a==b) true]):
 Tp (qaa f166 0) (qe5 C E F G H J K A b c) .ret (qmd true):=
 h.lp [4] []
theorem qxz(h:Oo [.i A a [I c,B q],.b (c==b) false,.u a]):
 Tp (qaa f166 0) (qe5 C E F G H J K A b a) .normal (qe5 C E F G H J K A b (a+1)):=
 h.lp [5,2,1] [2]
def qqg:St:=
 { env:=envOf 21 [],boxes:=[] }
theorem qxA(h:Oo [.f A a false]):
 Tp (qaa f166 0) (qe5 C E F G H J K A b a) (.exit 0) qqg:=
 h.lp [] []
theorem qxB(h:Oo [.l [] [5,2,1] [2] (qaa f166 0) (qe5 A C E F G H J K a 0) .ret (qmd q)]):
 Rt 166 [.agg (wk A C E F G H J K),cI a] [cB q]:=
 h.of
theorem qxC(h:Oo [.l [] [5,2,1] [2] (qaa f166 0) (qe5 A C E F G H J K a 0) (.exit 0) qqg]):
 Rt 166 [.agg (wk A C E F G H J K),cI a] [cB false]:=
 h.of
theorem qxD(h:Oo [.r 317 [cS 2 A,.one (.cl 318 [D.ptr [I a]])] [cB q]]):
 Rt 271 [cS 2 A,cI a] [cB q]:=
 h.of
theorem qxE(h:Oo []):
 Rt 318 [.agg [I a,B q],.one (.ptr [I b])] [cB (a==b)]:=
 h.of
theorem qxF(h:Oo [.r 271 [cS 2 A,cI a] [cB q]]):
 Rt 163 [.agg (wk C E F G H J K A),cI a] [cB q]:=
 h.of
def qe8(A:LL)(g1:Nat)(k2:List D)(a:Int):St:=
 { env:=envOf 19 [(0,vF 5 A),(1,.al (.one (.fd (D.cl g1 k2)))),(7,vI (A.length:Int)),(8,vI a)],boxes:=[] }
def qmf(a:Int):St:=
 { env:=envOf 19 [(4,vI a)],boxes:=[] }
theorem qx0(A:LL)(g1:Nat)(k2:List D)(a b c d e f:Int)(q:Bool)(h:Oo [.i A a (ri b c d e f),.p (qaT prog g1=true),.r g1 ([.agg (ri b c d e f)]++List.map .one k2) [cB q],.b q true]):
 Tp (qaa f311 0) (qe8 A g1 k2 a) .ret (qmf a):=
 h.lp [4] []
theorem qx1(A:LL)(g1:Nat)(k2:List D)(a b c d e f:Int)(q:Bool)(h:Oo [.i A a (ri b c d e f),.p (qaT prog g1=true),.r g1 ([.agg (ri b c d e f)]++List.map .one k2) [cB q],.b q false,.u a]):
 Tp (qaa f311 0) (qe8 A g1 k2 a) .normal (qe8 A g1 k2 (a+1)):=
 h.lp [8,7,1,0] []
def qql:St:=
 { env:=envOf 19 [],boxes:=[] }
theorem qx2(A:LL)(g1:Nat)(k2:List D)(a:Int)(h:Oo [.f A a false]):
 Tp (qaa f311 0) (qe8 A g1 k2 a) (.exit 0) qql:=
 h.lp [] []
theorem qx3(A:LL)(g1:Nat)(k2:List D)(a:Int)(h:Oo [.l [] [8,7,1,0] [] (qaa f311 0) (qe8 A g1 k2 0) .ret (qmf a)]):
 Rt 311 [cS 5 A,.one (.cl g1 k2)] [cI a]:=
 h.of
theorem qx4(A:LL)(g1:Nat)(k2:List D)(h:Oo [.l [] [8,7,1,0] [] (qaa f311 0) (qe8 A g1 k2 0) (.exit 0) qql]):
 Rt 311 [cS 5 A,.one (.cl g1 k2)] [cI (-1)]:=
 h.of
def qe9(A:LL)(g1:Nat)(k2:List D)(a:Int):St:=
 { env:=envOf 19 [(0,vF 2 A),(1,.al (.one (.fd (D.cl g1 k2)))),(7,vI (A.length:Int)),(8,vI a)],boxes:=[] }
def qmg(a:Int):St:=
 { env:=envOf 19 [(4,vI a)],boxes:=[] }
theorem qx5(A:LL)(g1:Nat)(k2:List D)(a b:Int)(q r:Bool)(h:Oo [.i A a [I b,B q],.p (qaT prog g1=true),.r g1 ([.agg [I b,B q]]++List.map .one k2) [cB r],.b r true]):
 Tp (qaa f339 0) (qe9 A g1 k2 a) .ret (qmg a):=
 h.lp [4] []
theorem qx6(A:LL)(g1:Nat)(k2:List D)(a b:Int)(q r:Bool)(h:Oo [.i A a [I b,B q],.p (qaT prog g1=true),.r g1 ([.agg [I b,B q]]++List.map .one k2) [cB r],.b r false,.u a]):
 Tp (qaa f339 0) (qe9 A g1 k2 a) .normal (qe9 A g1 k2 (a+1)):=
 h.lp [8,7,1,0] []
def qqm:St:=
 { env:=envOf 19 [],boxes:=[] }
theorem qx7(A:LL)(g1:Nat)(k2:List D)(a:Int)(h:Oo [.f A a false]):
 Tp (qaa f339 0) (qe9 A g1 k2 a) (.exit 0) qqm:=
 h.lp [] []
theorem qx8(A:LL)(g1:Nat)(k2:List D)(a:Int)(h:Oo [.l [] [8,7,1,0] [] (qaa f339 0) (qe9 A g1 k2 0) .ret (qmg a)]):
 Rt 339 [cS 2 A,.one (.cl g1 k2)] [cI a]:=
 h.of
theorem qx9(A:LL)(g1:Nat)(k2:List D)(h:Oo [.l [] [8,7,1,0] [] (qaa f339 0) (qe9 A g1 k2 0) (.exit 0) qqm]):
 Rt 339 [cS 2 A,.one (.cl g1 k2)] [cI (-1)]:=
 h.of
theorem qyl(A:LL)(g1:Nat)(k2:List D)(a:Int)(h:Oo [.r 311 [cS 5 A,.one (.cl g1 k2)] [cI a]]):
 Rt 266 [cS 5 A,.one (.cl g1 k2)] [cB (decide (a≥0))]:=
 h.of
theorem qym(A:LL)(g1:Nat)(k2:List D)(a:Int)(h:Oo [.r 339 [cS 2 A,.one (.cl g1 k2)] [cI a]]):
 Rt 317 [cS 2 A,.one (.cl g1 k2)] [cB (decide (a≥0))]:=
 h.of
theorem impl_RoundsDone_p0(h:Oo [.b (decide ((A.length:Int)>0)) true,.p ((0:Int)≤0),.p (0<(A.length:Int)),.e A 0 (wk K L C E F G H J),.r 163 [.agg (wk K L C E F G H J),cI a] [cB q]]):
 Rt 43 [.agg (cl M b c A N P Q),cI a] [cB q]:=
 h.of
theorem impl_RoundsDone_p1(h:Oo [.b (decide ((A.length:Int)>0)) false]):
 Rt 43 [.agg (cl C a b A E F G),cI c] [cB false]:=
 h.of
end Go.Proofs.YtdkobdhckkjmeaaGreat
namespace Go.Proofs.YtdkobdhckkjmeaaGreat
open Go.Sx Go.RowKit Go.Proofs.Tryz
variable {a b c d e f g i j k l m n o p a0 b0 c0 d0 e0 f0 : Int} {A C E F G H J K L M N P Q : LL} {q r : Bool}
def y0C(A:LL)(l:List O):List O:=.g ([]:LL) A 32::.h A::l
theorem qyp(h:Oo (y0C A [])):
 Rt 301 [cS 4 A] [cS 4 ([]++A)]:=
 h.of
theorem qyr(h:Oo [.r 332 [.one (.sl 1 [[I b],[I a],[I c],[I d]]),.one (.sl 1 [[I f],[I e],[I g],[I i]])] [cI j]]):
 Rt 313 [.agg [I a,I b,I c,I d],.agg [I e,I f,I g,I i]] [cI j]:=
 h.of
theorem qqt(h:Oo [.v ((A.length:Int)-1),.r 158 [cI a,cI 0,cI ((A.length:Int)-1)] [cB q]]):
 Rt 250 [.agg (gr A b c),cI a] [cB q]:=
 h.of
def qfe(a b c d e:Int):St:=
 { env:=envOf 41 [(5,.al (.one (.sl (.own 27) 1 [[I a],[I b],[I c],[I d]]))),(6,vI e)],boxes:=[] }
def qmn(a:Int):St:=
 { env:=envOf 41 [(4,vI a)],boxes:=[] }
theorem qyZ(h:Oo [.b (decide (a<4)) true,.x [[I d],[I e],[I b],[I c]] a [I f],.b (f != 0) true,.x [[I d],[I e],[I b],[I c]] a [I g]]):
 Tp (qaa f306 0) (qfe d e b c a) .ret (qmn g):=
 h.lp [4] []
theorem qy0(h:Oo [.b (decide (a<4)) true,.x [[I d],[I e],[I b],[I c]] a [I f],.b (f != 0) false,.u a]):
 Tp (qaa f306 0) (qfe d e b c a) .normal (qfe d e b c (a+1)):=
 h.lp [6,5] []
def qqv:St:=
 { env:=envOf 41 [],boxes:=[] }
theorem qy1(h:Oo [.b (decide (a<4)) false]):
 Tp (qaa f306 0) (qfe d e b c a) (.exit 0) qqv:=
 h.lp [] []
theorem qy2(h:Oo [.r 322 [cI b,cI j] [cI m],.r 322 [cI a,cI i] [cI n],.r 322 [cI f,cI k] [cI c],.r 322 [cI g,cI l] [cI d],.l [] [6,5] [] (qaa f306 0) (qfe m n c d 0) .ret (qmn e)]):
 Rt 306 [.agg [I a,I b,I f,I g],.agg [I i,I j,I k,I l]] [cI e]:=
 h.of
theorem qy3(h:Oo [.r 322 [cI b,cI i] [cI l],.r 322 [cI a,cI g] [cI m],.r 322 [cI e,cI j] [cI c],.r 322 [cI f,cI k] [cI d],.l [] [6,5] [] (qaa f306 0) (qfe l m c d 0) (.exit 0) qqv]):
 Rt 306 [.agg [I a,I b,I e,I f],.agg [I g,I i,I j,I k]] [cI 0]:=
 h.of
def qff(A:LL)(a b c d e:Int):St:=
 { env:=envOf 18 [(0,vF 4 A),(3,vP 3),(5,vI e)],boxes:=[(3,[lI a,lI b,lI c,lI d])] }
def qmo(q:Bool):St:=
 { env:=envOf 18 [(4,.al (.one (.sb q)))],boxes:=[] }
theorem qy4(h:Oo [.i A e [I f,I g,I i,I j],.b (f==a&&(g==b&&(i==c&&j==d))) true]):
 Tp (qaa f305 0) (qff A a b c d e) .ret (qmo true):=
 h.lp [4] []
theorem qy5(h:Oo [.i A a [I f,I g,I i,I j],.b (f==b&&(g==c&&(i==d&&j==e))) false,.u a]):
 Tp (qaa f305 0) (qff A b c d e a) .normal (qff A b c d e (a+1)):=
 h.lp [5,0,3] [3]
def qqw:St:=
 { env:=envOf 18 [],boxes:=[] }
theorem qy6(h:Oo [.f A a false]):
 Tp (qaa f305 0) (qff A b c d e a) (.exit 0) qqw:=
 h.lp [] []
theorem qy7(h:Oo [.l [] [5,0,3] [3] (qaa f305 0) (qff A a b c d 0) .ret (qmo q)]):
 Rt 305 [cS 4 A,.agg [I a,I b,I c,I d]] [cB q]:=
 h.of
theorem qy8(h:Oo [.l [] [5,0,3] [3] (qaa f305 0) (qff A a b c d 0) (.exit 0) qqw]):
 Rt 305 [cS 4 A,.agg [I a,I b,I c,I d]] [cB false]:=
 h.of
theorem qy9(h:Oo [.r 305 [cS 4 A,.agg [I a,I b,I c,I d]] [cB q],.b q true,.g ([]:LL) A 32,.h A]):
 Rt 249 [cS 4 A,.agg [I a,I b,I c,I d]] [cS 4 ([]++A)]:=
 h.of
def qfg(A:LL)(a b c d e:Int):St:=
 { env:=envOf 41 [(0,vF 4 A),(3,vP 3),(5,vI e)],boxes:=[(3,[lI a,lI b,lI c,lI d])] }
theorem qza(h:Oo [.i A a [I i,I j,I k,I f],.r 306 [.agg [I i,I j,I k,I f],.agg [I b,I c,I d,I e]] [cI g],.b (decide (g<0)) true,.u a]):
 Tp (qaa f249 0) (qfg A b c d e a) .normal (qfg A b c d e (a+1)):=
 h.lp [5,0,3] [3]
def qhy(A:LL)(a b c d e:Int):St:=
 { env:=envOf 41 [(0,vF 4 A),(3,vP 3),(5,vI e)],boxes:=[(3,[lI a,lI b,lI c,lI d])] }
theorem qzb(h:Oo [.i A e [I i,I j,I k,I f],.r 306 [.agg [I i,I j,I k,I f],.agg [I a,I b,I c,I d]] [cI g],.b (decide (g<0)) false]):
 Tp (qaa f249 0) (qfg A a b c d e) (.exit 0) (qhy A a b c d e):=
 h.lp [0,5,3] [3]
theorem qzc(h:Oo [.f A a false]):
 Tp (qaa f249 0) (qfg A b c d e a) (.exit 0) (qhy A b c d e a):=
 h.lp [0,5,3] [3]
theorem qzd(h:Oo [.r 305 [cS 4 A,.agg [I b,I c,I d,I e]] [cB q],.b q false,.l [] [5,0,3] [3] (qaa f249 0) (qfg A b c d e 0) (.exit 0) (qhy A b c d e a),.p ((0:Int)≤none.getD 0),.p (none.getD 0≤(some a).getD (A.length:Int)),.p ((some a).getD (A.length:Int)≤(A.length:Int)),.p ((([]:LL).length+(List.take (((some a).getD (A.length:Int)).toNat-0) (List.drop 0 A)).length)*32≤140737488355328),.p (([]:LL).length+(List.take (((some a).getD (A.length:Int)).toNat-0) (List.drop 0 A)).length≤9223372036854775807),.p (Flat (List.take (((some a).getD (A.length:Int)).toNat-0) (List.drop 0 A))),.p ((([]++List.take (((some a).getD (A.length:Int)).toNat-0) (List.drop 0 A)).length+[[I b,I c,I d,I e]].length)*32≤140737488355328),.p (([]++List.take (((some a).getD (A.length:Int)).toNat-0) (List.drop 0 A)).length+[[I b,I c,I d,I e]].length≤9223372036854775807),.h [[I b,I c,I d,I e]],.p (0≤(some a).getD 0),.p ((some a).getD 0≤none.getD (A.length:Int)),.p (none.getD (A.length:Int)≤(A.length:Int)),.p ((([]++List.take (((some a).getD (A.length:Int)).toNat-0) (List.drop 0 A)++[[I b,I c,I d,I e]]).length+(List.take (A.length-((some a).getD 0).toNat) (List.drop ((some a).getD 0).toNat A)).length)*32≤140737488355328),.p (([]++List.take (((some a).getD (A.length:Int)).toNat-0) (List.drop 0 A)++[[I b,I c,I d,I e]]).length+(List.take (A.length-((some a).getD 0).toNat) (List.drop ((some a).getD 0).toNat A)).length≤9223372036854775807),.p (Flat (List.take (A.length-((some a).getD 0).toNat) (List.drop ((some a).getD 0).toNat A)))]):
 Rt 249 [cS 4 A,.agg [I b,I c,I d,I e]] [.one (.sl 4 ([]++List.take (((some a).getD (A.length:Int)).toNat-0) (List.drop 0 A)++[[I b,I c,I d,I e]]++List.take (A.length-((some a).getD 0).toNat) (List.drop ((some a).getD 0).toNat A)))]:=
 h.of
theorem qze(h:Oo [.v ((A.length:Int)-1),.r 167 [cI a,cI 0,cI ((A.length:Int)-1)] [cB q],.n q true]):
 Rt 248 [.agg (gr A b c),cI a] [.agg (nd 0 0 0 []),cB false]:=
 h.of
theorem qzf(h:Oo [.v ((A.length:Int)-1),.r 167 [cI a,cI 0,cI ((A.length:Int)-1)] [cB q],.n q false,.x A a (nd b c d C),.g ([]:LL) C 8,.h C]):
 Rt 248 [.agg (gr A e f),cI a] [.agg (nd b c d ([]++C)),cB true]:=
 h.of
def qbW(A:LL)(a b c d:Int)(q:Bool)(e:Int):St:=
 { env:=envOf 54 [(0,vF 4 A),(1,vI a),(2,vI b),(3,vI c),(10,vI e),(11,.al (.one (.sb q))),(12,vI d)],boxes:=[] }
def y0G(A:LL)(a b c d e f g:Int)(l:List O):List O:=.i A a [I b,I c,I d,I e]::.b (b==f) true::.b (c==g) true::l
theorem qzg(h:Oo (y0G A a f g i e b c [.b (i==d) true,.n q true,.u a])):
 Tp (qaa f324 0) (qbW A b c d a q j) .normal (qbW A b c d (a+1) true e):=
 h.lp [12,0,1,2,3,11,10] []
theorem qzh(h:Oo (y0G A a g i j c b d [.b (j==e) true,.n q false,.b (decide (c<f)) true,.u a])):
 Tp (qaa f324 0) (qbW A b d e a q f) .normal (qbW A b d e (a+1) true c):=
 h.lp [12,0,1,2,3,11,10] []
theorem qzi(h:Oo (y0G A a g i j f b c [.b (j==d) true,.n q false,.b (decide (f<e)) false,.u a])):
 Tp (qaa f324 0) (qbW A b c d a q e) .normal (qbW A b c d (a+1) q e):=
 h.lp [12,0,1,2,3,11,10] []
theorem qzj(h:Oo (y0G A a f g i j b c [.b (i==d) false,.u a])):
 Tp (qaa f324 0) (qbW A b c d a q e) .normal (qbW A b c d (a+1) q e):=
 h.lp [12,0,1,2,3,11,10] []
theorem qzk(h:Oo [.i A a [I f,I g,I j,I i],.b (f==b) true,.b (g==c) false,.u a]):
 Tp (qaa f324 0) (qbW A b c d a q e) .normal (qbW A b c d (a+1) q e):=
 h.lp [12,0,1,2,3,11,10] []
theorem qzl(h:Oo [.i A a [I f,I i,I j,I g],.b (f==b) false,.u a]):
 Tp (qaa f324 0) (qbW A b c d a q e) .normal (qbW A b c d (a+1) q e):=
 h.lp [12,0,1,2,3,11,10] []
def qqx(a:Int)(q:Bool):St:=
 { env:=envOf 54 [(10,vI a),(11,.al (.one (.sb q)))],boxes:=[] }
theorem qzm(h:Oo [.f A a false]):
 Tp (qaa f324 0) (qbW A c d e a q b) (.exit 0) (qqx b q):=
 h.lp [10,11] []
theorem qzn(h:Oo [.l [] [12,0,1,2,3,11,10] [] (qaa f324 0) (qbW A a b c 0 false 0) (.exit 0) (qqx d q)]):
 Rt 324 [cS 4 A,cI a,cI b,cI c] [cI d,cB q]:=
 h.of
theorem qzo(h:Oo [.b (a==5) true]):
 Rt 294 [cI a] [cB true]:=
 h.of
theorem qzp(h:Oo [.b (a==5) false,.b (a==6) true]):
 Rt 294 [cI a] [cB true]:=
 h.of
theorem qzq(h:Oo [.b (a==5) false,.b (a==6) false]):
 Rt 294 [cI a] [cB (a==8)]:=
 h.of
theorem qzr(h:Oo (y0C A [.b (a==6) true,.r 305 [cS 4 A,.agg [I b,I c,I d,I e]] [cB q],.b q true])):
 Rt 295 [cI a,cS 4 A,.agg [I b,I c,I d,I e]] [cS 4 ([]++A),cB false]:=
 h.of
theorem qzs(h:Oo (y0C A [.b (e==6) true,.r 305 [cS 4 A,.agg [I a,I b,I c,I d]] [cB q],.b q false,.r 249 [cS 4 A,.agg [I a,I b,I c,I d]] [cS 4 C]])):
 Rt 295 [cI e,cS 4 A,.agg [I a,I b,I c,I d]] [cS 4 C,cB true]:=
 h.of
def y0D(A:LL)(a:Int)(l:List O):List O:=y0C A (.b (a==6) false::l)
def y0E(A:LL)(a b c d e:Int)(q:Bool)(l:List O):List O:=y0D A a (.b (a==5) true::.b (a==5) true::.r 324 [cS 4 A,cI b,cI c,cI d] [cI e,cB q]::l)
theorem qzt(h:Oo (y0E A a b c d f q [.b q true,.b (decide (f≤e)) true])):
 Rt 295 [cI a,cS 4 A,.agg [I b,I c,I d,I e]] [cS 4 ([]++A),cB false]:=
 h.of
def qbX(A:LL)(a b c d e:Int)(C:LL):St:=
 { env:=envOf 94 [(1,vF 4 A),(5,vP 5),(11,PV.al (AL.one (lO 48 4 C))),(12,vI e)],boxes:=[(5,[lI a,lI b,lI c,lI d])] }
theorem qzu(h:Oo [.i A a [I g,I l,I m,I n],.b (g != f) true,.x A a [I b,I c,I d,I e],.g C [[I b,I c,I d,I e]] 32,.h [[I b,I c,I d,I e]],.u a]):
 Tp (qaa f295 0) (qbX A f i j k a C) .normal (qbX A f i j k (a+1) (C++[[I b,I c,I d,I e]])):=
 h.lp [12,1,5,11] [5]
theorem qzv(h:Oo [.i A a [I i,I m,I n,I o],.b (i != f) false,.x A a [I p,I j,I a0,I b0],.b (j != g) true,.x A a [I b,I c,I d,I e],.g C [[I b,I c,I d,I e]] 32,.h [[I b,I c,I d,I e]],.u a]):
 Tp (qaa f295 0) (qbX A f g k l a C) .normal (qbX A f g k l (a+1) (C++[[I b,I c,I d,I e]])):=
 h.lp [12,1,5,11] [5]
theorem qzw(h:Oo [.i A a [I j,I n,I o,I p],.b (j != f) false,.x A a [I a0,I k,I b0,I c0],.b (k != g) false,.x A a [I d0,I e0,I l,I f0],.b (l != i) true,.x A a [I b,I c,I d,I e],.g C [[I b,I c,I d,I e]] 32,.h [[I b,I c,I d,I e]],.u a]):
 Tp (qaa f295 0) (qbX A f g i m a C) .normal (qbX A f g i m (a+1) (C++[[I b,I c,I d,I e]])):=
 h.lp [12,1,5,11] [5]
theorem qzx(h:Oo [.i A a [I e,I j,I k,I l],.b (e != b) false,.x A a [I m,I f,I n,I o],.b (f != c) false,.x A a [I p,I a0,I g,I b0],.b (g != d) false,.u a]):
 Tp (qaa f295 0) (qbX A b c d i a C) .normal (qbX A b c d i (a+1) C):=
 h.lp [12,1,5,11] [5]
def qgj(a b c d:Int)(A:LL):St:=
 { env:=envOf 94 [(5,vP 5),(11,PV.al (AL.one (lO 48 4 A)))],boxes:=[(5,[lI a,lI b,lI c,lI d])] }
theorem qzy(h:Oo [.f A e false]):
 Tp (qaa f295 0) (qbX A a b c d e C) (.exit 1) (qgj a b c d C):=
 h.lp [11,5] [5]
theorem qzz(h:Oo (y0E A e a b c f q [.b q true,.b (decide (f≤d)) false,.l [] [12,1,5,11] [5] (qaa f295 0) (qbX A a b c d 0 []) (.exit 1) (qgj a b c d C),.r 249 [cS 4 C,.agg [I a,I b,I c,I d]] [cS 4 E]])):
 Rt 295 [cI e,cS 4 A,.agg [I a,I b,I c,I d]] [cS 4 E,cB true]:=
 h.of
theorem qzA(h:Oo (y0E A d a b c f q [.b q false,.l [] [12,1,5,11] [5] (qaa f295 0) (qbX A a b c e 0 []) (.exit 1) (qgj a b c e C),.r 249 [cS 4 C,.agg [I a,I b,I c,I e]] [cS 4 E]])):
 Rt 295 [cI d,cS 4 A,.agg [I a,I b,I c,I e]] [cS 4 E,cB true]:=
 h.of
def y0F(A:LL)(a b c d e:Int)(q:Bool)(l:List O):List O:=y0D A a (.b (a==5) false::.b (a==8) true::.r 324 [cS 4 A,cI b,cI c,cI d] [cI e,cB q]::l)
theorem qzB(h:Oo (y0F A a b c d f q [.b q true,.b (decide (f≤e)) true])):
 Rt 295 [cI a,cS 4 A,.agg [I b,I c,I d,I e]] [cS 4 ([]++A),cB false]:=
 h.of
theorem qzC(h:Oo (y0F A e a b c f q [.b q true,.b (decide (f≤d)) false,.l [] [12,1,5,11] [5] (qaa f295 0) (qbX A a b c d 0 []) (.exit 1) (qgj a b c d C),.r 249 [cS 4 C,.agg [I a,I b,I c,I d]] [cS 4 E]])):
 Rt 295 [cI e,cS 4 A,.agg [I a,I b,I c,I d]] [cS 4 E,cB true]:=
 h.of
theorem qzD(h:Oo (y0F A d a b c f q [.b q false,.l [] [12,1,5,11] [5] (qaa f295 0) (qbX A a b c e 0 []) (.exit 1) (qgj a b c e C),.r 249 [cS 4 C,.agg [I a,I b,I c,I e]] [cS 4 E]])):
 Rt 295 [cI d,cS 4 A,.agg [I a,I b,I c,I e]] [cS 4 E,cB true]:=
 h.of
theorem qzE(h:Oo (y0D A a [.b (a==5) false,.b (a==8) false])):
 Rt 295 [cI a,cS 4 A,.agg [I b,I c,I d,I e]] [cS 4 ([]++A),cB true]:=
 h.of
