import Derived.Test.YtdkobdhckkjmeaaGreatRows
import Derived.Test.YtdkobdhckkjmeaaGreatGE
set_option linter.unusedVariables false
set_option linter.unusedSimpArgs false
namespace Go.Proofs.YtdkobdhckkjmeaaGreat
open Go.Sx Go.RowKit Go.Proofs.Tryz
variable {a b c d e f g i j k l m n o : Int} {A C E F G H J K L M N P Q R S U V W X Y Z A0 C0 : LL} {q r s : Bool}
theorem qv5(h:Oo [.g ([]:LL) A 40,.h A]):
 Rt 239 [cS 5 A] [cS 5 ([]++A)]:=
 h.of
def y08(a b:Int)(l:List O):List O:=.b (decide (a<b)) true::l
theorem qv6(h:Oo (y08 b a [])):
 Rt 130 [cI c,cI a,cI b] [cI a]:=
 h.of
def y09(a b:Int)(l:List O):List O:=.b (decide (a<b)) false::l
theorem qv7(h:Oo (y09 c a [.b (decide (b<a)) true])):
 Rt 130 [cI b,cI a,cI c] [cI a]:=
 h.of
theorem qv8(h:Oo (y09 a c [.b (decide (b<c)) false,.b (decide (b>a)) true])):
 Rt 130 [cI b,cI c,cI a] [cI a]:=
 h.of
theorem qv9(h:Oo (y09 c b [.b (decide (a<b)) false,.b (decide (a>c)) false])):
 Rt 130 [cI a,cI b,cI c] [cI a]:=
 h.of
theorem qwa(h:Oo (y08 b a [])):
 Rt 160 [cI c,cI a,cI b] [cI a]:=
 h.of
theorem qwb(h:Oo (y09 c a [.b (decide (b<a)) true])):
 Rt 160 [cI b,cI a,cI c] [cI a]:=
 h.of
theorem qwc(h:Oo (y09 b c [.b (decide (a<c)) false])):
 Rt 160 [cI a,cI c,cI b] [cI (if b<a then b else a)]:=
 h.of
def qhv(a b:Int)(A:LL):St:=
 { env:=envOf 65 [(3,vI a),(4,PV.al (AL.one (lO 31 3 A))),(5,vI b)],boxes:=[] }
def qdS(a b c:Int)(A:LL):St:=
 { env:=envOf 65 [(3,vI a),(4,PV.al (AL.one (lO 31 3 A))),(5,vI b),(20,.al (.one (.sl (.own 20) 1 [[I 1],[I 3],[I 2],[I 7]]))),(21,vI (↑[[I 1],[I 3],[I 2],[I 7]].length:Int)),(22,vI c)],boxes:=[] }
theorem qjv(h:Oo [.i [[I 1],[I 3],[I 2],[I 7]] b [I c],.g A [[I c,I a,I 0]] 24,.h [[I c,I a,I 0]],.u b]):
 Tp (qaa f211 1) (qdS d a b A) .normal (qdS d a (b+1) (A++[[I c,I a,I 0]])):=
 h.lp [22,21,20,4,5,3] []
def qp6(a b:Int)(A:LL):St:=
 { env:=envOf 65 [(3,vI a),(4,PV.al (AL.one (lO 31 3 A))),(5,vI b)],boxes:=[] }
theorem qwn(h:Oo [.f [[I 1],[I 3],[I 2],[I 7]] a false]):
 Tp (qaa f211 1) (qdS b c a A) (.exit 2) (qp6 b c A):=
 h.lp [5,3,4] []
theorem qwo(h:Oo (y08 a b [.l [] [22,21,20,4,5,3] [] (qaa f211 1) (qdS b a 0 C) (.exit 2) (qp6 b a A),.u a])):
 Tp (qaa f211 0) (qhv b a C) .normal (qhv b (a+1) A):=
 h.lp [5,3,4] []
def qp7(a:Int)(A:LL):St:=
 { env:=envOf 65 [(3,vI a),(4,PV.al (AL.one (lO 31 3 A)))],boxes:=[] }
theorem qwp(h:Oo (y09 b a [])):
 Tp (qaa f211 0) (qhv a b A) (.exit 0) (qp7 a A):=
 h.lp [3,4] []
def qhw(a b:Int)(A:LL):St:=
 { env:=envOf 65 [(3,vI a),(4,PV.al (AL.one (lO 31 3 A))),(8,vI b)],boxes:=[] }
def qe4(a b c:Int)(A:LL):St:=
 { env:=envOf 65 [(3,vI a),(4,PV.al (AL.one (lO 31 3 A))),(8,vI b),(9,vI c)],boxes:=[] }
theorem qwq(h:Oo (y08 a c [.b (b != a) true,.g A [[I 4,I b,I a],[I 5,I b,I a]] 24,.h [[I 4,I b,I a],[I 5,I b,I a]],.u a])):
 Tp (qaa f211 3) (qe4 c b a A) .normal (qe4 c b (a+1) (A++[[I 4,I b,I a],[I 5,I b,I a]])):=
 h.lp [9,3,8,4] []
theorem qwr(h:Oo (y08 a b [.b (c != a) false,.u a])):
 Tp (qaa f211 3) (qe4 b c a A) .normal (qe4 b c (a+1) A):=
 h.lp [9,3,8,4] []
def qp8(a b:Int)(A:LL):St:=
 { env:=envOf 65 [(3,vI a),(4,PV.al (AL.one (lO 31 3 A))),(8,vI b)],boxes:=[] }
theorem qws(h:Oo (y09 b a [])):
 Tp (qaa f211 3) (qe4 a c b A) (.exit 6) (qp8 a c A):=
 h.lp [8,3,4] []
theorem qwt(h:Oo (y08 a b [.l [] [9,3,8,4] [] (qaa f211 3) (qe4 b a 0 A) (.exit 6) (qp8 b a C),.u a])):
 Tp (qaa f211 2) (qhw b a A) .normal (qhw b (a+1) C):=
 h.lp [8,3,4] []
def qp9(A:LL):St:=
 { env:=envOf 65 [(4,PV.al (AL.one (lO 31 3 A)))],boxes:=[] }
theorem qwu(h:Oo (y09 b a [])):
 Tp (qaa f211 2) (qhw a b A) (.exit 4) (qp9 A):=
 h.lp [4] []
def qhx(a:Int)(A:LL):St:=
 { env:=envOf 65 [(4,PV.al (AL.one (lO 31 3 A))),(10,vI a)],boxes:=[] }
theorem qwv(h:Oo [.b (decide (a≤3)) true,.g A [[I 6,I a,I 0]] 24,.h [[I 6,I a,I 0]],.u a]):
 Tp (qaa f211 4) (qhx a A) .normal (qhx (a+1) (A++[[I 6,I a,I 0]])):=
 h.lp [10,4] []
def qqa(A:LL):St:=
 { env:=envOf 65 [(4,PV.al (AL.one (lO 31 3 A)))],boxes:=[] }
theorem qww(h:Oo [.b (decide (a≤3)) false]):
 Tp (qaa f211 4) (qhx a A) (.exit 8) (qqa A):=
 h.lp [4] []
theorem qwx(h:Oo [.r 160 [cI b,cI 0,cI 4] [cI a],.l [(4,31,3)] [5,3,4] [] (qaa f211 0) (qhv a 0 []) (.exit 0) (qp7 a C),.l [] [8,3,4] [] (qaa f211 2) (qhw a 0 C) (.exit 4) (qp9 E),.l [] [10,4] [] (qaa f211 4) (qhx 0 E) (.exit 8) (qqa A)]):
 Rt 211 [.agg (cl F b c G H J K)] [cS 3 A]:=
 h.of
theorem qwy(h:Oo [.b (decide (a≥b)) true]):
 Rt 158 [cI a,cI b,cI c] [cB (decide (a≤c))]:=
 h.of
theorem qwz(h:Oo [.b (decide (a≥b)) false]):
 Rt 158 [cI a,cI b,cI c] [cB false]:=
 h.of
theorem qwA(h:Oo [.b (decide (a≥b)) true]):
 Rt 167 [cI a,cI b,cI c] [cB (decide (a≤c))]:=
 h.of
theorem qwB(h:Oo [.b (decide (a≥b)) false]):
 Rt 167 [cI a,cI b,cI c] [cB false]:=
 h.of
theorem qwC(h:Oo (y08 a b [])):
 Rt 322 [cI a,cI b] [cI (-1)]:=
 h.of
theorem qwD(h:Oo (y09 a b [.b (decide (a>b)) true])):
 Rt 322 [cI a,cI b] [cI 1]:=
 h.of
theorem qwE(h:Oo (y09 a b [.b (decide (a>b)) false])):
 Rt 322 [cI a,cI b] [cI 0]:=
 h.of
theorem qwF(a:Int)(h:Oo []):
 Rt 365 [cI a] [cB (a != a)]:=
 h.of
def y0a(a:Int)(q:Bool)(b:Int)(r:Bool)(l:List O):List O:=.r 365 [cI a] [cB q]::.r 365 [cI b] [cB r]::.b q false::.b r false::l
theorem qwG(h:Oo (y0a a q b r [.b (decide (a<b)) true])):
 Rt 358 [cI a,cI b] [cI (-1)]:=
 h.of
theorem qwH(h:Oo (y0a a q b r [.b (decide (a<b)) false,.b (decide (a>b)) true])):
 Rt 358 [cI a,cI b] [cI 1]:=
 h.of
theorem qwI(h:Oo (y0a a q b r [.b (decide (a<b)) false,.b (decide (a>b)) false])):
 Rt 358 [cI a,cI b] [cI 0]:=
 h.of
def qe5(A C:LL)(a:Int):St:=
 { env:=envOf 36 [(0,vF 1 A),(1,vF 1 C),(9,vF 1 A),(10,vI (A.length:Int)),(11,vI a)],boxes:=[] }
def qmc(a:Int):St:=
 { env:=envOf 36 [(4,vI a)],boxes:=[] }
theorem qwJ(h:Oo [.i C a [I c],.b (decide (a≥(A.length:Int))) false,.x A a [I d],.r 358 [cI c,cI d] [cI b],.b (b != 0) true]):
 Tp (qaa f345 0) (qe5 C A a) .ret (qmc b):=
 h.lp [4] []
theorem qwK(h:Oo [.i C a [I b],.b (decide (a≥(A.length:Int))) false,.x A a [I c],.r 358 [cI b,cI c] [cI d],.b (d != 0) false,.u a]):
 Tp (qaa f345 0) (qe5 C A a) .normal (qe5 C A (a+1)):=
 h.lp [11,10,9,1,0] []
def qqb(A C:LL):St:=
 { env:=envOf 36 [(0,vF 1 A),(1,vF 1 C)],boxes:=[] }
theorem qwL(h:Oo [.f A a false]):
 Tp (qaa f345 0) (qe5 A C a) (.exit 0) (qqb A C):=
 h.lp [0,1] []
theorem qwM(h:Oo [.l [] [11,10,9,1,0] [] (qaa f345 0) (qe5 A C 0) .ret (qmc a)]):
 Rt 345 [cS 1 A,cS 1 C] [cI a]:=
 h.of
theorem qwN(h:Oo [.l [] [11,10,9,1,0] [] (qaa f345 0) (qe5 A C 0) (.exit 0) (qqb A C),.f C (A.length:Int) false]):
 Rt 345 [cS 1 A,cS 1 C] [cI 0]:=
 h.of
theorem qwO(h:Oo [.r 345 [cS 1 A,cS 1 C] [cI a]]):
 Rt 332 [cS 1 A,cS 1 C] [cI a]:=
 h.of
def qe7(A:LL)(a b:Int)(C:LL):St:=
 { env:=envOf 25 [(1,vI a),(5,PV.al (AL.one (lO 22 5 C))),(8,vF 5 A),(9,vI (A.length:Int)),(10,vI b)],boxes:=[] }
theorem qw2(h:Oo [.i A b (ri c a d e f),.b (a==g) true,.g C [(ri c a d e f)] 40,.h [(ri c a d e f)],.u b]):
 Tp (qaa f147 0) (qe7 A g b C) .normal (qe7 A g (b+1) (C++[(ri c a d e f)])):=
 h.lp [10,9,8,1,5] []
theorem qw3(h:Oo [.i A a (ri d c e f g),.b (c==b) false,.u a]):
 Tp (qaa f147 0) (qe7 A b a C) .normal (qe7 A b (a+1) C):=
 h.lp [10,9,8,1,5] []
def qqf(A:LL):St:=
 { env:=envOf 25 [(5,PV.al (AL.one (lO 22 5 A)))],boxes:=[] }
theorem qw4(h:Oo [.f A a false]):
 Tp (qaa f147 0) (qe7 A b a C) (.exit 0) (qqf C):=
 h.lp [5] []
theorem qw5(h:Oo [.l [(5,22,5)] [10,9,8,1,5] [] (qaa f147 0) (qe7 A a 0 []) (.exit 0) (qqf C)]):
 Rt 147 [cS 5 A,cI a] [cS 5 C]:=
 h.of
theorem qxc(h:Oo [.r 317 [cS 2 A,.one (.cl 318 [D.ptr [I a]])] [cB q]]):
 Rt 271 [cS 2 A,cI a] [cB q]:=
 h.of
theorem qxd(h:Oo []):
 Rt 318 [.agg [I a,B q],.one (.ptr [I b])] [cB (a==b)]:=
 h.of
theorem qxe(h:Oo [.r 271 [cS 2 A,cI a] [cB q]]):
 Rt 163 [.agg (wk C E F G H J K A),cI a] [cB q]:=
 h.of
def qe9(a b c:Int)(q:Bool)(E F G H J K A C:LL):St:=
 { env:=envOf 28 [(1,vI a),(2,vP 2),(4,vP 4),(6,vI b)],boxes:=[(4,[lI c,.sb q]),(2,[.sl .free 5 E,.sl .free 5 F,.sl .free 5 G,.sl .free 4 H,.sl .free 1 J,.sl .free 1 K,.sl .free 1 A,.sl .free 2 C])] }
def qqh(q:Bool)(a:Int)(r:Bool):St:=
 { env:=envOf 28 [(4,vP 4),(5,.al (.one (.sb q)))],boxes:=[(4,[lI a,.sb r])] }
theorem qxf(h:Oo [.i A a [I b,B s],.b (b==d) true,.x A a [I c,B q]]):
 Tp (qaa f20 0) (qe9 d a e r C E F G H J K A) .ret (qqh true c q):=
 h.lp [4,5] [4]
theorem qxg(h:Oo [.i A a [I d,B r],.b (d==b) false,.u a]):
 Tp (qaa f20 0) (qe9 b a c q C E F G H J K A) .normal (qe9 b (a+1) c q C E F G H J K A):=
 h.lp [6,2,1,4] [4,2]
def qqi(a:Int)(q:Bool):St:=
 { env:=envOf 28 [(4,vP 4)],boxes:=[(4,[lI a,.sb q])] }
theorem qxh(h:Oo [.f A b false]):
 Tp (qaa f20 0) (qe9 c b a q C E F G H J K A) (.exit 0) (qqi a q):=
 h.lp [4] [4]
theorem qxi(h:Oo [.l [] [6,2,1,4] [4,2] (qaa f20 0) (qe9 b 0 0 false A C E F G H J K) .ret (qqh r a q)]):
 Rt 20 [.agg (wk A C E F G H J K),cI b] [.agg [I a,B q],cB r]:=
 h.of
theorem qxj(h:Oo [.l [] [6,2,1,4] [4,2] (qaa f20 0) (qe9 a 0 0 false A C E F G H J K) (.exit 0) (qqi b q)]):
 Rt 20 [.agg (wk A C E F G H J K),cI a] [.agg [I 0,B false],cB false]:=
 h.of
def qfb(A:LL)(g1:Nat)(k2:List D)(a:Int):St:=
 { env:=envOf 19 [(0,vF 5 A),(1,.al (.one (.fd (D.cl g1 k2)))),(7,vI (A.length:Int)),(8,vI a)],boxes:=[] }
def qmf(a:Int):St:=
 { env:=envOf 19 [(4,vI a)],boxes:=[] }
theorem qxz(A:LL)(g1:Nat)(k2:List D)(a b c d e f:Int)(q:Bool)(h:Oo [.i A a (ri b c d e f),.p (qaT prog g1=true),.r g1 ([.agg (ri b c d e f)]++List.map .one k2) [cB q],.b q true]):
 Tp (qaa f311 0) (qfb A g1 k2 a) .ret (qmf a):=
 h.lp [4] []
theorem qxA(A:LL)(g1:Nat)(k2:List D)(a b c d e f:Int)(q:Bool)(h:Oo [.i A a (ri b c d e f),.p (qaT prog g1=true),.r g1 ([.agg (ri b c d e f)]++List.map .one k2) [cB q],.b q false,.u a]):
 Tp (qaa f311 0) (qfb A g1 k2 a) .normal (qfb A g1 k2 (a+1)):=
 h.lp [8,7,1,0] []
def qql:St:=
 { env:=envOf 19 [],boxes:=[] }
theorem qxB(A:LL)(g1:Nat)(k2:List D)(a:Int)(h:Oo [.f A a false]):
 Tp (qaa f311 0) (qfb A g1 k2 a) (.exit 0) qql:=
 h.lp [] []
theorem qxC(A:LL)(g1:Nat)(k2:List D)(a:Int)(h:Oo [.l [] [8,7,1,0] [] (qaa f311 0) (qfb A g1 k2 0) .ret (qmf a)]):
 Rt 311 [cS 5 A,.one (.cl g1 k2)] [cI a]:=
 h.of
theorem qxD(A:LL)(g1:Nat)(k2:List D)(h:Oo [.l [] [8,7,1,0] [] (qaa f311 0) (qfb A g1 k2 0) (.exit 0) qql]):
 Rt 311 [cS 5 A,.one (.cl g1 k2)] [cI (-1)]:=
 h.of
def qfc(A:LL)(g1:Nat)(k2:List D)(a:Int):St:=
 { env:=envOf 19 [(0,vF 2 A),(1,.al (.one (.fd (D.cl g1 k2)))),(7,vI (A.length:Int)),(8,vI a)],boxes:=[] }
def qmg(a:Int):St:=
 { env:=envOf 19 [(4,vI a)],boxes:=[] }
theorem qxE(A:LL)(g1:Nat)(k2:List D)(a b:Int)(q r:Bool)(h:Oo [.i A a [I b,B q],.p (qaT prog g1=true),.r g1 ([.agg [I b,B q]]++List.map .one k2) [cB r],.b r true]):
 Tp (qaa f339 0) (qfc A g1 k2 a) .ret (qmg a):=
 h.lp [4] []
theorem qxF(A:LL)(g1:Nat)(k2:List D)(a b:Int)(q r:Bool)(h:Oo [.i A a [I b,B q],.p (qaT prog g1=true),.r g1 ([.agg [I b,B q]]++List.map .one k2) [cB r],.b r false,.u a]):
 Tp (qaa f339 0) (qfc A g1 k2 a) .normal (qfc A g1 k2 (a+1)):=
 h.lp [8,7,1,0] []
def qqm:St:=
 { env:=envOf 19 [],boxes:=[] }
theorem qxG(A:LL)(g1:Nat)(k2:List D)(a:Int)(h:Oo [.f A a false]):
 Tp (qaa f339 0) (qfc A g1 k2 a) (.exit 0) qqm:=
 h.lp [] []
theorem qxH(A:LL)(g1:Nat)(k2:List D)(a:Int)(h:Oo [.l [] [8,7,1,0] [] (qaa f339 0) (qfc A g1 k2 0) .ret (qmg a)]):
 Rt 339 [cS 2 A,.one (.cl g1 k2)] [cI a]:=
 h.of
theorem qxI(A:LL)(g1:Nat)(k2:List D)(h:Oo [.l [] [8,7,1,0] [] (qaa f339 0) (qfc A g1 k2 0) (.exit 0) qqm]):
 Rt 339 [cS 2 A,.one (.cl g1 k2)] [cI (-1)]:=
 h.of
def qfd(A:LL)(g1:Nat)(k2:List D)(a:Int):St:=
 { env:=envOf 19 [(0,vF 3 A),(1,.al (.one (.fd (D.cl g1 k2)))),(7,vI (A.length:Int)),(8,vI a)],boxes:=[] }
def qmh(a:Int):St:=
 { env:=envOf 19 [(4,vI a)],boxes:=[] }
theorem qxJ(A:LL)(g1:Nat)(k2:List D)(a b c:Int)(q r:Bool)(h:Oo [.i A a [I b,I c,B q],.p (qaT prog g1=true),.r g1 ([.agg [I b,I c,B q]]++List.map .one k2) [cB r],.b r true]):
 Tp (qaa f259 0) (qfd A g1 k2 a) .ret (qmh a):=
 h.lp [4] []
theorem qxK(A:LL)(g1:Nat)(k2:List D)(a b c:Int)(q r:Bool)(h:Oo [.i A a [I b,I c,B q],.p (qaT prog g1=true),.r g1 ([.agg [I b,I c,B q]]++List.map .one k2) [cB r],.b r false,.u a]):
 Tp (qaa f259 0) (qfd A g1 k2 a) .normal (qfd A g1 k2 (a+1)):=
 h.lp [8,7,1,0] []
def qqn:St:=
 { env:=envOf 19 [],boxes:=[] }
theorem qxL(A:LL)(g1:Nat)(k2:List D)(a:Int)(h:Oo [.f A a false]):
 Tp (qaa f259 0) (qfd A g1 k2 a) (.exit 0) qqn:=
 h.lp [] []
theorem qxM(A:LL)(g1:Nat)(k2:List D)(a:Int)(h:Oo [.l [] [8,7,1,0] [] (qaa f259 0) (qfd A g1 k2 0) .ret (qmh a)]):
 Rt 259 [cS 3 A,.one (.cl g1 k2)] [cI a]:=
 h.of
theorem qxN(A:LL)(g1:Nat)(k2:List D)(h:Oo [.l [] [8,7,1,0] [] (qaa f259 0) (qfd A g1 k2 0) (.exit 0) qqn]):
 Rt 259 [cS 3 A,.one (.cl g1 k2)] [cI (-1)]:=
 h.of
def qfe(A:LL)(g1:Nat)(k2:List D)(a:Int):St:=
 { env:=envOf 19 [(0,vF 4 A),(1,.al (.one (.fd (D.cl g1 k2)))),(7,vI (A.length:Int)),(8,vI a)],boxes:=[] }
def qmi(a:Int):St:=
 { env:=envOf 19 [(4,vI a)],boxes:=[] }
theorem qxO(A:LL)(g1:Nat)(k2:List D)(a b c d e:Int)(q:Bool)(h:Oo [.i A a [I b,I c,I d,I e],.p (qaT prog g1=true),.r g1 ([.agg [I b,I c,I d,I e]]++List.map .one k2) [cB q],.b q true]):
 Tp (qaa f343 0) (qfe A g1 k2 a) .ret (qmi a):=
 h.lp [4] []
theorem qxP(A:LL)(g1:Nat)(k2:List D)(a b c d e:Int)(q:Bool)(h:Oo [.i A a [I b,I c,I d,I e],.p (qaT prog g1=true),.r g1 ([.agg [I b,I c,I d,I e]]++List.map .one k2) [cB q],.b q false,.u a]):
 Tp (qaa f343 0) (qfe A g1 k2 a) .normal (qfe A g1 k2 (a+1)):=
 h.lp [8,7,1,0] []
def qqo:St:=
 { env:=envOf 19 [],boxes:=[] }
theorem qxQ(A:LL)(g1:Nat)(k2:List D)(a:Int)(h:Oo [.f A a false]):
 Tp (qaa f343 0) (qfe A g1 k2 a) (.exit 0) qqo:=
 h.lp [] []
theorem qxR(A:LL)(g1:Nat)(k2:List D)(a:Int)(h:Oo [.l [] [8,7,1,0] [] (qaa f343 0) (qfe A g1 k2 0) .ret (qmi a)]):
 Rt 343 [cS 4 A,.one (.cl g1 k2)] [cI a]:=
 h.of
theorem qxS(A:LL)(g1:Nat)(k2:List D)(h:Oo [.l [] [8,7,1,0] [] (qaa f343 0) (qfe A g1 k2 0) (.exit 0) qqo]):
 Rt 343 [cS 4 A,.one (.cl g1 k2)] [cI (-1)]:=
 h.of
theorem qxU(A:LL)(g1:Nat)(k2:List D)(a:Int)(h:Oo [.r 311 [cS 5 A,.one (.cl g1 k2)] [cI a]]):
 Rt 266 [cS 5 A,.one (.cl g1 k2)] [cB (decide (a≥0))]:=
 h.of
theorem qxV(A:LL)(g1:Nat)(k2:List D)(a:Int)(h:Oo [.r 339 [cS 2 A,.one (.cl g1 k2)] [cI a]]):
 Rt 317 [cS 2 A,.one (.cl g1 k2)] [cB (decide (a≥0))]:=
 h.of
end Go.Proofs.YtdkobdhckkjmeaaGreat
namespace Go.Proofs.YtdkobdhckkjmeaaGreat
open Go.Sx Go.RowKit Go.Proofs.Tryz
variable {a b c d e f g i j k l m n o : Int} {A C E F G H J K L M N P Q R S U V W X Y Z A0 C0 : LL} {q r s : Bool}
theorem qxY(h:Oo [.g ([]:LL) A 32,.h A]):
 Rt 301 [cS 4 A] [cS 4 ([]++A)]:=
 h.of
theorem qxZ(h:Oo [.r 331 [cS 4 A,.agg [I a,I b,I c,I d]] [cB q]]):
 Rt 312 [cS 4 A,.agg [I a,I b,I c,I d]] [cB q]:=
 h.of
theorem qx0(h:Oo [.r 332 [.one (.sl 1 [[I b],[I a],[I c],[I d]]),.one (.sl 1 [[I f],[I e],[I g],[I i]])] [cI j]]):
 Rt 313 [.agg [I a,I b,I c,I d],.agg [I e,I f,I g,I i]] [cI j]:=
 h.of
theorem qx1(h:Oo [.r 344 [cS 4 A,.agg [I a,I b,I c,I d]] [cI e]]):
 Rt 331 [cS 4 A,.agg [I a,I b,I c,I d]] [cB (decide (e≥0))]:=
 h.of
def qff(A:LL)(a b c d e:Int):St:=
 { env:=envOf 19 [(0,vF 4 A),(3,vP 3),(7,vI (A.length:Int)),(8,vI e)],boxes:=[(3,[lI a,lI b,lI c,lI d])] }
def qml(a:Int):St:=
 { env:=envOf 19 [(4,vI a)],boxes:=[] }
def y0b(A:LL)(a b c d e:Int)(l:List O):List O:=.i A a [I b,I c,I d,I e]::l
theorem qx2(h:Oo (y0b A a f g i j [.b (b==f&&(c==g&&(d==i&&e==j))) true])):
 Tp (qaa f344 0) (qff A b c d e a) .ret (qml a):=
 h.lp [4] []
theorem qx3(h:Oo (y0b A a f g i j [.b (b==f&&(c==g&&(d==i&&e==j))) false,.u a])):
 Tp (qaa f344 0) (qff A b c d e a) .normal (qff A b c d e (a+1)):=
 h.lp [8,7,3,0] [3]
def qqq:St:=
 { env:=envOf 19 [],boxes:=[] }
theorem qx4(h:Oo [.f A a false]):
 Tp (qaa f344 0) (qff A b c d e a) (.exit 0) qqq:=
 h.lp [] []
theorem qx5(h:Oo [.l [] [8,7,3,0] [3] (qaa f344 0) (qff A a b c d 0) .ret (qml e)]):
 Rt 344 [cS 4 A,.agg [I a,I b,I c,I d]] [cI e]:=
 h.of
theorem qx6(h:Oo [.l [] [8,7,3,0] [3] (qaa f344 0) (qff A a b c d 0) (.exit 0) qqq]):
 Rt 344 [cS 4 A,.agg [I a,I b,I c,I d]] [cI (-1)]:=
 h.of
theorem qx7(h:Oo [.r 301 [cS 4 A] [cS 4 C],.r 312 [cS 4 A,.agg [I a,I b,I c,I d]] [cB q],.b q true]):
 Rt 268 [cS 4 A,.agg [I a,I b,I c,I d]] [cS 4 C]:=
 h.of
def qfg(A:LL)(a b c d:Int)(C:LL)(e:Int):St:=
 { env:=envOf 33 [(0,vF 4 A),(3,vP 3),(5,PV.al (AL.one (lO 90000 4 C))),(6,vI e)],boxes:=[(3,[lI a,lI b,lI c,lI d])] }
theorem qx8(h:Oo (y0b A a j k f g [.r 313 [.agg [I j,I k,I f,I g],.agg [I b,I c,I d,I e]] [cI i],.b (decide (i<0)) true,.u a])):
 Tp (qaa f268 0) (qfg A b c d e C a) .normal (qfg A b c d e C (a+1)):=
 h.lp [6,0,3,5] [3]
def qhz(a b c d:Int)(A:LL)(e:Int):St:=
 { env:=envOf 33 [(3,vP 3),(5,PV.al (AL.one (lO 90000 4 A))),(6,vI e)],boxes:=[(3,[lI a,lI b,lI c,lI d])] }
theorem qx9(h:Oo (y0b A e j k f g [.r 313 [.agg [I j,I k,I f,I g],.agg [I a,I b,I c,I d]] [cI i],.b (decide (i<0)) false])):
 Tp (qaa f268 0) (qfg A a b c d C e) (.exit 0) (qhz a b c d C e):=
 h.lp [5,6,3] [3]
theorem qya(h:Oo [.f A a false]):
 Tp (qaa f268 0) (qfg A b c d e C a) (.exit 0) (qhz b c d e C a):=
 h.lp [5,6,3] [3]
theorem qyb(h:Oo [.r 301 [cS 4 A] [cS 4 C],.r 312 [cS 4 A,.agg [I a,I b,I c,I d]] [cB q],.b q false,.l [] [6,0,3,5] [3] (qaa f268 0) (qfg A a b c d C 0) (.exit 0) (qhz a b c d C e),.a (.resG [[some none],[none],[some none]] 0 [] [cS 4 E]),.p (RetG prog 314 [GA.one (GC.gv 4 C none),GA.one (GC.ro (I e)),GA.one (GC.gv 4 [[I a,I b,I c,I d]] none)] [cS 4 E])]):
 Rt 268 [cS 4 A,.agg [I a,I b,I c,I d]] [cS 4 E]:=
 h.of
theorem qqr(h:Oo [.v ((A.length:Int)-1),.r 158 [cI a,cI 0,cI ((A.length:Int)-1)] [cB q]]):
 Rt 250 [.agg (gr A b c),cI a] [cB q]:=
 h.of
theorem qyc(h:Oo [.b (a==d) true,.b (b==e) true]):
 Rt 330 [.agg [I a,I b,I c,I g],.agg [I d,I e,I f,I i]] [cB (c==f)]:=
 h.of
theorem qyd(h:Oo [.b (a==c) true,.b (b==d) false]):
 Rt 330 [.agg [I a,I b,I e,I f],.agg [I c,I d,I g,I i]] [cB false]:=
 h.of
theorem qye(h:Oo [.b (a==b) false]):
 Rt 330 [.agg [I a,I c,I d,I e],.agg [I b,I f,I g,I i]] [cB false]:=
 h.of
theorem qyf(h:Oo [.r 330 [.agg [I e,I f,I g,I i],.agg [I a,I b,I c,I d]] [cB q]]):
 Rt 329 [.agg [I a,I b,I c,I d],.one (.ptr [I e,I f,I g,I i])] [cB q]:=
 h.of
theorem qyg(A:LL)(g1:Nat)(k2:List D)(a:Int)(h:Oo [.r 343 [cS 4 A,.one (.cl g1 k2)] [cI a],.b (a==-1) true]):
 Rg 328 [GA.one (GC.gv 4 A none),GA.one (GC.ro (D.cl g1 k2))] [cS 4 A]:=
 h.ofG
def qei(g0:Nat)(k1:List D)(a b:Int)(A:LL):St:=
 { env:=envOf 42 [(0,PV.al (AL.one (lO 1000000000 4 A))),(1,.al (.one (.fd (D.cl g0 k1)))),(5,vI b),(6,vI a)],boxes:=[] }
theorem qyh(g1:Nat)(k2:List D)(b a:Int)(A:LL)(d e f c:Int)(q:Bool)(d12 d13 d14 d15:D)(h:Oo [.i A b [I d,I e,I f,I c],.p (qaT prog g1=true),.r g1 ([.agg [I d,I e,I f,I c]]++List.map .one k2) [cB q],.n q true,.x A a [d12,d13,d14,d15],.u a,.u b]):
 Tp (qaa f328 0) (qei g1 k2 b a A) .normal (qei g1 k2 (b+1) (a+1) (A.set a.toNat [I d,I e,I f,I c])):=
 h.lp [6,0,1,5] []
theorem qyi(g1:Nat)(k2:List D)(a c:Int)(A:LL)(d e f b:Int)(q:Bool)(h:Oo [.i A a [I d,I e,I f,I b],.p (qaT prog g1=true),.r g1 ([.agg [I d,I e,I f,I b]]++List.map .one k2) [cB q],.n q false,.u a]):
 Tp (qaa f328 0) (qei g1 k2 a c A) .normal (qei g1 k2 (a+1) c A):=
 h.lp [6,0,1,5] []
def qmm(A:LL)(a:Int):St:=
 { env:=envOf 42 [(0,PV.al (AL.one (lO 1000000000 4 A))),(5,vI a)],boxes:=[] }
theorem qyj(g1:Nat)(k2:List D)(a b:Int)(A:LL)(h:Oo [.f A a false]):
 Tp (qaa f328 0) (qei g1 k2 a b A) (.exit 0) (qmm A b):=
 h.lp [0,5] []
theorem qyk(C:LL)(g1:Nat)(k2:List D)(b:Int)(A:LL)(a:Int)(h:Oo [.r 343 [cS 4 C,.one (.cl g1 k2)] [cI b],.b (b==-1) false,.u b,.l [] [6,0,1,5] [] (qaa f328 0) (qei g1 k2 (b+1) b C) (.exit 0) (qmm A a),.a .own,.p (0≤(some a).getD 0),.p ((some a).getD 0<(A.length:Int)),.h A,.p ((0:Int)≤none.getD 0),.p (none.getD 0≤(some a).getD (↑(List.take ((some a).getD 0).toNat A++List.replicate (A.length-((some a).getD 0).toNat) [I 0,I 0,I 0,I 0]).length:Int)),.p ((some a).getD (↑(List.take ((some a).getD 0).toNat A++List.replicate (A.length-((some a).getD 0).toNat) [I 0,I 0,I 0,I 0]).length:Int)≤(↑(List.take ((some a).getD 0).toNat A++List.replicate (A.length-((some a).getD 0).toNat) [I 0,I 0,I 0,I 0]).length:Int))]):
 Rg 328 [GA.one (GC.gv 4 C none),GA.one (GC.ro (D.cl g1 k2))] [.one (.sl 4 (List.take (((some a).getD (↑(List.take ((some a).getD 0).toNat A++List.replicate (A.length-((some a).getD 0).toNat) [I 0,I 0,I 0,I 0]).length:Int)).toNat-0) (List.drop 0 (List.take ((some a).getD 0).toNat A++List.replicate (A.length-((some a).getD 0).toNat) [I 0,I 0,I 0,I 0]))))]:=
 h.ofG
def qcI(A:LL)(a b c d:Int)(q:Bool)(e:Int):St:=
 { env:=envOf 41 [(1,vI a),(2,vI b),(3,vI c),(10,vI e),(11,.al (.one (.sb q))),(14,vF 4 A),(15,vI (A.length:Int)),(16,vI d)],boxes:=[] }
def y0c(A:LL)(a b c d e f g i:Int)(q:Bool)(l:List O):List O:=y0b A a b c d e (.r 330 [.agg [I b,I c,I d,I e],.agg [I f,I g,I i,I 0]] [cB q]::l)
theorem qyl(h:Oo (y0c A a f g i c b d e q [.b q true,.n r true,.u a])):
 Tp (qaa f327 0) (qcI A b d e a r j) .normal (qcI A b d e (a+1) true c):=
 h.lp [16,15,14,1,2,3,11,10] []
theorem qym(h:Oo (y0c A b g i j a c d e q [.b q true,.n r false,.b (decide (a<f)) true,.u b])):
 Tp (qaa f327 0) (qcI A c d e b r f) .normal (qcI A c d e (b+1) true a):=
 h.lp [16,15,14,1,2,3,11,10] []
theorem qyn(h:Oo (y0c A a g i j c b d e r [.b r true,.n q false,.b (decide (c<f)) false,.u a])):
 Tp (qaa f327 0) (qcI A b d e a q f) .normal (qcI A b d e (a+1) q f):=
 h.lp [16,15,14,1,2,3,11,10] []
theorem qyo(h:Oo (y0c A a g i j e b c d q [.b q false,.u a])):
 Tp (qaa f327 0) (qcI A b c d a r f) .normal (qcI A b c d (a+1) r f):=
 h.lp [16,15,14,1,2,3,11,10] []
def qqs(a:Int)(q:Bool):St:=
 { env:=envOf 41 [(10,vI a),(11,.al (.one (.sb q)))],boxes:=[] }
theorem qyp(h:Oo [.f A a false]):
 Tp (qaa f327 0) (qcI A c d e a q b) (.exit 0) (qqs b q):=
 h.lp [10,11] []
theorem qyq(h:Oo [.l [] [16,15,14,1,2,3,11,10] [] (qaa f327 0) (qcI A a b c 0 false 0) (.exit 0) (qqs d q)]):
 Rt 327 [cS 4 A,cI a,cI b,cI c] [cI d,cB q]:=
 h.of
theorem qyr(h:Oo [.r 327 [cS 4 A,cI a,cI b,cI c] [cI e,cB q],.b q true,.b (decide (e≤d)) true,.r 301 [cS 4 A] [cS 4 C]]):
 Rt 307 [cS 4 A,.agg [I a,I b,I c,I d]] [cS 4 C,cB false]:=
 h.of
theorem qys(h:Oo [.r 327 [cS 4 A,cI a,cI b,cI c] [cI e,cB q],.b q true,.b (decide (e≤d)) false,.r 301 [cS 4 A] [cS 4 F],.a (.resG [[some none],[none]] 0 [] [cS 4 C]),.p (RetG prog 328 [GA.one (GC.gv 4 F none),GA.one (GC.ro (D.cl 329 [D.ptr [I a,I b,I c,I d]]))] [cS 4 C]),.r 268 [cS 4 C,.agg [I a,I b,I c,I d]] [cS 4 E]]):
 Rt 307 [cS 4 A,.agg [I a,I b,I c,I d]] [cS 4 E,cB true]:=
 h.of
theorem qyt(h:Oo [.r 327 [cS 4 A,cI a,cI b,cI c] [cI e,cB q],.b q false,.r 301 [cS 4 A] [cS 4 F],.a (.resG [[some none],[none]] 0 [] [cS 4 C]),.p (RetG prog 328 [GA.one (GC.gv 4 F none),GA.one (GC.ro (D.cl 329 [D.ptr [I a,I b,I c,I d]]))] [cS 4 C]),.r 268 [cS 4 C,.agg [I a,I b,I c,I d]] [cS 4 E]]):
 Rt 307 [cS 4 A,.agg [I a,I b,I c,I d]] [cS 4 E,cB true]:=
 h.of
theorem qyu(h:Oo [.b (a==5) true,.b (a==5) true,.r 307 [cS 4 A,.agg [I b,I c,I d,I e]] [cS 4 C,cB q]]):
 Rt 303 [cI a,cS 4 A,.agg [I b,I c,I d,I e]] [cS 4 C,cB q]:=
 h.of
theorem qyv(h:Oo [.b (a==5) false,.b (a==8) true,.r 307 [cS 4 A,.agg [I b,I c,I d,I e]] [cS 4 C,cB q]]):
 Rt 303 [cI a,cS 4 A,.agg [I b,I c,I d,I e]] [cS 4 C,cB q]:=
 h.of
theorem qyw(h:Oo [.b (a==5) false,.b (a==8) false,.b (a==6) true,.r 268 [cS 4 A,.agg [I b,I c,I d,I e]] [cS 4 C],.r 312 [cS 4 A,.agg [I b,I c,I d,I e]] [cB q]]):
 Rt 303 [cI a,cS 4 A,.agg [I b,I c,I d,I e]] [cS 4 C,.one (B !q)]:=
 h.of
theorem qyx(h:Oo [.b (a==5) false,.b (a==8) false,.b (a==6) false,.r 301 [cS 4 A] [cS 4 C]]):
 Rt 303 [cI a,cS 4 A,.agg [I b,I c,I d,I e]] [cS 4 C,cB true]:=
 h.of
def qfh(a b c d e:Int):St:=
 { env:=envOf 41 [(5,.al (.one (.sl (.own 27) 1 [[I a],[I b],[I c],[I d]]))),(6,vI e)],boxes:=[] }
def qmn(a:Int):St:=
 { env:=envOf 41 [(4,vI a)],boxes:=[] }
theorem qyy(h:Oo [.b (decide (a<4)) true,.x [[I d],[I e],[I b],[I c]] a [I f],.b (f != 0) true,.x [[I d],[I e],[I b],[I c]] a [I g]]):
 Tp (qaa f306 0) (qfh d e b c a) .ret (qmn g):=
 h.lp [4] []
theorem qyz(h:Oo [.b (decide (a<4)) true,.x [[I d],[I e],[I b],[I c]] a [I f],.b (f != 0) false,.u a]):
 Tp (qaa f306 0) (qfh d e b c a) .normal (qfh d e b c (a+1)):=
 h.lp [6,5] []
def qqt:St:=
 { env:=envOf 41 [],boxes:=[] }
theorem qyA(h:Oo [.b (decide (a<4)) false]):
 Tp (qaa f306 0) (qfh d e b c a) (.exit 0) qqt:=
 h.lp [] []
theorem qyB(h:Oo [.r 322 [cI b,cI j] [cI m],.r 322 [cI a,cI i] [cI n],.r 322 [cI f,cI k] [cI c],.r 322 [cI g,cI l] [cI d],.l [] [6,5] [] (qaa f306 0) (qfh m n c d 0) .ret (qmn e)]):
 Rt 306 [.agg [I a,I b,I f,I g],.agg [I i,I j,I k,I l]] [cI e]:=
 h.of
theorem qyC(h:Oo [.r 322 [cI b,cI i] [cI l],.r 322 [cI a,cI g] [cI m],.r 322 [cI e,cI j] [cI c],.r 322 [cI f,cI k] [cI d],.l [] [6,5] [] (qaa f306 0) (qfh l m c d 0) (.exit 0) qqt]):
 Rt 306 [.agg [I a,I b,I e,I f],.agg [I g,I i,I j,I k]] [cI 0]:=
 h.of
def qfi(A:LL)(a b c d e:Int):St:=
 { env:=envOf 18 [(0,vF 4 A),(3,vP 3),(5,vI e)],boxes:=[(3,[lI a,lI b,lI c,lI d])] }
def qmo(q:Bool):St:=
 { env:=envOf 18 [(4,.al (.one (.sb q)))],boxes:=[] }
theorem qyD(h:Oo (y0b A e f g i j [.b (f==a&&(g==b&&(i==c&&j==d))) true])):
 Tp (qaa f305 0) (qfi A a b c d e) .ret (qmo true):=
 h.lp [4] []
theorem qyE(h:Oo (y0b A a f g i j [.b (f==b&&(g==c&&(i==d&&j==e))) false,.u a])):
 Tp (qaa f305 0) (qfi A b c d e a) .normal (qfi A b c d e (a+1)):=
 h.lp [5,0,3] [3]
def qqu:St:=
 { env:=envOf 18 [],boxes:=[] }
theorem qyF(h:Oo [.f A a false]):
 Tp (qaa f305 0) (qfi A b c d e a) (.exit 0) qqu:=
 h.lp [] []
theorem qyG(h:Oo [.l [] [5,0,3] [3] (qaa f305 0) (qfi A a b c d 0) .ret (qmo q)]):
 Rt 305 [cS 4 A,.agg [I a,I b,I c,I d]] [cB q]:=
 h.of
theorem qyH(h:Oo [.l [] [5,0,3] [3] (qaa f305 0) (qfi A a b c d 0) (.exit 0) qqu]):
 Rt 305 [cS 4 A,.agg [I a,I b,I c,I d]] [cB false]:=
 h.of
theorem qyI(h:Oo [.r 305 [cS 4 A,.agg [I a,I b,I c,I d]] [cB q],.b q true,.g ([]:LL) A 32,.h A]):
 Rt 249 [cS 4 A,.agg [I a,I b,I c,I d]] [cS 4 ([]++A)]:=
 h.of
def qfj(A:LL)(a b c d e:Int):St:=
 { env:=envOf 41 [(0,vF 4 A),(3,vP 3),(5,vI e)],boxes:=[(3,[lI a,lI b,lI c,lI d])] }
theorem qyJ(h:Oo (y0b A a i j k f [.r 306 [.agg [I i,I j,I k,I f],.agg [I b,I c,I d,I e]] [cI g],.b (decide (g<0)) true,.u a])):
 Tp (qaa f249 0) (qfj A b c d e a) .normal (qfj A b c d e (a+1)):=
 h.lp [5,0,3] [3]
def qhA(A:LL)(a b c d e:Int):St:=
 { env:=envOf 41 [(0,vF 4 A),(3,vP 3),(5,vI e)],boxes:=[(3,[lI a,lI b,lI c,lI d])] }
theorem qyK(h:Oo (y0b A e i j k f [.r 306 [.agg [I i,I j,I k,I f],.agg [I a,I b,I c,I d]] [cI g],.b (decide (g<0)) false])):
 Tp (qaa f249 0) (qfj A a b c d e) (.exit 0) (qhA A a b c d e):=
 h.lp [0,5,3] [3]
theorem qyL(h:Oo [.f A a false]):
 Tp (qaa f249 0) (qfj A b c d e a) (.exit 0) (qhA A b c d e a):=
 h.lp [0,5,3] [3]
theorem qyM(h:Oo [.r 305 [cS 4 A,.agg [I b,I c,I d,I e]] [cB q],.b q false,.l [] [5,0,3] [3] (qaa f249 0) (qfj A b c d e 0) (.exit 0) (qhA A b c d e a),.p ((0:Int)≤none.getD 0),.p (none.getD 0≤(some a).getD (A.length:Int)),.p ((some a).getD (A.length:Int)≤(A.length:Int)),.p ((([]:LL).length+(List.take (((some a).getD (A.length:Int)).toNat-0) (List.drop 0 A)).length)*32≤140737488355328),.p (([]:LL).length+(List.take (((some a).getD (A.length:Int)).toNat-0) (List.drop 0 A)).length≤9223372036854775807),.p (Flat (List.take (((some a).getD (A.length:Int)).toNat-0) (List.drop 0 A))),.p ((([]++List.take (((some a).getD (A.length:Int)).toNat-0) (List.drop 0 A)).length+[[I b,I c,I d,I e]].length)*32≤140737488355328),.p (([]++List.take (((some a).getD (A.length:Int)).toNat-0) (List.drop 0 A)).length+[[I b,I c,I d,I e]].length≤9223372036854775807),.h [[I b,I c,I d,I e]],.p (0≤(some a).getD 0),.p ((some a).getD 0≤none.getD (A.length:Int)),.p (none.getD (A.length:Int)≤(A.length:Int)),.p ((([]++List.take (((some a).getD (A.length:Int)).toNat-0) (List.drop 0 A)++[[I b,I c,I d,I e]]).length+(List.take (A.length-((some a).getD 0).toNat) (List.drop ((some a).getD 0).toNat A)).length)*32≤140737488355328),.p (([]++List.take (((some a).getD (A.length:Int)).toNat-0) (List.drop 0 A)++[[I b,I c,I d,I e]]).length+(List.take (A.length-((some a).getD 0).toNat) (List.drop ((some a).getD 0).toNat A)).length≤9223372036854775807),.p (Flat (List.take (A.length-((some a).getD 0).toNat) (List.drop ((some a).getD 0).toNat A)))]):
 Rt 249 [cS 4 A,.agg [I b,I c,I d,I e]] [.one (.sl 4 ([]++List.take (((some a).getD (A.length:Int)).toNat-0) (List.drop 0 A)++[[I b,I c,I d,I e]]++List.take (A.length-((some a).getD 0).toNat) (List.drop ((some a).getD 0).toNat A)))]:=
 h.of
theorem qyN(h:Oo [.v ((A.length:Int)-1),.r 167 [cI a,cI 0,cI ((A.length:Int)-1)] [cB q],.n q true]):
 Rt 248 [.agg (gr A b c),cI a] [.agg (nd 0 0 0 []),cB false]:=
 h.of
theorem qyO(h:Oo [.v ((A.length:Int)-1),.r 167 [cI a,cI 0,cI ((A.length:Int)-1)] [cB q],.n q false,.x A a (nd b c d C),.g ([]:LL) C 8,.h C]):
 Rt 248 [.agg (gr A e f),cI a] [.agg (nd b c d ([]++C)),cB true]:=
 h.of
def spec_OutsOnly_L0(A:LL)(a:Int)(C E:LL)(b c:Int):St:=
 { env:=envOf 40 [(1,vF 4 A),(2,vP 2),(5,PV.al (AL.one (lO 9 4 C))),(6,vI a)],boxes:=[(2,[.sl .free 4 E,lI b,lI c])] }
theorem spec_OutsOnly_L0_s0(h:Oo (y0b A a j k l m [.r 248 [.agg (gr E f g),cI j] [.agg (nd i n o F),cB q],.b q true,.b (i==8) true,.x A a [I b,I c,I d,I e],.g C [[I b,I c,I d,I e]] 32,.h [[I b,I c,I d,I e]],.u a])):
 Tp (qaa f133 0) (spec_OutsOnly_L0 A a C E f g) .normal (spec_OutsOnly_L0 A (a+1) (C++[[I b,I c,I d,I e]]) E f g):=
 h.lp [6,1,2,5] [2]
theorem spec_OutsOnly_L0_s1(h:Oo (y0b A a e f g i [.r 248 [.agg (gr C b c),cI e] [.agg (nd d j k F),cB q],.b q true,.b (d==8) false,.u a])):
 Tp (qaa f133 0) (spec_OutsOnly_L0 A a E C b c) .normal (spec_OutsOnly_L0 A (a+1) E C b c):=
 h.lp [6,1,2,5] [2]
theorem spec_OutsOnly_L0_s2(h:Oo (y0b A a d e f g [.r 248 [.agg (gr C b c),cI d] [.agg (nd i j k F),cB q],.b q false,.u a])):
 Tp (qaa f133 0) (spec_OutsOnly_L0 A a E C b c) .normal (spec_OutsOnly_L0 A (a+1) E C b c):=
 h.lp [6,1,2,5] [2]
def spec_OutsOnly_X0(A:LL):St:=
 { env:=envOf 40 [(5,PV.al (AL.one (lO 9 4 A)))],boxes:=[] }
theorem spec_OutsOnly_L0_x3(h:Oo [.f A a false]):
 Tp (qaa f133 0) (spec_OutsOnly_L0 A a C E b c) (.exit 0) (spec_OutsOnly_X0 C):=
 h.lp [5] []
theorem spec_OutsOnly_p0(h:Oo [.l [] [6,1,2,5] [2] (qaa f133 0) (spec_OutsOnly_L0 C 0 [] A a b) (.exit 0) (spec_OutsOnly_X0 E)]):
 Rt 133 [.agg (gr A a b),cS 4 C] [cS 4 E]:=
 h.of
def spec_CellsIn_L0(A:LL)(a b:Int)(C E F G:LL)(c:Int)(H:LL):St:=
 { env:=envOf 37 [(1,vP 1),(3,PV.al (AL.one (lO 3 4 H))),(4,vI c)],boxes:=[(1,[.sl .free 4 A,lI a,lI b,.sl .free 8 C,.sl .free 6 E,.sl .free 5 F,.sl .free 3 G])] }
def spec_CellsIn_L1(A:LL)(a b:Int)(C E F G:LL)(c d:Int)(H:LL):St:=
 { env:=envOf 37 [(1,vP 1),(3,PV.al (AL.one (lO 3 4 H))),(4,vI c),(5,vI d)],boxes:=[(1,[.sl .free 4 A,lI a,lI b,.sl .free 8 C,.sl .free 6 E,.sl .free 5 F,.sl .free 3 G])] }
theorem spec_CellsIn_L1_s0(h:Oo [.x A b (wk M N P F Q R S U),.f F a true,.x A b (wk V W X G Y Z A0 C0),.x G a [I e,I f,I g,I i],.r 249 [cS 4 E,.agg [I e,I f,I g,I i]] [cS 4 H],.u a]):
 Tp (qaa f134 1) (spec_CellsIn_L1 C c d A J K L b a E) .normal (spec_CellsIn_L1 C c d A J K L b (a+1) H):=
 h.lr [(3,3,4)] [5,1,4,3] [1]
def spec_CellsIn_X1(A:LL)(a b:Int)(C E F G:LL)(c:Int)(H:LL):St:=
 { env:=envOf 37 [(1,vP 1),(3,PV.al (AL.one (lO 3 4 H))),(4,vI c)],boxes:=[(1,[.sl .free 4 A,lI a,lI b,.sl .free 8 C,.sl .free 6 E,.sl .free 5 F,.sl .free 3 G])] }
theorem spec_CellsIn_L1_x1(h:Oo [.x A a (wk K L M F N P Q R),.f F d false]):
 Tp (qaa f134 1) (spec_CellsIn_L1 C b c A G H J a d E) (.exit 2) (spec_CellsIn_X1 C b c A G H J a E):=
 h.lp [4,1,3] [1]
theorem spec_CellsIn_L0_s0(h:Oo [.f A a true,.l [(3,3,4)] [5,1,4,3] [1] (qaa f134 1) (spec_CellsIn_L1 C b c A E F G a 0 H) (.exit 2) (spec_CellsIn_X1 C b c A E F G a J),.u a]):
 Tp (qaa f134 0) (spec_CellsIn_L0 C b c A E F G a H) .normal (spec_CellsIn_L0 C b c A E F G (a+1) J):=
 h.lr [(3,3,4)] [4,1,3] [1]
def spec_CellsIn_X0(A:LL):St:=
 { env:=envOf 37 [(3,PV.al (AL.one (lO 3 4 A)))],boxes:=[] }
theorem spec_CellsIn_L0_x1(h:Oo [.f A a false]):
 Tp (qaa f134 0) (spec_CellsIn_L0 E b c A F G H a C) (.exit 0) (spec_CellsIn_X0 C):=
 h.lp [3] []
theorem spec_CellsIn_p0(h:Oo [.l [(3,3,4)] [4,1,3] [1] (qaa f134 0) (spec_CellsIn_L0 A a b C E F G 0 []) (.exit 0) (spec_CellsIn_X0 H)]):
 Rt 134 [.agg (cl A a b C E F G)] [cS 4 H]:=
 h.of
def spec_OutCells_L0(a:Int)(A:LL)(b:Int)(C:LL):St:=
 { env:=envOf 35 [(1,vI a),(5,PV.al (AL.one (lO 8 4 C))),(6,PV.al (AL.one (lO 140000 4 A))),(7,vI b)],boxes:=[] }
theorem spec_OutCells_L0_s0(h:Oo (y0b A a i g j k [.b (g==f) true,.x A a [I b,I c,I d,I e],.g C [[I b,I c,I d,I e]] 32,.h [[I b,I c,I d,I e]],.u a])):
 Tp (qaa f23 0) (spec_OutCells_L0 f A a C) .normal (spec_OutCells_L0 f A (a+1) (C++[[I b,I c,I d,I e]])):=
 h.lp [7,6,1,5] []
theorem spec_OutCells_L0_s1(h:Oo (y0b A a d c e f [.b (c==b) false,.u a])):
 Tp (qaa f23 0) (spec_OutCells_L0 b A a C) .normal (spec_OutCells_L0 b A (a+1) C):=
 h.lp [7,6,1,5] []
def spec_OutCells_X0(A:LL):St:=
 { env:=envOf 35 [(5,PV.al (AL.one (lO 8 4 A)))],boxes:=[] }
theorem spec_OutCells_L0_x2(h:Oo [.f C a false]):
 Tp (qaa f23 0) (spec_OutCells_L0 b C a A) (.exit 0) (spec_OutCells_X0 A):=
 h.lp [5] []
theorem spec_OutCells_p0(h:Oo [.r 134 [.agg (cl A a b E F G H)] [cS 4 J],.r 133 [.agg (gr A a b),cS 4 J] [cS 4 K],.l [] [7,6,1,5] [] (qaa f23 0) (spec_OutCells_L0 c K 0 []) (.exit 0) (spec_OutCells_X0 C)]):
 Rt 23 [.agg (cl A a b E F G H),cI c] [cS 4 C]:=
 h.of
end Go.Proofs.YtdkobdhckkjmeaaGreat
