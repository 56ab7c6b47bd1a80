import Derived.Test.YtdanpadojemjeaaGreatRows
import Derived.Test.YtdanpadojemjeaaGreatGE
namespace Go.Proofs.YtdanpadojemjeaaGreat
open Go.Sx Go.RowKit Go.Proofs.Tryz
variable {a b c d e f g i j k l m n o p a0 b0 c0 d0 e0 f0 : Int} {A C E F G H J K L M N P Q R S U V W X Y Z A0 C0 : LL} {q r s : Bool}
theorem qum(h:Oo [.g ([]:LL) A 40,.h A]):
 Rt 195 [cS 5 A] [cS 5 ([]++A)]:=
 h.of
theorem qun(h:Oo [.b (decide (b<a)) true]):
 Rt 95 [cI c,cI a,cI b] [cI a]:=
 h.of
theorem qup(h:Oo [.b (decide (c<a)) false,.b (decide (b<a)) true]):
 Rt 95 [cI b,cI a,cI c] [cI a]:=
 h.of
theorem quq(h:Oo [.b (decide (a<c)) false,.b (decide (b<c)) false,.b (decide (b>a)) true]):
 Rt 95 [cI b,cI c,cI a] [cI a]:=
 h.of
theorem qur(h:Oo [.b (decide (c<b)) false,.b (decide (a<b)) false,.b (decide (a>c)) false]):
 Rt 95 [cI a,cI b,cI c] [cI a]:=
 h.of
theorem qus(h:Oo [.b (decide (b<a)) true]):
 Rt 96 [cI c,cI a,cI b] [cI a]:=
 h.of
theorem qut(h:Oo [.b (decide (c<a)) false,.b (decide (b<a)) true]):
 Rt 96 [cI b,cI a,cI c] [cI a]:=
 h.of
theorem quu(h:Oo [.b (decide (b<c)) false,.b (decide (a<c)) false]):
 Rt 96 [cI a,cI c,cI b] [cI (if b<a then b else a)]:=
 h.of
def qgF(a b:Int)(A:LL):St:=
 { env:=envOf 62 [(3,PV.al (AL.one (lO 9 3 A))),(4,vI a),(5,vI b)],boxes:=[] }
theorem quv(h:Oo [.b (decide (a<b)) true,.g A [[I 1,I a,I 0],[I 3,I a,I 0],[I 2,I a,I 0],[I 7,I a,I 0]] 24,.h [[I 1,I a,I 0],[I 3,I a,I 0],[I 2,I a,I 0],[I 7,I a,I 0]],.u a]):
 Tp (qaa f83 0) (qgF b a A) .normal (qgF b (a+1) (A++[[I 1,I a,I 0],[I 3,I a,I 0],[I 2,I a,I 0],[I 7,I a,I 0]])):=
 h.lp [5,4,3] []
def qn2(a:Int)(A:LL):St:=
 { env:=envOf 62 [(3,PV.al (AL.one (lO 9 3 A))),(4,vI a)],boxes:=[] }
theorem quw(h:Oo [.b (decide (b<a)) false]):
 Tp (qaa f83 0) (qgF a b A) (.exit 0) (qn2 a A):=
 h.lp [4,3] []
def qgG(a b:Int)(A:LL):St:=
 { env:=envOf 62 [(3,PV.al (AL.one (lO 9 3 A))),(4,vI a),(6,vI b)],boxes:=[] }
def qeH(a b c:Int)(A:LL):St:=
 { env:=envOf 62 [(3,PV.al (AL.one (lO 9 3 A))),(4,vI a),(6,vI b),(7,vI c)],boxes:=[] }
theorem qux(h:Oo [.b (decide (a<c)) true,.b (b != a) true,.g A [[I 4,I b,I a],[I 5,I b,I a]] 24,.h [[I 4,I b,I a],[I 5,I b,I a]],.u a]):
 Tp (qaa f83 2) (qeH c b a A) .normal (qeH c b (a+1) (A++[[I 4,I b,I a],[I 5,I b,I a]])):=
 h.lp [7,4,6,3] []
theorem quy(h:Oo [.b (decide (a<b)) true,.b (c != a) false,.u a]):
 Tp (qaa f83 2) (qeH b c a A) .normal (qeH b c (a+1) A):=
 h.lp [7,4,6,3] []
def qn3(a b:Int)(A:LL):St:=
 { env:=envOf 62 [(3,PV.al (AL.one (lO 9 3 A))),(4,vI a),(6,vI b)],boxes:=[] }
theorem quz(h:Oo [.b (decide (b<a)) false]):
 Tp (qaa f83 2) (qeH a c b A) (.exit 4) (qn3 a c A):=
 h.lp [6,4,3] []
theorem quA(h:Oo [.b (decide (a<b)) true,.l [] [7,4,6,3] [] (qaa f83 2) (qeH b a 0 A) (.exit 4) (qn3 b a C),.u a]):
 Tp (qaa f83 1) (qgG b a A) .normal (qgG b (a+1) C):=
 h.lp [6,4,3] []
def qn4(A:LL):St:=
 { env:=envOf 62 [(3,PV.al (AL.one (lO 9 3 A)))],boxes:=[] }
theorem quB(h:Oo [.b (decide (b<a)) false]):
 Tp (qaa f83 1) (qgG a b A) (.exit 2) (qn4 A):=
 h.lp [3] []
def qgH(a:Int)(A:LL):St:=
 { env:=envOf 62 [(3,PV.al (AL.one (lO 9 3 A))),(8,vI a)],boxes:=[] }
theorem quC(h:Oo [.b (decide (a≤3)) true,.g A [[I 6,I a,I 0]] 24,.h [[I 6,I a,I 0]],.u a]):
 Tp (qaa f83 3) (qgH a A) .normal (qgH (a+1) (A++[[I 6,I a,I 0]])):=
 h.lp [8,3] []
def qn5(A:LL):St:=
 { env:=envOf 62 [(3,PV.al (AL.one (lO 9 3 A)))],boxes:=[] }
theorem quD(h:Oo [.b (decide (a≤3)) false]):
 Tp (qaa f83 3) (qgH a A) (.exit 6) (qn5 A):=
 h.lp [3] []
theorem quE(h:Oo [.r 95 [cI b,cI 0,cI 4] [cI a],.l [] [5,4,3] [] (qaa f83 0) (qgF a 0 []) (.exit 0) (qn2 a C),.l [] [6,4,3] [] (qaa f83 1) (qgG a 0 C) (.exit 2) (qn4 E),.l [] [8,3] [] (qaa f83 3) (qgH 0 E) (.exit 6) (qn5 A)]):
 Rt 83 [.agg (cl F b c G H J K)] [cS 3 A]:=
 h.of
def qgI(a b:Int)(A:LL):St:=
 { env:=envOf 65 [(3,vI a),(4,PV.al (AL.one (lO 31 3 A))),(5,vI b)],boxes:=[] }
def qdt(a b c:Int)(A:LL):St:=
 { env:=envOf 65 [(3,vI a),(4,PV.al (AL.one (lO 31 3 A))),(5,vI b),(20,.al (.one (.sl (.own 20) 1 [[I 1],[I 3],[I 2],[I 7]]))),(21,vI (↑[[I 1],[I 3],[I 2],[I 7]].length:Int)),(22,vI c)],boxes:=[] }
theorem qif(h:Oo [.i [[I 1],[I 3],[I 2],[I 7]] b [I c],.g A [[I c,I a,I 0]] 24,.h [[I c,I a,I 0]],.u b]):
 Tp (qaa f85 1) (qdt d a b A) .normal (qdt d a (b+1) (A++[[I c,I a,I 0]])):=
 h.lp [22,21,20,4,5,3] []
def qn6(a b:Int)(A:LL):St:=
 { env:=envOf 65 [(3,vI a),(4,PV.al (AL.one (lO 31 3 A))),(5,vI b)],boxes:=[] }
theorem quF(h:Oo [.f [[I 1],[I 3],[I 2],[I 7]] a false]):
 Tp (qaa f85 1) (qdt b c a A) (.exit 2) (qn6 b c A):=
 h.lp [5,3,4] []
theorem quG(h:Oo [.b (decide (a<b)) true,.l [] [22,21,20,4,5,3] [] (qaa f85 1) (qdt b a 0 C) (.exit 2) (qn6 b a A),.u a]):
 Tp (qaa f85 0) (qgI b a C) .normal (qgI b (a+1) A):=
 h.lp [5,3,4] []
def qn7(a:Int)(A:LL):St:=
 { env:=envOf 65 [(3,vI a),(4,PV.al (AL.one (lO 31 3 A)))],boxes:=[] }
theorem quH(h:Oo [.b (decide (b<a)) false]):
 Tp (qaa f85 0) (qgI a b A) (.exit 0) (qn7 a A):=
 h.lp [3,4] []
def qgJ(a b:Int)(A:LL):St:=
 { env:=envOf 65 [(3,vI a),(4,PV.al (AL.one (lO 31 3 A))),(8,vI b)],boxes:=[] }
def qeI(a b c:Int)(A:LL):St:=
 { env:=envOf 65 [(3,vI a),(4,PV.al (AL.one (lO 31 3 A))),(8,vI b),(9,vI c)],boxes:=[] }
theorem quI(h:Oo [.b (decide (a<c)) true,.b (b != a) true,.g A [[I 4,I b,I a],[I 5,I b,I a]] 24,.h [[I 4,I b,I a],[I 5,I b,I a]],.u a]):
 Tp (qaa f85 3) (qeI c b a A) .normal (qeI c b (a+1) (A++[[I 4,I b,I a],[I 5,I b,I a]])):=
 h.lp [9,3,8,4] []
theorem quJ(h:Oo [.b (decide (a<b)) true,.b (c != a) false,.u a]):
 Tp (qaa f85 3) (qeI b c a A) .normal (qeI b c (a+1) A):=
 h.lp [9,3,8,4] []
def qn8(a b:Int)(A:LL):St:=
 { env:=envOf 65 [(3,vI a),(4,PV.al (AL.one (lO 31 3 A))),(8,vI b)],boxes:=[] }
theorem quK(h:Oo [.b (decide (b<a)) false]):
 Tp (qaa f85 3) (qeI a c b A) (.exit 6) (qn8 a c A):=
 h.lp [8,3,4] []
theorem quL(h:Oo [.b (decide (a<b)) true,.l [] [9,3,8,4] [] (qaa f85 3) (qeI b a 0 A) (.exit 6) (qn8 b a C),.u a]):
 Tp (qaa f85 2) (qgJ b a A) .normal (qgJ b (a+1) C):=
 h.lp [8,3,4] []
def qn9(A:LL):St:=
 { env:=envOf 65 [(4,PV.al (AL.one (lO 31 3 A)))],boxes:=[] }
theorem quM(h:Oo [.b (decide (b<a)) false]):
 Tp (qaa f85 2) (qgJ a b A) (.exit 4) (qn9 A):=
 h.lp [4] []
def qgK(a:Int)(A:LL):St:=
 { env:=envOf 65 [(4,PV.al (AL.one (lO 31 3 A))),(10,vI a)],boxes:=[] }
theorem quN(h:Oo [.b (decide (a≤3)) true,.g A [[I 6,I a,I 0]] 24,.h [[I 6,I a,I 0]],.u a]):
 Tp (qaa f85 4) (qgK a A) .normal (qgK (a+1) (A++[[I 6,I a,I 0]])):=
 h.lp [10,4] []
def qoa(A:LL):St:=
 { env:=envOf 65 [(4,PV.al (AL.one (lO 31 3 A)))],boxes:=[] }
theorem quO(h:Oo [.b (decide (a≤3)) false]):
 Tp (qaa f85 4) (qgK a A) (.exit 8) (qoa A):=
 h.lp [4] []
theorem quP(h:Oo [.r 96 [cI b,cI 0,cI 4] [cI a],.l [(4,31,3)] [5,3,4] [] (qaa f85 0) (qgI a 0 []) (.exit 0) (qn7 a C),.l [] [8,3,4] [] (qaa f85 2) (qgJ a 0 C) (.exit 4) (qn9 E),.l [] [10,4] [] (qaa f85 4) (qgK 0 E) (.exit 8) (qoa A)]):
 Rt 85 [.agg (cl F b c G H J K)] [cS 3 A]:=
 h.of
theorem quQ(h:Oo [.b (decide (a≥b)) true]):
 Rt 81 [cI a,cI b,cI c] [cB (decide (a≤c))]:=
 h.of
theorem quR(h:Oo [.b (decide (a≥b)) false]):
 Rt 81 [cI a,cI b,cI c] [cB false]:=
 h.of
theorem quS(h:Oo [.b (decide (a≥b)) true]):
 Rt 137 [cI a,cI b,cI c] [cB (decide (a≤c))]:=
 h.of
theorem quT(h:Oo [.b (decide (a≥b)) false]):
 Rt 137 [cI a,cI b,cI c] [cB false]:=
 h.of
theorem quU(h:Oo [.b (decide (a<b)) true]):
 Rt 250 [cI a,cI b] [cI (-1)]:=
 h.of
theorem quV(h:Oo [.b (decide (a<b)) false,.b (decide (a>b)) true]):
 Rt 250 [cI a,cI b] [cI 1]:=
 h.of
theorem quW(h:Oo [.b (decide (a<b)) false,.b (decide (a>b)) false]):
 Rt 250 [cI a,cI b] [cI 0]:=
 h.of
theorem quX(a:Int)(h:Oo []):
 Rt 264 [cI a] [cB (a != a)]:=
 h.of
theorem quY(h:Oo [.r 264 [cI a] [cB q],.r 264 [cI b] [cB r],.b q false,.b r false,.b (decide (a<b)) true]):
 Rt 261 [cI a,cI b] [cI (-1)]:=
 h.of
theorem quZ(h:Oo [.r 264 [cI a] [cB q],.r 264 [cI b] [cB r],.b q false,.b r false,.b (decide (a<b)) false,.b (decide (a>b)) true]):
 Rt 261 [cI a,cI b] [cI 1]:=
 h.of
theorem qu0(h:Oo [.r 264 [cI a] [cB q],.r 264 [cI b] [cB r],.b q false,.b r false,.b (decide (a<b)) false,.b (decide (a>b)) false]):
 Rt 261 [cI a,cI b] [cI 0]:=
 h.of
def qeJ(A C:LL)(a:Int):St:=
 { env:=envOf 36 [(0,vF 1 A),(1,vF 1 C),(9,vF 1 A),(10,vI (A.length:Int)),(11,vI a)],boxes:=[] }
def qkt(a:Int):St:=
 { env:=envOf 36 [(4,vI a)],boxes:=[] }
theorem qu1(h:Oo [.b (decide (a<(A.length:Int))) true,.p (0≤a),.p (a<(A.length:Int)),.e A a.toNat [I c],.b (decide (a≥(C.length:Int))) false,.p (0≤a),.p (a<(C.length:Int)),.e C a.toNat [I d],.r 261 [cI c,cI d] [cI b],.b (b != 0) true]):
 Tp (qaa f254 0) (qeJ A C a) .ret (qkt b):=
 h.lp [4] []
theorem qu2(h:Oo [.b (decide (a<(A.length:Int))) true,.p (0≤a),.p (a<(A.length:Int)),.e A a.toNat [I b],.b (decide (a≥(C.length:Int))) false,.p (0≤a),.p (a<(C.length:Int)),.e C a.toNat [I c],.r 261 [cI b,cI c] [cI d],.b (d != 0) false,.u a]):
 Tp (qaa f254 0) (qeJ A C a) .normal (qeJ A C (a+1)):=
 h.lp [11,10,9,1,0] []
def qob(A C:LL):St:=
 { env:=envOf 36 [(0,vF 1 A),(1,vF 1 C)],boxes:=[] }
theorem qu3(h:Oo [.b (decide (a<(A.length:Int))) false]):
 Tp (qaa f254 0) (qeJ A C a) (.exit 0) (qob A C):=
 h.lp [0,1] []
theorem qu4(h:Oo [.l [] [11,10,9,1,0] [] (qaa f254 0) (qeJ A C 0) .ret (qkt a)]):
 Rt 254 [cS 1 A,cS 1 C] [cI a]:=
 h.of
theorem qu5(h:Oo [.l [] [11,10,9,1,0] [] (qaa f254 0) (qeJ A C 0) (.exit 0) (qob A C),.b (decide ((A.length:Int)<(C.length:Int))) false]):
 Rt 254 [cS 1 A,cS 1 C] [cI 0]:=
 h.of
theorem qu6(h:Oo [.r 254 [cS 1 A,cS 1 C] [cI a]]):
 Rt 246 [cS 1 A,cS 1 C] [cI a]:=
 h.of
def qeK(A:LL)(a b:Int)(C:LL):St:=
 { env:=envOf 30 [(0,vF 5 A),(1,vI a),(5,PV.al (AL.one (lO 7 5 C))),(6,vI b)],boxes:=[] }
theorem qu7(h:Oo [.b (decide (a<(A.length:Int))) true,.p (0≤a),.p (a<(A.length:Int)),.e A a.toNat (ri j i k l m),.b (i==g) true,.p (0≤a),.p (a<(A.length:Int)),.e A a.toNat (ri f b c d e),.g C [(ri f b c d e)] 40,.h [(ri f b c d e)],.u a]):
 Tp (qaa f233 0) (qeK A g a C) .normal (qeK A g (a+1) (C++[(ri f b c d e)])):=
 h.lp [6,0,1,5] []
theorem qu8(h:Oo [.b (decide (a<(A.length:Int))) true,.p (0≤a),.p (a<(A.length:Int)),.e A a.toNat (ri d c e f g),.b (c==b) false,.u a]):
 Tp (qaa f233 0) (qeK A b a C) .normal (qeK A b (a+1) C):=
 h.lp [6,0,1,5] []
def qoc(A:LL):St:=
 { env:=envOf 30 [(5,PV.al (AL.one (lO 7 5 A)))],boxes:=[] }
theorem qu9(h:Oo [.b (decide (a<(A.length:Int))) false]):
 Tp (qaa f233 0) (qeK A b a C) (.exit 0) (qoc C):=
 h.lp [5] []
theorem qva(h:Oo [.l [] [6,0,1,5] [] (qaa f233 0) (qeK A a 0 []) (.exit 0) (qoc C)]):
 Rt 233 [cS 5 A,cI a] [cS 5 C]:=
 h.of
def qeL(A:LL)(a b:Int)(C:LL):St:=
 { env:=envOf 25 [(1,vI a),(5,PV.al (AL.one (lO 22 5 C))),(8,vF 5 A),(9,vI (A.length:Int)),(10,vI b)],boxes:=[] }
theorem qvb(h:Oo [.b (decide (a<(A.length:Int))) true,.p (0≤a),.p (a<(A.length:Int)),.e A a.toNat (ri c b d e f),.b (b==g) true,.g C [(ri c b d e f)] 40,.h [(ri c b d e f)],.u a]):
 Tp (qaa f174 0) (qeL A g a C) .normal (qeL A g (a+1) (C++[(ri c b d e f)])):=
 h.lp [10,9,8,1,5] []
theorem qvc(h:Oo [.b (decide (a<(A.length:Int))) true,.p (0≤a),.p (a<(A.length:Int)),.e A a.toNat (ri d c e f g),.b (c==b) false,.u a]):
 Tp (qaa f174 0) (qeL A b a C) .normal (qeL A b (a+1) C):=
 h.lp [10,9,8,1,5] []
def qod(A:LL):St:=
 { env:=envOf 25 [(5,PV.al (AL.one (lO 22 5 A)))],boxes:=[] }
theorem qvd(h:Oo [.b (decide (a<(A.length:Int))) false]):
 Tp (qaa f174 0) (qeL A b a C) (.exit 0) (qod C):=
 h.lp [5] []
theorem qve(h:Oo [.l [(5,22,5)] [10,9,8,1,5] [] (qaa f174 0) (qeL A a 0 []) (.exit 0) (qod C)]):
 Rt 174 [cS 5 A,cI a] [cS 5 C]:=
 h.of
def qeM(A C E F G H J K:LL)(a b:Int):St:=
 { env:=envOf 21 [(1,vI a),(2,vP 2),(5,vI b)],boxes:=[(2,[.sl .free 5 A,.sl .free 5 C,.sl .free 5 E,.sl .free 4 F,.sl .free 1 G,.sl .free 1 H,.sl .free 1 J,.sl .free 2 K])] }
def qku(q:Bool):St:=
 { env:=envOf 21 [(4,.al (.one (.sb q)))],boxes:=[] }
theorem qvf(h:Oo [.b (decide (a<(A.length:Int))) true,.p (0≤a),.p (a<(A.length:Int)),.e A a.toNat [I b,B q],.b (b==c) true]):
 Tp (qaa f114 0) (qeM C E F G H J K A c a) .ret (qku true):=
 h.lp [4] []
theorem qvg(h:Oo [.b (decide (a<(A.length:Int))) true,.p (0≤a),.p (a<(A.length:Int)),.e A a.toNat [I c,B q],.b (c==b) false,.u a]):
 Tp (qaa f114 0) (qeM C E F G H J K A b a) .normal (qeM C E F G H J K A b (a+1)):=
 h.lp [5,2,1] [2]
def qoe:St:=
 { env:=envOf 21 [],boxes:=[] }
theorem qvh(h:Oo [.b (decide (a<(A.length:Int))) false]):
 Tp (qaa f114 0) (qeM C E F G H J K A b a) (.exit 0) qoe:=
 h.lp [] []
theorem qvi(h:Oo [.l [] [5,2,1] [2] (qaa f114 0) (qeM A C E F G H J K a 0) .ret (qku q)]):
 Rt 114 [.agg (wk A C E F G H J K),cI a] [cB q]:=
 h.of
theorem qvj(h:Oo [.l [] [5,2,1] [2] (qaa f114 0) (qeM A C E F G H J K a 0) (.exit 0) qoe]):
 Rt 114 [.agg (wk A C E F G H J K),cI a] [cB false]:=
 h.of
theorem qvk(h:Oo [.r 201 [cS 2 A,.one (.cl 202 [D.ptr [I a]])] [cB q]]):
 Rt 126 [cS 2 A,cI a] [cB q]:=
 h.of
theorem qvl(h:Oo []):
 Rt 202 [.agg [I a,B q],.one (.ptr [I b])] [cB (a==b)]:=
 h.of
theorem qvm(h:Oo [.r 126 [cS 2 A,cI a] [cB q]]):
 Rt 66 [.agg (wk C E F G H J K A),cI a] [cB q]:=
 h.of
def qeN(a b c:Int)(q:Bool)(E F G H J K A C:LL):St:=
 { env:=envOf 28 [(1,vI a),(2,vP 2),(4,vP 4),(6,vI b)],boxes:=[(4,[lI c,.sb q]),(2,[.sl .free 5 E,.sl .free 5 F,.sl .free 5 G,.sl .free 4 H,.sl .free 1 J,.sl .free 1 K,.sl .free 1 A,.sl .free 2 C])] }
def qof(q:Bool)(a:Int)(r:Bool):St:=
 { env:=envOf 28 [(4,vP 4),(5,.al (.one (.sb q)))],boxes:=[(4,[lI a,.sb r])] }
theorem qvn(h:Oo [.b (decide (a<(A.length:Int))) true,.p (0≤a),.p (a<(A.length:Int)),.e A a.toNat [I b,B s],.b (b==d) true,.p (0≤a),.p (a<(A.length:Int)),.e A a.toNat [I c,B q]]):
 Tp (qaa f99 0) (qeN d a e r C E F G H J K A) .ret (qof true c q):=
 h.lp [4,5] [4]
theorem qvo(h:Oo [.b (decide (a<(A.length:Int))) true,.p (0≤a),.p (a<(A.length:Int)),.e A a.toNat [I d,B r],.b (d==b) false,.u a]):
 Tp (qaa f99 0) (qeN b a c q C E F G H J K A) .normal (qeN b (a+1) c q C E F G H J K A):=
 h.lp [6,2,1,4] [4,2]
def qog(a:Int)(q:Bool):St:=
 { env:=envOf 28 [(4,vP 4)],boxes:=[(4,[lI a,.sb q])] }
theorem qvp(h:Oo [.b (decide (b<(A.length:Int))) false]):
 Tp (qaa f99 0) (qeN c b a q C E F G H J K A) (.exit 0) (qog a q):=
 h.lp [4] [4]
theorem qvq(h:Oo [.l [] [6,2,1,4] [4,2] (qaa f99 0) (qeN b 0 0 false A C E F G H J K) .ret (qof r a q)]):
 Rt 99 [.agg (wk A C E F G H J K),cI b] [.agg [I a,B q],cB r]:=
 h.of
theorem qvr(h:Oo [.l [] [6,2,1,4] [4,2] (qaa f99 0) (qeN a 0 0 false A C E F G H J K) (.exit 0) (qog b q)]):
 Rt 99 [.agg (wk A C E F G H J K),cI a] [.agg [I 0,B false],cB false]:=
 h.of
def qeO(A:LL)(a b c:Int)(q:Bool):St:=
 { env:=envOf 22 [(1,vI a),(4,vP 4),(9,vF 2 A),(10,vI (A.length:Int)),(11,vI b)],boxes:=[(4,[lI c,.sb q])] }
def qoh(q:Bool)(a:Int)(r:Bool):St:=
 { env:=envOf 22 [(4,vP 4),(5,.al (.one (.sb q)))],boxes:=[(4,[lI a,.sb r])] }
theorem qvs(h:Oo [.b (decide (a<(A.length:Int))) true,.p (0≤a),.p (a<(A.length:Int)),.e A a.toNat [I b,B q],.b (b==c) true]):
 Tp (qaa f104 0) (qeO A c a d r) .ret (qoh true b q):=
 h.lp [4,5] [4]
theorem qvt(h:Oo [.b (decide (a<(A.length:Int))) true,.p (0≤a),.p (a<(A.length:Int)),.e A a.toNat [I d,B r],.b (d==b) false,.u a]):
 Tp (qaa f104 0) (qeO A b a c q) .normal (qeO A b (a+1) c q):=
 h.lp [11,10,9,1,4] [4]
def qoi(a:Int)(q:Bool):St:=
 { env:=envOf 22 [(4,vP 4)],boxes:=[(4,[lI a,.sb q])] }
theorem qvu(h:Oo [.b (decide (b<(A.length:Int))) false]):
 Tp (qaa f104 0) (qeO A c b a q) (.exit 0) (qoi a q):=
 h.lp [4] [4]
theorem qvv(h:Oo [.l [] [11,10,9,1,4] [4] (qaa f104 0) (qeO A b 0 0 false) .ret (qoh r a q)]):
 Rt 104 [.agg (wk C E F G H J K A),cI b] [.agg [I a,B q],cB r]:=
 h.of
theorem qvw(h:Oo [.l [] [11,10,9,1,4] [4] (qaa f104 0) (qeO A a 0 0 false) (.exit 0) (qoi b q)]):
 Rt 104 [.agg (wk C E F G H J K A),cI a] [.agg [I 0,B false],cB false]:=
 h.of
def qeP(A:LL)(g1:Nat)(k2:List D)(a:Int):St:=
 { env:=envOf 19 [(0,vF 5 A),(1,.al (.one (.fd (D.cl g1 k2)))),(7,vI (A.length:Int)),(8,vI a)],boxes:=[] }
def qkv(a:Int):St:=
 { env:=envOf 19 [(4,vI a)],boxes:=[] }
theorem qvx(A:LL)(g1:Nat)(k2:List D)(a b c d e f:Int)(q:Bool)(h:Oo [.b (decide (a<(A.length:Int))) true,.p (0≤a),.p (a<(A.length:Int)),.e A a.toNat (ri b c d e f),.p (qaZ prog g1=true),.r g1 ([.agg (ri b c d e f)]++List.map .one k2) [cB q],.b q true]):
 Tp (qaa f234 0) (qeP A g1 k2 a) .ret (qkv a):=
 h.lp [4] []
theorem qvy(A:LL)(g1:Nat)(k2:List D)(a b c d e f:Int)(q:Bool)(h:Oo [.b (decide (a<(A.length:Int))) true,.p (0≤a),.p (a<(A.length:Int)),.e A a.toNat (ri b c d e f),.p (qaZ prog g1=true),.r g1 ([.agg (ri b c d e f)]++List.map .one k2) [cB q],.b q false,.u a]):
 Tp (qaa f234 0) (qeP A g1 k2 a) .normal (qeP A g1 k2 (a+1)):=
 h.lp [8,7,1,0] []
def qoj:St:=
 { env:=envOf 19 [],boxes:=[] }
theorem qvz(A:LL)(g1:Nat)(k2:List D)(a:Int)(h:Oo [.b (decide (a<(A.length:Int))) false]):
 Tp (qaa f234 0) (qeP A g1 k2 a) (.exit 0) qoj:=
 h.lp [] []
theorem qvA(A:LL)(g1:Nat)(k2:List D)(a:Int)(h:Oo [.l [] [8,7,1,0] [] (qaa f234 0) (qeP A g1 k2 0) .ret (qkv a)]):
 Rt 234 [cS 5 A,.one (.cl g1 k2)] [cI a]:=
 h.of
theorem qvB(A:LL)(g1:Nat)(k2:List D)(h:Oo [.l [] [8,7,1,0] [] (qaa f234 0) (qeP A g1 k2 0) (.exit 0) qoj]):
 Rt 234 [cS 5 A,.one (.cl g1 k2)] [cI (-1)]:=
 h.of
def qeQ(A:LL)(g1:Nat)(k2:List D)(a:Int):St:=
 { env:=envOf 19 [(0,vF 2 A),(1,.al (.one (.fd (D.cl g1 k2)))),(7,vI (A.length:Int)),(8,vI a)],boxes:=[] }
def qkw(a:Int):St:=
 { env:=envOf 19 [(4,vI a)],boxes:=[] }
theorem qvC(A:LL)(g1:Nat)(k2:List D)(a b:Int)(q r:Bool)(h:Oo [.b (decide (a<(A.length:Int))) true,.p (0≤a),.p (a<(A.length:Int)),.e A a.toNat [I b,B q],.p (qaZ prog g1=true),.r g1 ([.agg [I b,B q]]++List.map .one k2) [cB r],.b r true]):
 Tp (qaa f231 0) (qeQ A g1 k2 a) .ret (qkw a):=
 h.lp [4] []
theorem qvD(A:LL)(g1:Nat)(k2:List D)(a b:Int)(q r:Bool)(h:Oo [.b (decide (a<(A.length:Int))) true,.p (0≤a),.p (a<(A.length:Int)),.e A a.toNat [I b,B q],.p (qaZ prog g1=true),.r g1 ([.agg [I b,B q]]++List.map .one k2) [cB r],.b r false,.u a]):
 Tp (qaa f231 0) (qeQ A g1 k2 a) .normal (qeQ A g1 k2 (a+1)):=
 h.lp [8,7,1,0] []
def qok:St:=
 { env:=envOf 19 [],boxes:=[] }
theorem qvE(A:LL)(g1:Nat)(k2:List D)(a:Int)(h:Oo [.b (decide (a<(A.length:Int))) false]):
 Tp (qaa f231 0) (qeQ A g1 k2 a) (.exit 0) qok:=
 h.lp [] []
theorem qvF(A:LL)(g1:Nat)(k2:List D)(a:Int)(h:Oo [.l [] [8,7,1,0] [] (qaa f231 0) (qeQ A g1 k2 0) .ret (qkw a)]):
 Rt 231 [cS 2 A,.one (.cl g1 k2)] [cI a]:=
 h.of
theorem qvG(A:LL)(g1:Nat)(k2:List D)(h:Oo [.l [] [8,7,1,0] [] (qaa f231 0) (qeQ A g1 k2 0) (.exit 0) qok]):
 Rt 231 [cS 2 A,.one (.cl g1 k2)] [cI (-1)]:=
 h.of
def qeR(A:LL)(g1:Nat)(k2:List D)(a:Int):St:=
 { env:=envOf 19 [(0,vF 3 A),(1,.al (.one (.fd (D.cl g1 k2)))),(7,vI (A.length:Int)),(8,vI a)],boxes:=[] }
def qkx(a:Int):St:=
 { env:=envOf 19 [(4,vI a)],boxes:=[] }
theorem qvH(A:LL)(g1:Nat)(k2:List D)(a b c:Int)(q r:Bool)(h:Oo [.b (decide (a<(A.length:Int))) true,.p (0≤a),.p (a<(A.length:Int)),.e A a.toNat [I b,I c,B q],.p (qaZ prog g1=true),.r g1 ([.agg [I b,I c,B q]]++List.map .one k2) [cB r],.b r true]):
 Tp (qaa f62 0) (qeR A g1 k2 a) .ret (qkx a):=
 h.lp [4] []
theorem qvI(A:LL)(g1:Nat)(k2:List D)(a b c:Int)(q r:Bool)(h:Oo [.b (decide (a<(A.length:Int))) true,.p (0≤a),.p (a<(A.length:Int)),.e A a.toNat [I b,I c,B q],.p (qaZ prog g1=true),.r g1 ([.agg [I b,I c,B q]]++List.map .one k2) [cB r],.b r false,.u a]):
 Tp (qaa f62 0) (qeR A g1 k2 a) .normal (qeR A g1 k2 (a+1)):=
 h.lp [8,7,1,0] []
def qol:St:=
 { env:=envOf 19 [],boxes:=[] }
theorem qvJ(A:LL)(g1:Nat)(k2:List D)(a:Int)(h:Oo [.b (decide (a<(A.length:Int))) false]):
 Tp (qaa f62 0) (qeR A g1 k2 a) (.exit 0) qol:=
 h.lp [] []
theorem qvK(A:LL)(g1:Nat)(k2:List D)(a:Int)(h:Oo [.l [] [8,7,1,0] [] (qaa f62 0) (qeR A g1 k2 0) .ret (qkx a)]):
 Rt 62 [cS 3 A,.one (.cl g1 k2)] [cI a]:=
 h.of
theorem qvL(A:LL)(g1:Nat)(k2:List D)(h:Oo [.l [] [8,7,1,0] [] (qaa f62 0) (qeR A g1 k2 0) (.exit 0) qol]):
 Rt 62 [cS 3 A,.one (.cl g1 k2)] [cI (-1)]:=
 h.of
def qeS(A:LL)(g1:Nat)(k2:List D)(a:Int):St:=
 { env:=envOf 19 [(0,vF 4 A),(1,.al (.one (.fd (D.cl g1 k2)))),(7,vI (A.length:Int)),(8,vI a)],boxes:=[] }
def qky(a:Int):St:=
 { env:=envOf 19 [(4,vI a)],boxes:=[] }
theorem qvM(A:LL)(g1:Nat)(k2:List D)(a b c d e:Int)(q:Bool)(h:Oo [.b (decide (a<(A.length:Int))) true,.p (0≤a),.p (a<(A.length:Int)),.e A a.toNat [I b,I c,I d,I e],.p (qaZ prog g1=true),.r g1 ([.agg [I b,I c,I d,I e]]++List.map .one k2) [cB q],.b q true]):
 Tp (qaa f262 0) (qeS A g1 k2 a) .ret (qky a):=
 h.lp [4] []
theorem qvN(A:LL)(g1:Nat)(k2:List D)(a b c d e:Int)(q:Bool)(h:Oo [.b (decide (a<(A.length:Int))) true,.p (0≤a),.p (a<(A.length:Int)),.e A a.toNat [I b,I c,I d,I e],.p (qaZ prog g1=true),.r g1 ([.agg [I b,I c,I d,I e]]++List.map .one k2) [cB q],.b q false,.u a]):
 Tp (qaa f262 0) (qeS A g1 k2 a) .normal (qeS A g1 k2 (a+1)):=
 h.lp [8,7,1,0] []
def qom:St:=
 { env:=envOf 19 [],boxes:=[] }
theorem qvO(A:LL)(g1:Nat)(k2:List D)(a:Int)(h:Oo [.b (decide (a<(A.length:Int))) false]):
 Tp (qaa f262 0) (qeS A g1 k2 a) (.exit 0) qom:=
 h.lp [] []
theorem qvP(A:LL)(g1:Nat)(k2:List D)(a:Int)(h:Oo [.l [] [8,7,1,0] [] (qaa f262 0) (qeS A g1 k2 0) .ret (qky a)]):
 Rt 262 [cS 4 A,.one (.cl g1 k2)] [cI a]:=
 h.of
theorem qvQ(A:LL)(g1:Nat)(k2:List D)(h:Oo [.l [] [8,7,1,0] [] (qaa f262 0) (qeS A g1 k2 0) (.exit 0) qom]):
 Rt 262 [cS 4 A,.one (.cl g1 k2)] [cI (-1)]:=
 h.of
theorem qvR(A:LL)(g1:Nat)(k2:List D)(a:Int)(h:Oo [.r 234 [cS 5 A,.one (.cl g1 k2)] [cI a]]):
 Rt 207 [cS 5 A,.one (.cl g1 k2)] [cB (decide (a≥0))]:=
 h.of
theorem qvS(A:LL)(g1:Nat)(k2:List D)(a:Int)(h:Oo [.r 231 [cS 2 A,.one (.cl g1 k2)] [cI a]]):
 Rt 201 [cS 2 A,.one (.cl g1 k2)] [cB (decide (a≥0))]:=
 h.of
end Go.Proofs.YtdanpadojemjeaaGreat
namespace Go.Proofs.YtdanpadojemjeaaGreat
open Go.Sx Go.RowKit Go.Proofs.Tryz
variable {a b c d e f g i j k l m n o p a0 b0 c0 d0 e0 f0 : Int} {A C E F G H J K L M N P Q R S U V W X Y Z A0 C0 : LL} {q r s : Bool}
theorem qvU(h:Oo [.g ([]:LL) A 32,.h A]):
 Rt 196 [cS 4 A] [cS 4 ([]++A)]:=
 h.of
theorem qvV(h:Oo [.r 251 [cS 4 A,.agg [I a,I b,I c,I d]] [cB q]]):
 Rt 244 [cS 4 A,.agg [I a,I b,I c,I d]] [cB q]:=
 h.of
theorem qvW(h:Oo [.r 246 [.one (.sl 1 [[I b],[I a],[I c],[I d]]),.one (.sl 1 [[I f],[I e],[I g],[I i]])] [cI j]]):
 Rt 230 [.agg [I a,I b,I c,I d],.agg [I e,I f,I g,I i]] [cI j]:=
 h.of
theorem qvX(h:Oo [.r 259 [cS 4 A,.agg [I a,I b,I c,I d]] [cI e]]):
 Rt 251 [cS 4 A,.agg [I a,I b,I c,I d]] [cB (decide (e≥0))]:=
 h.of
def qeT(A:LL)(a b c d e:Int):St:=
 { env:=envOf 19 [(0,vF 4 A),(3,vP 3),(7,vI (A.length:Int)),(8,vI e)],boxes:=[(3,[lI a,lI b,lI c,lI d])] }
def qkC(a:Int):St:=
 { env:=envOf 19 [(4,vI a)],boxes:=[] }
theorem qvY(h:Oo [.b (decide (a<(A.length:Int))) true,.p (0≤a),.p (a<(A.length:Int)),.e A a.toNat [I f,I g,I i,I j],.b (b==f&&(c==g&&(d==i&&e==j))) true]):
 Tp (qaa f259 0) (qeT A b c d e a) .ret (qkC a):=
 h.lp [4] []
theorem qvZ(h:Oo [.b (decide (a<(A.length:Int))) true,.p (0≤a),.p (a<(A.length:Int)),.e A a.toNat [I f,I g,I i,I j],.b (b==f&&(c==g&&(d==i&&e==j))) false,.u a]):
 Tp (qaa f259 0) (qeT A b c d e a) .normal (qeT A b c d e (a+1)):=
 h.lp [8,7,3,0] [3]
def qoo:St:=
 { env:=envOf 19 [],boxes:=[] }
theorem qv0(h:Oo [.b (decide (a<(A.length:Int))) false]):
 Tp (qaa f259 0) (qeT A b c d e a) (.exit 0) qoo:=
 h.lp [] []
theorem qv1(h:Oo [.l [] [8,7,3,0] [3] (qaa f259 0) (qeT A a b c d 0) .ret (qkC e)]):
 Rt 259 [cS 4 A,.agg [I a,I b,I c,I d]] [cI e]:=
 h.of
theorem qv2(h:Oo [.l [] [8,7,3,0] [3] (qaa f259 0) (qeT A a b c d 0) (.exit 0) qoo]):
 Rt 259 [cS 4 A,.agg [I a,I b,I c,I d]] [cI (-1)]:=
 h.of
theorem qv3(h:Oo [.r 196 [cS 4 A] [cS 4 C],.r 244 [cS 4 A,.agg [I a,I b,I c,I d]] [cB q],.b q true]):
 Rt 226 [cS 4 A,.agg [I a,I b,I c,I d]] [cS 4 C]:=
 h.of
def qeU(A:LL)(a b c d:Int)(C:LL)(e:Int):St:=
 { env:=envOf 33 [(0,vF 4 A),(3,vP 3),(5,PV.al (AL.one (lO 90000 4 C))),(6,vI e)],boxes:=[(3,[lI a,lI b,lI c,lI d])] }
theorem qv4(h:Oo [.b (decide (a<(A.length:Int))) true,.p (0≤a),.p (a<(A.length:Int)),.e A a.toNat [I j,I k,I f,I g],.r 230 [.agg [I j,I k,I f,I g],.agg [I b,I c,I d,I e]] [cI i],.b (decide (i<0)) true,.u a]):
 Tp (qaa f226 0) (qeU A b c d e C a) .normal (qeU A b c d e C (a+1)):=
 h.lp [6,0,3,5] [3]
def qgL(a b c d:Int)(A:LL)(e:Int):St:=
 { env:=envOf 33 [(3,vP 3),(5,PV.al (AL.one (lO 90000 4 A))),(6,vI e)],boxes:=[(3,[lI a,lI b,lI c,lI d])] }
theorem qv5(h:Oo [.b (decide (a<(A.length:Int))) true,.p (0≤a),.p (a<(A.length:Int)),.e A a.toNat [I j,I k,I f,I g],.r 230 [.agg [I j,I k,I f,I g],.agg [I b,I c,I d,I e]] [cI i],.b (decide (i<0)) false]):
 Tp (qaa f226 0) (qeU A b c d e C a) (.exit 0) (qgL b c d e C a):=
 h.lp [5,6,3] [3]
theorem qv6(h:Oo [.b (decide (a<(A.length:Int))) false]):
 Tp (qaa f226 0) (qeU A b c d e C a) (.exit 0) (qgL b c d e C a):=
 h.lp [5,6,3] [3]
theorem qv7(h:Oo [.r 196 [cS 4 A] [cS 4 C],.r 244 [cS 4 A,.agg [I a,I b,I c,I d]] [cB q],.b q false,.l [] [6,0,3,5] [3] (qaa f226 0) (qeU A a b c d C 0) (.exit 0) (qgL a b c d C e),.a (.resG [[some none],[none],[some none]] 0 [] [cS 4 E]),.p (RetG prog 245 [GA.one (GC.gv 4 C none),GA.one (GC.ro (I e)),GA.one (GC.gv 4 [[I a,I b,I c,I d]] none)] [cS 4 E])]):
 Rt 226 [cS 4 A,.agg [I a,I b,I c,I d]] [cS 4 E]:=
 h.of
theorem qop(h:Oo [.v ((A.length:Int)-1),.r 81 [cI a,cI 0,cI ((A.length:Int)-1)] [cB q]]):
 Rt 200 [.agg (gr A b c),cI a] [cB q]:=
 h.of
def qdu(A:LL)(a:Int)(C E:LL)(b c:Int):St:=
 { env:=envOf 34 [(2,vP 2),(5,PV.al (AL.one (lO 31 4 C))),(8,vF 4 A),(9,vI (A.length:Int)),(10,vI a)],boxes:=[(2,[.sl .free 4 E,lI b,lI c])] }
theorem qv8(h:Oo [.b (decide (b<(A.length:Int))) true,.p (0≤b),.p (b<(A.length:Int)),.e A b.toNat [I a,I c,I d,I e],.r 200 [.agg (gr C f g),cI a] [cB q],.b q true,.p (0≤a),.p (a<(C.length:Int)),.e C a.toNat (nd i j k F),.b (i==8) true,.g E [[I a,I c,I d,I e]] 32,.h [[I a,I c,I d,I e]],.u b]):
 Tp (qaa f177 0) (qdu A b E C f g) .normal (qdu A (b+1) (E++[[I a,I c,I d,I e]]) C f g):=
 h.lp [10,9,8,2,5] [2]
theorem qv9(h:Oo [.b (decide (a<(A.length:Int))) true,.p (0≤a),.p (a<(A.length:Int)),.e A a.toNat [I b,I f,I g,I i],.r 200 [.agg (gr C c d),cI b] [cB q],.b q true,.p (0≤b),.p (b<(C.length:Int)),.e C b.toNat (nd e j k F),.b (e==8) false,.u a]):
 Tp (qaa f177 0) (qdu A a E C c d) .normal (qdu A (a+1) E C c d):=
 h.lp [10,9,8,2,5] [2]
theorem qwa(h:Oo [.b (decide (a<(A.length:Int))) true,.p (0≤a),.p (a<(A.length:Int)),.e A a.toNat [I d,I e,I f,I g],.r 200 [.agg (gr C b c),cI d] [cB q],.b q false,.u a]):
 Tp (qaa f177 0) (qdu A a E C b c) .normal (qdu A (a+1) E C b c):=
 h.lp [10,9,8,2,5] [2]
def qoq(A:LL):St:=
 { env:=envOf 34 [(5,PV.al (AL.one (lO 31 4 A)))],boxes:=[] }
theorem qwb(h:Oo [.b (decide (a<(A.length:Int))) false]):
 Tp (qaa f177 0) (qdu A a C E b c) (.exit 0) (qoq C):=
 h.lp [5] []
theorem qwc(h:Oo [.l [(5,31,4)] [10,9,8,2,5] [2] (qaa f177 0) (qdu C 0 [] A a b) (.exit 0) (qoq E)]):
 Rt 177 [.agg (gr A a b),cS 4 C] [cS 4 E]:=
 h.of
def qgM(A:LL)(a:Int)(C:LL):St:=
 { env:=envOf 28 [(3,PV.al (AL.one (lO 250000 4 C))),(9,vF 8 A),(10,vI (A.length:Int)),(11,vI a)],boxes:=[] }
def qfL(A:LL)(a:Int)(C:LL)(b:Int)(E:LL):St:=
 { env:=envOf 28 [(3,PV.al (AL.one (lO 250000 4 E))),(9,vF 8 A),(10,vI (A.length:Int)),(11,vI a),(16,vF 4 C),(17,vI (C.length:Int)),(18,vI b)],boxes:=[] }
theorem qwd(h:Oo [.b (decide (a<(A.length:Int))) true,.p (0≤a),.p (a<(A.length:Int)),.e A a.toNat [I b,I c,I d,I e],.r 226 [cS 4 C,.agg [I b,I c,I d,I e]] [cS 4 E],.u a]):
 Tp (qaa f178 1) (qfL F f A a C) .normal (qfL F f A (a+1) E):=
 h.lp [18,17,16,3,11,10,9] []
def qkD(A:LL)(a:Int)(C:LL):St:=
 { env:=envOf 28 [(3,PV.al (AL.one (lO 250000 4 C))),(9,vF 8 A),(10,vI (A.length:Int)),(11,vI a)],boxes:=[] }
theorem qwe(h:Oo [.b (decide (a<(A.length:Int))) false]):
 Tp (qaa f178 1) (qfL E b A a C) (.exit 2) (qkD E b C):=
 h.lp [11,10,9,3] []
theorem qwf(h:Oo [.b (decide (a<(A.length:Int))) true,.p (0≤a),.p (a<(A.length:Int)),.e A a.toNat (wk N G H C J K L M),.l [] [18,17,16,3,11,10,9] [] (qaa f178 1) (qfL A a C 0 F) (.exit 2) (qkD A a E),.u a]):
 Tp (qaa f178 0) (qgM A a F) .normal (qgM A (a+1) E):=
 h.lp [11,10,9,3] []
def qor(A:LL):St:=
 { env:=envOf 28 [(3,PV.al (AL.one (lO 250000 4 A)))],boxes:=[] }
theorem qwg(h:Oo [.b (decide (a<(A.length:Int))) false]):
 Tp (qaa f178 0) (qgM A a C) (.exit 0) (qor C):=
 h.lp [3] []
theorem qwh(h:Oo [.l [(3,250000,4)] [11,10,9,3] [] (qaa f178 0) (qgM A 0 []) (.exit 0) (qor C)]):
 Rt 178 [.agg (cl E a b A F G H)] [cS 4 C]:=
 h.of
def qeV(a:Int)(A:LL)(b:Int)(C:LL):St:=
 { env:=envOf 28 [(1,vI a),(5,PV.al (AL.one (lO 25 4 C))),(12,PV.al (AL.one (lO 130000 4 A))),(13,vI (A.length:Int)),(14,vI b)],boxes:=[] }
theorem qwi(h:Oo [.b (decide (a<(A.length:Int))) true,.p (0≤a),.p (a<(A.length:Int)),.e A a.toNat [I c,I b,I d,I e],.b (b==f) true,.g C [[I c,I b,I d,I e]] 32,.h [[I c,I b,I d,I e]],.u a]):
 Tp (qaa f105 0) (qeV f A a C) .normal (qeV f A (a+1) (C++[[I c,I b,I d,I e]])):=
 h.lp [14,13,12,1,5] []
theorem qwj(h:Oo [.b (decide (a<(A.length:Int))) true,.p (0≤a),.p (a<(A.length:Int)),.e A a.toNat [I d,I c,I e,I f],.b (c==b) false,.u a]):
 Tp (qaa f105 0) (qeV b A a C) .normal (qeV b A (a+1) C):=
 h.lp [14,13,12,1,5] []
def qos(A:LL):St:=
 { env:=envOf 28 [(5,PV.al (AL.one (lO 25 4 A)))],boxes:=[] }
theorem qwk(h:Oo [.b (decide (a<(C.length:Int))) false]):
 Tp (qaa f105 0) (qeV b C a A) (.exit 0) (qos A):=
 h.lp [5] []
theorem qwl(h:Oo [.r 178 [.agg (cl A a b E F G H)] [cS 4 J],.r 177 [.agg (gr A a b),cS 4 J] [cS 4 K],.l [(5,25,4)] [14,13,12,1,5] [] (qaa f105 0) (qeV c K 0 []) (.exit 0) (qos C)]):
 Rt 105 [.agg (cl A a b E F G H),cI c] [cS 4 C]:=
 h.of
theorem qwm(h:Oo [.b (a==d) true,.b (b==e) true]):
 Rt 258 [.agg [I a,I b,I c,I g],.agg [I d,I e,I f,I i]] [cB (c==f)]:=
 h.of
theorem qwn(h:Oo [.b (a==c) true,.b (b==d) false]):
 Rt 258 [.agg [I a,I b,I e,I f],.agg [I c,I d,I g,I i]] [cB false]:=
 h.of
theorem qwo(h:Oo [.b (a==b) false]):
 Rt 258 [.agg [I a,I c,I d,I e],.agg [I b,I f,I g,I i]] [cB false]:=
 h.of
theorem qwp(h:Oo [.r 258 [.agg [I e,I f,I g,I i],.agg [I a,I b,I c,I d]] [cB q]]):
 Rt 257 [.agg [I a,I b,I c,I d],.one (.ptr [I e,I f,I g,I i])] [cB q]:=
 h.of
theorem qwq(A:LL)(g1:Nat)(k2:List D)(a:Int)(h:Oo [.r 262 [cS 4 A,.one (.cl g1 k2)] [cI a],.b (a==-1) true]):
 Rg 256 [GA.one (GC.gv 4 A none),GA.one (GC.ro (D.cl g1 k2))] [cS 4 A]:=
 h.ofG
def qdS(g0:Nat)(k1:List D)(a b:Int)(A:LL):St:=
 { env:=envOf 42 [(0,PV.al (AL.one (lO 1000000000 4 A))),(1,.al (.one (.fd (D.cl g0 k1)))),(5,vI b),(6,vI a)],boxes:=[] }
theorem qwr(g1:Nat)(k2:List D)(a b:Int)(A:LL)(d e f c:Int)(q:Bool)(d12 d13 d14 d15:D)(h:Oo [.b (decide (a<(A.length:Int))) true,.p (0≤a),.p (a<(A.length:Int)),.e A a.toNat [I d,I e,I f,I c],.p (qaZ prog g1=true),.r g1 ([.agg [I d,I e,I f,I c]]++List.map .one k2) [cB q],.n q true,.p (0≤b),.p (b<(A.length:Int)),.e A b.toNat [d12,d13,d14,d15],.u b,.u a]):
 Tp (qaa f256 0) (qdS g1 k2 a b A) .normal (qdS g1 k2 (a+1) (b+1) (A.set b.toNat [I d,I e,I f,I c])):=
 h.lp [6,0,1,5] []
theorem qws(g1:Nat)(k2:List D)(a c:Int)(A:LL)(d e f b:Int)(q:Bool)(h:Oo [.b (decide (a<(A.length:Int))) true,.p (0≤a),.p (a<(A.length:Int)),.e A a.toNat [I d,I e,I f,I b],.p (qaZ prog g1=true),.r g1 ([.agg [I d,I e,I f,I b]]++List.map .one k2) [cB q],.n q false,.u a]):
 Tp (qaa f256 0) (qdS g1 k2 a c A) .normal (qdS g1 k2 (a+1) c A):=
 h.lp [6,0,1,5] []
def qkE(A:LL)(a:Int):St:=
 { env:=envOf 42 [(0,PV.al (AL.one (lO 1000000000 4 A))),(5,vI a)],boxes:=[] }
theorem qwt(g1:Nat)(k2:List D)(a b:Int)(A:LL)(h:Oo [.b (decide (a<(A.length:Int))) false]):
 Tp (qaa f256 0) (qdS g1 k2 a b A) (.exit 0) (qkE A b):=
 h.lp [0,5] []
theorem qwu(C:LL)(g1:Nat)(k2:List D)(b:Int)(A:LL)(a:Int)(h:Oo [.r 262 [cS 4 C,.one (.cl g1 k2)] [cI b],.b (b==-1) false,.u b,.l [] [6,0,1,5] [] (qaa f256 0) (qdS g1 k2 (b+1) b C) (.exit 0) (qkE A a),.a .own,.p (0≤(some a).getD 0),.p ((some a).getD 0<(A.length:Int)),.h A,.p ((0:Int)≤none.getD 0),.p (none.getD 0≤(some a).getD (↑(List.take ((some a).getD 0).toNat A++List.replicate (A.length-((some a).getD 0).toNat) [I 0,I 0,I 0,I 0]).length:Int)),.p ((some a).getD (↑(List.take ((some a).getD 0).toNat A++List.replicate (A.length-((some a).getD 0).toNat) [I 0,I 0,I 0,I 0]).length:Int)≤(↑(List.take ((some a).getD 0).toNat A++List.replicate (A.length-((some a).getD 0).toNat) [I 0,I 0,I 0,I 0]).length:Int))]):
 Rg 256 [GA.one (GC.gv 4 C none),GA.one (GC.ro (D.cl g1 k2))] [.one (.sl 4 (List.take (((some a).getD (↑(List.take ((some a).getD 0).toNat A++List.replicate (A.length-((some a).getD 0).toNat) [I 0,I 0,I 0,I 0]).length:Int)).toNat-0) (List.drop 0 (List.take ((some a).getD 0).toNat A++List.replicate (A.length-((some a).getD 0).toNat) [I 0,I 0,I 0,I 0]))))]:=
 h.ofG
def qcr(A:LL)(a b c d:Int)(q:Bool)(e:Int):St:=
 { env:=envOf 41 [(1,vI a),(2,vI b),(3,vI c),(10,vI e),(11,.al (.one (.sb q))),(14,vF 4 A),(15,vI (A.length:Int)),(16,vI d)],boxes:=[] }
theorem qwv(h:Oo [.b (decide (a<(A.length:Int))) true,.p (0≤a),.p (a<(A.length:Int)),.e A a.toNat [I f,I g,I i,I c],.r 258 [.agg [I f,I g,I i,I c],.agg [I b,I d,I e,I 0]] [cB q],.b q true,.n r true,.u a]):
 Tp (qaa f255 0) (qcr A b d e a r j) .normal (qcr A b d e (a+1) true c):=
 h.lp [16,15,14,1,2,3,11,10] []
theorem qww(h:Oo [.b (decide (a<(A.length:Int))) true,.p (0≤a),.p (a<(A.length:Int)),.e A a.toNat [I g,I i,I j,I b],.r 258 [.agg [I g,I i,I j,I b],.agg [I c,I d,I e,I 0]] [cB q],.b q true,.n r false,.b (decide (b<f)) true,.u a]):
 Tp (qaa f255 0) (qcr A c d e a r f) .normal (qcr A c d e (a+1) true b):=
 h.lp [16,15,14,1,2,3,11,10] []
theorem qwx(h:Oo [.b (decide (a<(A.length:Int))) true,.p (0≤a),.p (a<(A.length:Int)),.e A a.toNat [I g,I i,I j,I c],.r 258 [.agg [I g,I i,I j,I c],.agg [I b,I d,I e,I 0]] [cB r],.b r true,.n q false,.b (decide (c<f)) false,.u a]):
 Tp (qaa f255 0) (qcr A b d e a q f) .normal (qcr A b d e (a+1) q f):=
 h.lp [16,15,14,1,2,3,11,10] []
theorem qwy(h:Oo [.b (decide (a<(A.length:Int))) true,.p (0≤a),.p (a<(A.length:Int)),.e A a.toNat [I g,I i,I j,I e],.r 258 [.agg [I g,I i,I j,I e],.agg [I b,I c,I d,I 0]] [cB q],.b q false,.u a]):
 Tp (qaa f255 0) (qcr A b c d a r f) .normal (qcr A b c d (a+1) r f):=
 h.lp [16,15,14,1,2,3,11,10] []
def qot(a:Int)(q:Bool):St:=
 { env:=envOf 41 [(10,vI a),(11,.al (.one (.sb q)))],boxes:=[] }
theorem qwz(h:Oo [.b (decide (a<(A.length:Int))) false]):
 Tp (qaa f255 0) (qcr A c d e a q b) (.exit 0) (qot b q):=
 h.lp [10,11] []
theorem qwA(h:Oo [.l [] [16,15,14,1,2,3,11,10] [] (qaa f255 0) (qcr A a b c 0 false 0) (.exit 0) (qot d q)]):
 Rt 255 [cS 4 A,cI a,cI b,cI c] [cI d,cB q]:=
 h.of
theorem qwB(h:Oo [.r 255 [cS 4 A,cI a,cI b,cI c] [cI e,cB q],.b q true,.b (decide (e≤d)) true,.r 196 [cS 4 A] [cS 4 C]]):
 Rt 249 [cS 4 A,.agg [I a,I b,I c,I d]] [cS 4 C,cB false]:=
 h.of
theorem qwC(h:Oo [.r 255 [cS 4 A,cI a,cI b,cI c] [cI e,cB q],.b q true,.b (decide (e≤d)) false,.r 196 [cS 4 A] [cS 4 F],.a (.resG [[some none],[none]] 0 [] [cS 4 C]),.p (RetG prog 256 [GA.one (GC.gv 4 F none),GA.one (GC.ro (D.cl 257 [D.ptr [I a,I b,I c,I d]]))] [cS 4 C]),.r 226 [cS 4 C,.agg [I a,I b,I c,I d]] [cS 4 E]]):
 Rt 249 [cS 4 A,.agg [I a,I b,I c,I d]] [cS 4 E,cB true]:=
 h.of
theorem qwD(h:Oo [.r 255 [cS 4 A,cI a,cI b,cI c] [cI e,cB q],.b q false,.r 196 [cS 4 A] [cS 4 F],.a (.resG [[some none],[none]] 0 [] [cS 4 C]),.p (RetG prog 256 [GA.one (GC.gv 4 F none),GA.one (GC.ro (D.cl 257 [D.ptr [I a,I b,I c,I d]]))] [cS 4 C]),.r 226 [cS 4 C,.agg [I a,I b,I c,I d]] [cS 4 E]]):
 Rt 249 [cS 4 A,.agg [I a,I b,I c,I d]] [cS 4 E,cB true]:=
 h.of
theorem qwE(h:Oo [.b (a==5) true,.b (a==5) true,.r 249 [cS 4 A,.agg [I b,I c,I d,I e]] [cS 4 C,cB q]]):
 Rt 240 [cI a,cS 4 A,.agg [I b,I c,I d,I e]] [cS 4 C,cB q]:=
 h.of
theorem qwF(h:Oo [.b (a==5) false,.b (a==8) true,.r 249 [cS 4 A,.agg [I b,I c,I d,I e]] [cS 4 C,cB q]]):
 Rt 240 [cI a,cS 4 A,.agg [I b,I c,I d,I e]] [cS 4 C,cB q]:=
 h.of
theorem qwG(h:Oo [.b (a==5) false,.b (a==8) false,.b (a==6) true,.r 226 [cS 4 A,.agg [I b,I c,I d,I e]] [cS 4 C],.r 244 [cS 4 A,.agg [I b,I c,I d,I e]] [cB q]]):
 Rt 240 [cI a,cS 4 A,.agg [I b,I c,I d,I e]] [cS 4 C,.one (B !q)]:=
 h.of
theorem qwH(h:Oo [.b (a==5) false,.b (a==8) false,.b (a==6) false,.r 196 [cS 4 A] [cS 4 C]]):
 Rt 240 [cI a,cS 4 A,.agg [I b,I c,I d,I e]] [cS 4 C,cB true]:=
 h.of
def qeW(a b c d e:Int):St:=
 { env:=envOf 41 [(5,.al (.one (.sl (.own 27) 1 [[I a],[I b],[I c],[I d]]))),(6,vI e)],boxes:=[] }
def qkF(a:Int):St:=
 { env:=envOf 41 [(4,vI a)],boxes:=[] }
theorem qwI(h:Oo [.b (decide (a<4)) true,.x [[I d],[I e],[I b],[I c]] a [I f],.b (f != 0) true,.x [[I d],[I e],[I b],[I c]] a [I g]]):
 Tp (qaa f243 0) (qeW d e b c a) .ret (qkF g):=
 h.lp [4] []
theorem qwJ(h:Oo [.b (decide (a<4)) true,.x [[I d],[I e],[I b],[I c]] a [I f],.b (f != 0) false,.u a]):
 Tp (qaa f243 0) (qeW d e b c a) .normal (qeW d e b c (a+1)):=
 h.lp [6,5] []
def qou:St:=
 { env:=envOf 41 [],boxes:=[] }
theorem qwK(h:Oo [.b (decide (a<4)) false]):
 Tp (qaa f243 0) (qeW d e b c a) (.exit 0) qou:=
 h.lp [] []
theorem qwL(h:Oo [.r 250 [cI b,cI j] [cI m],.r 250 [cI a,cI i] [cI n],.r 250 [cI f,cI k] [cI c],.r 250 [cI g,cI l] [cI d],.l [] [6,5] [] (qaa f243 0) (qeW m n c d 0) .ret (qkF e)]):
 Rt 243 [.agg [I a,I b,I f,I g],.agg [I i,I j,I k,I l]] [cI e]:=
 h.of
theorem qwM(h:Oo [.r 250 [cI b,cI i] [cI l],.r 250 [cI a,cI g] [cI m],.r 250 [cI e,cI j] [cI c],.r 250 [cI f,cI k] [cI d],.l [] [6,5] [] (qaa f243 0) (qeW l m c d 0) (.exit 0) qou]):
 Rt 243 [.agg [I a,I b,I e,I f],.agg [I g,I i,I j,I k]] [cI 0]:=
 h.of
def qeX(A:LL)(a b c d e:Int):St:=
 { env:=envOf 18 [(0,vF 4 A),(3,vP 3),(5,vI e)],boxes:=[(3,[lI a,lI b,lI c,lI d])] }
def qkG(q:Bool):St:=
 { env:=envOf 18 [(4,.al (.one (.sb q)))],boxes:=[] }
theorem qwN(h:Oo [.b (decide (a<(A.length:Int))) true,.p (0≤a),.p (a<(A.length:Int)),.e A a.toNat [I f,I g,I i,I j],.b (f==b&&(g==c&&(i==d&&j==e))) true]):
 Tp (qaa f242 0) (qeX A b c d e a) .ret (qkG true):=
 h.lp [4] []
theorem qwO(h:Oo [.b (decide (a<(A.length:Int))) true,.p (0≤a),.p (a<(A.length:Int)),.e A a.toNat [I f,I g,I i,I j],.b (f==b&&(g==c&&(i==d&&j==e))) false,.u a]):
 Tp (qaa f242 0) (qeX A b c d e a) .normal (qeX A b c d e (a+1)):=
 h.lp [5,0,3] [3]
def qov:St:=
 { env:=envOf 18 [],boxes:=[] }
theorem qwP(h:Oo [.b (decide (a<(A.length:Int))) false]):
 Tp (qaa f242 0) (qeX A b c d e a) (.exit 0) qov:=
 h.lp [] []
theorem qwQ(h:Oo [.l [] [5,0,3] [3] (qaa f242 0) (qeX A a b c d 0) .ret (qkG q)]):
 Rt 242 [cS 4 A,.agg [I a,I b,I c,I d]] [cB q]:=
 h.of
theorem qwR(h:Oo [.l [] [5,0,3] [3] (qaa f242 0) (qeX A a b c d 0) (.exit 0) qov]):
 Rt 242 [cS 4 A,.agg [I a,I b,I c,I d]] [cB false]:=
 h.of
theorem qwS(h:Oo [.r 242 [cS 4 A,.agg [I a,I b,I c,I d]] [cB q],.b q true,.g ([]:LL) A 32,.h A]):
 Rt 223 [cS 4 A,.agg [I a,I b,I c,I d]] [cS 4 ([]++A)]:=
 h.of
def qeY(A:LL)(a b c d e:Int):St:=
 { env:=envOf 41 [(0,vF 4 A),(3,vP 3),(5,vI e)],boxes:=[(3,[lI a,lI b,lI c,lI d])] }
theorem qwT(h:Oo [.b (decide (a<(A.length:Int))) true,.p (0≤a),.p (a<(A.length:Int)),.e A a.toNat [I i,I j,I k,I f],.r 243 [.agg [I i,I j,I k,I f],.agg [I b,I c,I d,I e]] [cI g],.b (decide (g<0)) true,.u a]):
 Tp (qaa f223 0) (qeY A b c d e a) .normal (qeY A b c d e (a+1)):=
 h.lp [5,0,3] [3]
def qgN(A:LL)(a b c d e:Int):St:=
 { env:=envOf 41 [(0,vF 4 A),(3,vP 3),(5,vI e)],boxes:=[(3,[lI a,lI b,lI c,lI d])] }
theorem qwU(h:Oo [.b (decide (a<(A.length:Int))) true,.p (0≤a),.p (a<(A.length:Int)),.e A a.toNat [I i,I j,I k,I f],.r 243 [.agg [I i,I j,I k,I f],.agg [I b,I c,I d,I e]] [cI g],.b (decide (g<0)) false]):
 Tp (qaa f223 0) (qeY A b c d e a) (.exit 0) (qgN A b c d e a):=
 h.lp [0,5,3] [3]
theorem qwV(h:Oo [.b (decide (a<(A.length:Int))) false]):
 Tp (qaa f223 0) (qeY A b c d e a) (.exit 0) (qgN A b c d e a):=
 h.lp [0,5,3] [3]
theorem qwW(h:Oo [.r 242 [cS 4 A,.agg [I b,I c,I d,I e]] [cB q],.b q false,.l [] [5,0,3] [3] (qaa f223 0) (qeY A b c d e 0) (.exit 0) (qgN A b c d e a),.p ((0:Int)≤none.getD 0),.p (none.getD 0≤(some a).getD (A.length:Int)),.p ((some a).getD (A.length:Int)≤(A.length:Int)),.p ((([]:LL).length+(List.take (((some a).getD (A.length:Int)).toNat-0) (List.drop 0 A)).length)*32≤140737488355328),.p (([]:LL).length+(List.take (((some a).getD (A.length:Int)).toNat-0) (List.drop 0 A)).length≤9223372036854775807),.p (Flat (List.take (((some a).getD (A.length:Int)).toNat-0) (List.drop 0 A))),.p ((([]++List.take (((some a).getD (A.length:Int)).toNat-0) (List.drop 0 A)).length+[[I b,I c,I d,I e]].length)*32≤140737488355328),.p (([]++List.take (((some a).getD (A.length:Int)).toNat-0) (List.drop 0 A)).length+[[I b,I c,I d,I e]].length≤9223372036854775807),.h [[I b,I c,I d,I e]],.p (0≤(some a).getD 0),.p ((some a).getD 0≤none.getD (A.length:Int)),.p (none.getD (A.length:Int)≤(A.length:Int)),.p ((([]++List.take (((some a).getD (A.length:Int)).toNat-0) (List.drop 0 A)++[[I b,I c,I d,I e]]).length+(List.take (A.length-((some a).getD 0).toNat) (List.drop ((some a).getD 0).toNat A)).length)*32≤140737488355328),.p (([]++List.take (((some a).getD (A.length:Int)).toNat-0) (List.drop 0 A)++[[I b,I c,I d,I e]]).length+(List.take (A.length-((some a).getD 0).toNat) (List.drop ((some a).getD 0).toNat A)).length≤9223372036854775807),.p (Flat (List.take (A.length-((some a).getD 0).toNat) (List.drop ((some a).getD 0).toNat A)))]):
 Rt 223 [cS 4 A,.agg [I b,I c,I d,I e]] [.one (.sl 4 ([]++List.take (((some a).getD (A.length:Int)).toNat-0) (List.drop 0 A)++[[I b,I c,I d,I e]]++List.take (A.length-((some a).getD 0).toNat) (List.drop ((some a).getD 0).toNat A)))]:=
 h.of
theorem qwX(h:Oo [.v ((A.length:Int)-1),.r 137 [cI a,cI 0,cI ((A.length:Int)-1)] [cB q],.n q true]):
 Rt 222 [.agg (gr A b c),cI a] [.agg (nd 0 0 0 []),cB false]:=
 h.of
theorem qwY(h:Oo [.v ((A.length:Int)-1),.r 137 [cI a,cI 0,cI ((A.length:Int)-1)] [cB q],.n q false,.p (0≤a),.p (a<(A.length:Int)),.e A a.toNat (nd b c d C),.g ([]:LL) C 8,.h C]):
 Rt 222 [.agg (gr A e f),cI a] [.agg (nd b c d ([]++C)),cB true]:=
 h.of
def qdv(A:LL)(a:Int)(C E:LL)(b c:Int):St:=
 { env:=envOf 40 [(1,vF 4 A),(2,vP 2),(5,PV.al (AL.one (lO 9 4 C))),(6,vI a)],boxes:=[(2,[.sl .free 4 E,lI b,lI c])] }
theorem qwZ(h:Oo [.b (decide (a<(A.length:Int))) true,.p (0≤a),.p (a<(A.length:Int)),.e A a.toNat [I j,I k,I l,I m],.r 222 [.agg (gr E f g),cI j] [.agg (nd i n o F),cB q],.b q true,.b (i==8) true,.p (0≤a),.p (a<(A.length:Int)),.e A a.toNat [I b,I c,I d,I e],.g C [[I b,I c,I d,I e]] 32,.h [[I b,I c,I d,I e]],.u a]):
 Tp (qaa f169 0) (qdv A a C E f g) .normal (qdv A (a+1) (C++[[I b,I c,I d,I e]]) E f g):=
 h.lp [6,1,2,5] [2]
theorem qw0(h:Oo [.b (decide (a<(A.length:Int))) true,.p (0≤a),.p (a<(A.length:Int)),.e A a.toNat [I e,I f,I g,I i],.r 222 [.agg (gr C b c),cI e] [.agg (nd d j k F),cB q],.b q true,.b (d==8) false,.u a]):
 Tp (qaa f169 0) (qdv A a E C b c) .normal (qdv A (a+1) E C b c):=
 h.lp [6,1,2,5] [2]
theorem qw1(h:Oo [.b (decide (a<(A.length:Int))) true,.p (0≤a),.p (a<(A.length:Int)),.e A a.toNat [I d,I e,I f,I g],.r 222 [.agg (gr C b c),cI d] [.agg (nd i j k F),cB q],.b q false,.u a]):
 Tp (qaa f169 0) (qdv A a E C b c) .normal (qdv A (a+1) E C b c):=
 h.lp [6,1,2,5] [2]
def qow(A:LL):St:=
 { env:=envOf 40 [(5,PV.al (AL.one (lO 9 4 A)))],boxes:=[] }
theorem qw2(h:Oo [.b (decide (a<(A.length:Int))) false]):
 Tp (qaa f169 0) (qdv A a C E b c) (.exit 0) (qow C):=
 h.lp [5] []
theorem qw3(h:Oo [.l [] [6,1,2,5] [2] (qaa f169 0) (qdv C 0 [] A a b) (.exit 0) (qow E)]):
 Rt 169 [.agg (gr A a b),cS 4 C] [cS 4 E]:=
 h.of
def qgO(A:LL)(a b:Int)(C E F G:LL)(c:Int)(H:LL):St:=
 { env:=envOf 37 [(1,vP 1),(3,PV.al (AL.one (lO 3 4 H))),(4,vI c)],boxes:=[(1,[.sl .free 4 A,lI a,lI b,.sl .free 8 C,.sl .free 6 E,.sl .free 5 F,.sl .free 3 G])] }
def qfM(A:LL)(a b:Int)(C E F G:LL)(c d:Int)(H:LL):St:=
 { env:=envOf 37 [(1,vP 1),(3,PV.al (AL.one (lO 3 4 H))),(4,vI c),(5,vI d)],boxes:=[(1,[.sl .free 4 A,lI a,lI b,.sl .free 8 C,.sl .free 6 E,.sl .free 5 F,.sl .free 3 G])] }
theorem qw4(h:Oo [.p (0≤a),.p (a<(A.length:Int)),.e A a.toNat (wk M N P G Q R S U),.b (decide (b<(G.length:Int))) true,.p (0≤a),.p (a<(A.length:Int)),.e A a.toNat (wk V W X C Y Z A0 C0),.p (0≤b),.p (b<(C.length:Int)),.e C b.toNat [I e,I f,I g,I i],.r 223 [cS 4 F,.agg [I e,I f,I g,I i]] [cS 4 H],.u b]):
 Tp (qaa f170 1) (qfM E c d A J K L a b F) .normal (qfM E c d A J K L a (b+1) H):=
 h.lr [(3,3,4)] [5,1,4,3] [1]
def qkH(A:LL)(a b:Int)(C E F G:LL)(c:Int)(H:LL):St:=
 { env:=envOf 37 [(1,vP 1),(3,PV.al (AL.one (lO 3 4 H))),(4,vI c)],boxes:=[(1,[.sl .free 4 A,lI a,lI b,.sl .free 8 C,.sl .free 6 E,.sl .free 5 F,.sl .free 3 G])] }
theorem qw5(h:Oo [.p (0≤a),.p (a<(A.length:Int)),.e A a.toNat (wk K L M F N P Q R),.b (decide (d<(F.length:Int))) false]):
 Tp (qaa f170 1) (qfM C b c A G H J a d E) (.exit 2) (qkH C b c A G H J a E):=
 h.lp [4,1,3] [1]
theorem qw6(h:Oo [.b (decide (a<(A.length:Int))) true,.l [(3,3,4)] [5,1,4,3] [1] (qaa f170 1) (qfM C b c A E F G a 0 H) (.exit 2) (qkH C b c A E F G a J),.u a]):
 Tp (qaa f170 0) (qgO C b c A E F G a H) .normal (qgO C b c A E F G (a+1) J):=
 h.lr [(3,3,4)] [4,1,3] [1]
def qox(A:LL):St:=
 { env:=envOf 37 [(3,PV.al (AL.one (lO 3 4 A)))],boxes:=[] }
theorem qw7(h:Oo [.b (decide (a<(A.length:Int))) false]):
 Tp (qaa f170 0) (qgO E b c A F G H a C) (.exit 0) (qox C):=
 h.lp [3] []
theorem qw8(h:Oo [.l [(3,3,4)] [4,1,3] [1] (qaa f170 0) (qgO A a b C E F G 0 []) (.exit 0) (qox H)]):
 Rt 170 [.agg (cl A a b C E F G)] [cS 4 H]:=
 h.of
def qeZ(a:Int)(A:LL)(b:Int)(C:LL):St:=
 { env:=envOf 35 [(1,vI a),(5,PV.al (AL.one (lO 8 4 C))),(6,PV.al (AL.one (lO 140000 4 A))),(7,vI b)],boxes:=[] }
theorem qw9(h:Oo [.b (decide (a<(A.length:Int))) true,.p (0≤a),.p (a<(A.length:Int)),.e A a.toNat [I i,I g,I j,I k],.b (g==f) true,.p (0≤a),.p (a<(A.length:Int)),.e A a.toNat [I b,I c,I d,I e],.g C [[I b,I c,I d,I e]] 32,.h [[I b,I c,I d,I e]],.u a]):
 Tp (qaa f100 0) (qeZ f A a C) .normal (qeZ f A (a+1) (C++[[I b,I c,I d,I e]])):=
 h.lp [7,6,1,5] []
theorem qxa(h:Oo [.b (decide (a<(A.length:Int))) true,.p (0≤a),.p (a<(A.length:Int)),.e A a.toNat [I d,I c,I e,I f],.b (c==b) false,.u a]):
 Tp (qaa f100 0) (qeZ b A a C) .normal (qeZ b A (a+1) C):=
 h.lp [7,6,1,5] []
def qoy(A:LL):St:=
 { env:=envOf 35 [(5,PV.al (AL.one (lO 8 4 A)))],boxes:=[] }
theorem qxb(h:Oo [.b (decide (a<(C.length:Int))) false]):
 Tp (qaa f100 0) (qeZ b C a A) (.exit 0) (qoy A):=
 h.lp [5] []
theorem qxc(h:Oo [.r 170 [.agg (cl A a b E F G H)] [cS 4 J],.r 169 [.agg (gr A a b),cS 4 J] [cS 4 K],.l [] [7,6,1,5] [] (qaa f100 0) (qeZ c K 0 []) (.exit 0) (qoy C)]):
 Rt 100 [.agg (cl A a b E F G H),cI c] [cS 4 C]:=
 h.of
def qbH(A:LL)(a b c d:Int)(q:Bool)(e:Int):St:=
 { env:=envOf 54 [(0,vF 4 A),(1,vI a),(2,vI b),(3,vI c),(10,vI e),(11,.al (.one (.sb q))),(12,vI d)],boxes:=[] }
theorem qxd(h:Oo [.b (decide (a<(A.length:Int))) true,.p (0≤a),.p (a<(A.length:Int)),.e A a.toNat [I f,I g,I i,I e],.b (f==b) true,.b (g==c) true,.b (i==d) true,.n q true,.u a]):
 Tp (qaa f248 0) (qbH A b c d a q j) .normal (qbH A b c d (a+1) true e):=
 h.lp [12,0,1,2,3,11,10] []
theorem qxe(h:Oo [.b (decide (a<(A.length:Int))) true,.p (0≤a),.p (a<(A.length:Int)),.e A a.toNat [I g,I i,I j,I c],.b (g==b) true,.b (i==d) true,.b (j==e) true,.n q false,.b (decide (c<f)) true,.u a]):
 Tp (qaa f248 0) (qbH A b d e a q f) .normal (qbH A b d e (a+1) true c):=
 h.lp [12,0,1,2,3,11,10] []
theorem qxf(h:Oo [.b (decide (a<(A.length:Int))) true,.p (0≤a),.p (a<(A.length:Int)),.e A a.toNat [I g,I i,I j,I f],.b (g==b) true,.b (i==c) true,.b (j==d) true,.n q false,.b (decide (f<e)) false,.u a]):
 Tp (qaa f248 0) (qbH A b c d a q e) .normal (qbH A b c d (a+1) q e):=
 h.lp [12,0,1,2,3,11,10] []
theorem qxg(h:Oo [.b (decide (a<(A.length:Int))) true,.p (0≤a),.p (a<(A.length:Int)),.e A a.toNat [I f,I g,I i,I j],.b (f==b) true,.b (g==c) true,.b (i==d) false,.u a]):
 Tp (qaa f248 0) (qbH A b c d a q e) .normal (qbH A b c d (a+1) q e):=
 h.lp [12,0,1,2,3,11,10] []
theorem qxh(h:Oo [.b (decide (a<(A.length:Int))) true,.p (0≤a),.p (a<(A.length:Int)),.e A a.toNat [I f,I g,I j,I i],.b (f==b) true,.b (g==c) false,.u a]):
 Tp (qaa f248 0) (qbH A b c d a q e) .normal (qbH A b c d (a+1) q e):=
 h.lp [12,0,1,2,3,11,10] []
theorem qxi(h:Oo [.b (decide (a<(A.length:Int))) true,.p (0≤a),.p (a<(A.length:Int)),.e A a.toNat [I f,I i,I j,I g],.b (f==b) false,.u a]):
 Tp (qaa f248 0) (qbH A b c d a q e) .normal (qbH A b c d (a+1) q e):=
 h.lp [12,0,1,2,3,11,10] []
def qoz(a:Int)(q:Bool):St:=
 { env:=envOf 54 [(10,vI a),(11,.al (.one (.sb q)))],boxes:=[] }
theorem qxj(h:Oo [.b (decide (a<(A.length:Int))) false]):
 Tp (qaa f248 0) (qbH A c d e a q b) (.exit 0) (qoz b q):=
 h.lp [10,11] []
theorem qxk(h:Oo [.l [] [12,0,1,2,3,11,10] [] (qaa f248 0) (qbH A a b c 0 false 0) (.exit 0) (qoz d q)]):
 Rt 248 [cS 4 A,cI a,cI b,cI c] [cI d,cB q]:=
 h.of
theorem qxl(h:Oo [.b (a==5) true]):
 Rt 236 [cI a] [cB true]:=
 h.of
theorem qxm(h:Oo [.b (a==5) false,.b (a==6) true]):
 Rt 236 [cI a] [cB true]:=
 h.of
theorem qxn(h:Oo [.b (a==5) false,.b (a==6) false]):
 Rt 236 [cI a] [cB (a==8)]:=
 h.of
theorem qxo(h:Oo [.g ([]:LL) A 32,.h A,.b (a==6) true,.r 242 [cS 4 A,.agg [I b,I c,I d,I e]] [cB q],.b q true]):
 Rt 237 [cI a,cS 4 A,.agg [I b,I c,I d,I e]] [cS 4 ([]++A),cB false]:=
 h.of
theorem qxp(h:Oo [.g ([]:LL) A 32,.h A,.b (e==6) true,.r 242 [cS 4 A,.agg [I a,I b,I c,I d]] [cB q],.b q false,.r 223 [cS 4 A,.agg [I a,I b,I c,I d]] [cS 4 C]]):
 Rt 237 [cI e,cS 4 A,.agg [I a,I b,I c,I d]] [cS 4 C,cB true]:=
 h.of
theorem qxq(h:Oo [.g ([]:LL) A 32,.h A,.b (a==6) false,.b (a==5) true,.b (a==5) true,.r 248 [cS 4 A,cI b,cI c,cI d] [cI f,cB q],.b q true,.b (decide (f≤e)) true]):
 Rt 237 [cI a,cS 4 A,.agg [I b,I c,I d,I e]] [cS 4 ([]++A),cB false]:=
 h.of
def qbI(A:LL)(a b c d e:Int)(C:LL):St:=
 { env:=envOf 94 [(1,vF 4 A),(5,vP 5),(11,PV.al (AL.one (lO 48 4 C))),(12,vI e)],boxes:=[(5,[lI a,lI b,lI c,lI d])] }
theorem qxr(h:Oo [.b (decide (a<(A.length:Int))) true,.p (0≤a),.p (a<(A.length:Int)),.e A a.toNat [I g,I l,I m,I n],.b (g != f) true,.p (0≤a),.p (a<(A.length:Int)),.e A a.toNat [I b,I c,I d,I e],.g C [[I b,I c,I d,I e]] 32,.h [[I b,I c,I d,I e]],.u a]):
 Tp (qaa f237 0) (qbI A f i j k a C) .normal (qbI A f i j k (a+1) (C++[[I b,I c,I d,I e]])):=
 h.lp [12,1,5,11] [5]
theorem qxs(h:Oo [.b (decide (a<(A.length:Int))) true,.p (0≤a),.p (a<(A.length:Int)),.e A a.toNat [I i,I m,I n,I o],.b (i != f) false,.p (0≤a),.p (a<(A.length:Int)),.e A a.toNat [I p,I j,I a0,I b0],.b (j != g) true,.p (0≤a),.p (a<(A.length:Int)),.e A a.toNat [I b,I c,I d,I e],.g C [[I b,I c,I d,I e]] 32,.h [[I b,I c,I d,I e]],.u a]):
 Tp (qaa f237 0) (qbI A f g k l a C) .normal (qbI A f g k l (a+1) (C++[[I b,I c,I d,I e]])):=
 h.lp [12,1,5,11] [5]
theorem qxt(h:Oo [.b (decide (a<(A.length:Int))) true,.p (0≤a),.p (a<(A.length:Int)),.e A a.toNat [I j,I n,I o,I p],.b (j != f) false,.p (0≤a),.p (a<(A.length:Int)),.e A a.toNat [I a0,I k,I b0,I c0],.b (k != g) false,.p (0≤a),.p (a<(A.length:Int)),.e A a.toNat [I d0,I e0,I l,I f0],.b (l != i) true,.p (0≤a),.p (a<(A.length:Int)),.e A a.toNat [I b,I c,I d,I e],.g C [[I b,I c,I d,I e]] 32,.h [[I b,I c,I d,I e]],.u a]):
 Tp (qaa f237 0) (qbI A f g i m a C) .normal (qbI A f g i m (a+1) (C++[[I b,I c,I d,I e]])):=
 h.lp [12,1,5,11] [5]
theorem qxu(h:Oo [.b (decide (a<(A.length:Int))) true,.p (0≤a),.p (a<(A.length:Int)),.e A a.toNat [I e,I j,I k,I l],.b (e != b) false,.p (0≤a),.p (a<(A.length:Int)),.e A a.toNat [I m,I f,I n,I o],.b (f != c) false,.p (0≤a),.p (a<(A.length:Int)),.e A a.toNat [I p,I a0,I g,I b0],.b (g != d) false,.u a]):
 Tp (qaa f237 0) (qbI A b c d i a C) .normal (qbI A b c d i (a+1) C):=
 h.lp [12,1,5,11] [5]
def qfN(a b c d:Int)(A:LL):St:=
 { env:=envOf 94 [(5,vP 5),(11,PV.al (AL.one (lO 48 4 A)))],boxes:=[(5,[lI a,lI b,lI c,lI d])] }
theorem qxv(h:Oo [.b (decide (e<(A.length:Int))) false]):
 Tp (qaa f237 0) (qbI A a b c d e C) (.exit 1) (qfN a b c d C):=
 h.lp [11,5] [5]
theorem qxw(h:Oo [.g ([]:LL) A 32,.h A,.b (e==6) false,.b (e==5) true,.b (e==5) true,.r 248 [cS 4 A,cI a,cI b,cI c] [cI f,cB q],.b q true,.b (decide (f≤d)) false,.l [] [12,1,5,11] [5] (qaa f237 0) (qbI A a b c d 0 []) (.exit 1) (qfN a b c d C),.r 223 [cS 4 C,.agg [I a,I b,I c,I d]] [cS 4 E]]):
 Rt 237 [cI e,cS 4 A,.agg [I a,I b,I c,I d]] [cS 4 E,cB true]:=
 h.of
theorem qxx(h:Oo [.g ([]:LL) A 32,.h A,.b (d==6) false,.b (d==5) true,.b (d==5) true,.r 248 [cS 4 A,cI a,cI b,cI c] [cI f,cB q],.b q false,.l [] [12,1,5,11] [5] (qaa f237 0) (qbI A a b c e 0 []) (.exit 1) (qfN a b c e C),.r 223 [cS 4 C,.agg [I a,I b,I c,I e]] [cS 4 E]]):
 Rt 237 [cI d,cS 4 A,.agg [I a,I b,I c,I e]] [cS 4 E,cB true]:=
 h.of
theorem qxy(h:Oo [.g ([]:LL) A 32,.h A,.b (a==6) false,.b (a==5) false,.b (a==8) true,.r 248 [cS 4 A,cI b,cI c,cI d] [cI f,cB q],.b q true,.b (decide (f≤e)) true]):
 Rt 237 [cI a,cS 4 A,.agg [I b,I c,I d,I e]] [cS 4 ([]++A),cB false]:=
 h.of
theorem qxz(h:Oo [.g ([]:LL) A 32,.h A,.b (e==6) false,.b (e==5) false,.b (e==8) true,.r 248 [cS 4 A,cI a,cI b,cI c] [cI f,cB q],.b q true,.b (decide (f≤d)) false,.l [] [12,1,5,11] [5] (qaa f237 0) (qbI A a b c d 0 []) (.exit 1) (qfN a b c d C),.r 223 [cS 4 C,.agg [I a,I b,I c,I d]] [cS 4 E]]):
 Rt 237 [cI e,cS 4 A,.agg [I a,I b,I c,I d]] [cS 4 E,cB true]:=
 h.of
theorem qxA(h:Oo [.g ([]:LL) A 32,.h A,.b (d==6) false,.b (d==5) false,.b (d==8) true,.r 248 [cS 4 A,cI a,cI b,cI c] [cI f,cB q],.b q false,.l [] [12,1,5,11] [5] (qaa f237 0) (qbI A a b c e 0 []) (.exit 1) (qfN a b c e C),.r 223 [cS 4 C,.agg [I a,I b,I c,I e]] [cS 4 E]]):
 Rt 237 [cI d,cS 4 A,.agg [I a,I b,I c,I e]] [cS 4 E,cB true]:=
 h.of
theorem qxB(h:Oo [.g ([]:LL) A 32,.h A,.b (a==6) false,.b (a==5) false,.b (a==8) false]):
 Rt 237 [cI a,cS 4 A,.agg [I b,I c,I d,I e]] [cS 4 ([]++A),cB true]:=
 h.of
end Go.Proofs.YtdanpadojemjeaaGreat
