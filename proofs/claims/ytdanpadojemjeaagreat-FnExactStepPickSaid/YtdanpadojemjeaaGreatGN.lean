import Derived.Test.YtdanpadojemjeaaGreatRows
import Derived.Test.YtdanpadojemjeaaGreatGE
namespace Go.Proofs.YtdanpadojemjeaaGreat
open Go.Sx Go.RowKit Go.Proofs.Tryz
variable {a b c d e f g i j k l m n o p a0 b0 c0 d0 e0 f0 : Int} {A C E F G H J K : LL} {q r : Bool}
theorem qwh(h:Oo [.g ([]:LL) A 40,.h A]):
 Rt 195 [cS 5 A] [cS 5 ([]++A)]:=
 h.of
theorem qwi(h:Oo [.b (decide (a≥b)) true]):
 Rt 81 [cI a,cI b,cI c] [cB (decide (a≤c))]:=
 h.of
theorem qwj(h:Oo [.b (decide (a≥b)) false]):
 Rt 81 [cI a,cI b,cI c] [cB false]:=
 h.of
theorem qwk(h:Oo [.b (decide (a≥b)) true]):
 Rt 137 [cI a,cI b,cI c] [cB (decide (a≤c))]:=
 h.of
theorem qwl(h:Oo [.b (decide (a≥b)) false]):
 Rt 137 [cI a,cI b,cI c] [cB false]:=
 h.of
theorem qwm(h:Oo [.b (decide (a<b)) true]):
 Rt 250 [cI a,cI b] [cI (-1)]:=
 h.of
theorem qwn(h:Oo [.b (decide (a<b)) false,.b (decide (a>b)) true]):
 Rt 250 [cI a,cI b] [cI 1]:=
 h.of
theorem qwo(h:Oo [.b (decide (a<b)) false,.b (decide (a>b)) false]):
 Rt 250 [cI a,cI b] [cI 0]:=
 h.of
theorem qwp(a:Int)(h:Oo []):
 Rt 264 [cI a] [cB (a != a)]:=
 h.of
theorem qwq(h:Oo [.r 264 [cI a] [cB q],.r 264 [cI b] [cB r],.b q false,.b r false,.b (decide (a<b)) true]):
 Rt 261 [cI a,cI b] [cI (-1)]:=
 h.of
theorem qwr(h:Oo [.r 264 [cI a] [cB q],.r 264 [cI b] [cB r],.b q false,.b r false,.b (decide (a<b)) false,.b (decide (a>b)) true]):
 Rt 261 [cI a,cI b] [cI 1]:=
 h.of
theorem qws(h:Oo [.r 264 [cI a] [cB q],.r 264 [cI b] [cB r],.b q false,.b r false,.b (decide (a<b)) false,.b (decide (a>b)) false]):
 Rt 261 [cI a,cI b] [cI 0]:=
 h.of
def qeA(A C:LL)(a:Int):St:=
 { env:=envOf 36 [(0,vF 1 A),(1,vF 1 C),(9,vF 1 A),(10,vI (A.length:Int)),(11,vI a)],boxes:=[] }
def qj3(a:Int):St:=
 { env:=envOf 36 [(4,vI a)],boxes:=[] }
theorem qwt(h:Oo [.b (decide (a<(A.length:Int))) true,.p (0≤a),.p (a<(A.length:Int)),.e A a.toNat [I c],.b (decide (a≥(C.length:Int))) false,.p (0≤a),.p (a<(C.length:Int)),.e C a.toNat [I d],.r 261 [cI c,cI d] [cI b],.b (b != 0) true]):
 Tp (qaa f254 0) (qeA A C a) .ret (qj3 b):=
 h.lp [4] []
theorem qwu(h:Oo [.b (decide (a<(A.length:Int))) true,.p (0≤a),.p (a<(A.length:Int)),.e A a.toNat [I b],.b (decide (a≥(C.length:Int))) false,.p (0≤a),.p (a<(C.length:Int)),.e C a.toNat [I c],.r 261 [cI b,cI c] [cI d],.b (d != 0) false,.u a]):
 Tp (qaa f254 0) (qeA A C a) .normal (qeA A C (a+1)):=
 h.lp [11,10,9,1,0] []
def qnR(A C:LL):St:=
 { env:=envOf 36 [(0,vF 1 A),(1,vF 1 C)],boxes:=[] }
theorem qwv(h:Oo [.b (decide (a<(A.length:Int))) false]):
 Tp (qaa f254 0) (qeA A C a) (.exit 0) (qnR A C):=
 h.lp [0,1] []
theorem qww(h:Oo [.l [] [11,10,9,1,0] [] (qaa f254 0) (qeA A C 0) .ret (qj3 a)]):
 Rt 254 [cS 1 A,cS 1 C] [cI a]:=
 h.of
theorem qwx(h:Oo [.l [] [11,10,9,1,0] [] (qaa f254 0) (qeA A C 0) (.exit 0) (qnR A C),.b (decide ((A.length:Int)<(C.length:Int))) false]):
 Rt 254 [cS 1 A,cS 1 C] [cI 0]:=
 h.of
theorem qwy(h:Oo [.r 254 [cS 1 A,cS 1 C] [cI a]]):
 Rt 246 [cS 1 A,cS 1 C] [cI a]:=
 h.of
def qeB(A:LL)(a b:Int)(C:LL):St:=
 { env:=envOf 30 [(0,vF 5 A),(1,vI a),(5,PV.al (AL.one (lO 7 5 C))),(6,vI b)],boxes:=[] }
theorem qwz(h:Oo [.b (decide (a<(A.length:Int))) true,.p (0≤a),.p (a<(A.length:Int)),.e A a.toNat (ri j i k l m),.b (i==g) true,.p (0≤a),.p (a<(A.length:Int)),.e A a.toNat (ri f b c d e),.g C [(ri f b c d e)] 40,.h [(ri f b c d e)],.u a]):
 Tp (qaa f233 0) (qeB A g a C) .normal (qeB A g (a+1) (C++[(ri f b c d e)])):=
 h.lp [6,0,1,5] []
theorem qwA(h:Oo [.b (decide (a<(A.length:Int))) true,.p (0≤a),.p (a<(A.length:Int)),.e A a.toNat (ri d c e f g),.b (c==b) false,.u a]):
 Tp (qaa f233 0) (qeB A b a C) .normal (qeB A b (a+1) C):=
 h.lp [6,0,1,5] []
def qnS(A:LL):St:=
 { env:=envOf 30 [(5,PV.al (AL.one (lO 7 5 A)))],boxes:=[] }
theorem qwB(h:Oo [.b (decide (a<(A.length:Int))) false]):
 Tp (qaa f233 0) (qeB A b a C) (.exit 0) (qnS C):=
 h.lp [5] []
theorem qwC(h:Oo [.l [] [6,0,1,5] [] (qaa f233 0) (qeB A a 0 []) (.exit 0) (qnS C)]):
 Rt 233 [cS 5 A,cI a] [cS 5 C]:=
 h.of
def qeC(A:LL)(a b:Int)(C:LL):St:=
 { env:=envOf 25 [(1,vI a),(5,PV.al (AL.one (lO 22 5 C))),(8,vF 5 A),(9,vI (A.length:Int)),(10,vI b)],boxes:=[] }
theorem qwD(h:Oo [.b (decide (a<(A.length:Int))) true,.p (0≤a),.p (a<(A.length:Int)),.e A a.toNat (ri c b d e f),.b (b==g) true,.g C [(ri c b d e f)] 40,.h [(ri c b d e f)],.u a]):
 Tp (qaa f174 0) (qeC A g a C) .normal (qeC A g (a+1) (C++[(ri c b d e f)])):=
 h.lp [10,9,8,1,5] []
theorem qwE(h:Oo [.b (decide (a<(A.length:Int))) true,.p (0≤a),.p (a<(A.length:Int)),.e A a.toNat (ri d c e f g),.b (c==b) false,.u a]):
 Tp (qaa f174 0) (qeC A b a C) .normal (qeC A b (a+1) C):=
 h.lp [10,9,8,1,5] []
def qnT(A:LL):St:=
 { env:=envOf 25 [(5,PV.al (AL.one (lO 22 5 A)))],boxes:=[] }
theorem qwF(h:Oo [.b (decide (a<(A.length:Int))) false]):
 Tp (qaa f174 0) (qeC A b a C) (.exit 0) (qnT C):=
 h.lp [5] []
theorem qwG(h:Oo [.l [(5,22,5)] [10,9,8,1,5] [] (qaa f174 0) (qeC A a 0 []) (.exit 0) (qnT C)]):
 Rt 174 [cS 5 A,cI a] [cS 5 C]:=
 h.of
def qeD(A C E F G H J K:LL)(a b:Int):St:=
 { env:=envOf 21 [(1,vI a),(2,vP 2),(5,vI b)],boxes:=[(2,[.sl .free 5 A,.sl .free 5 C,.sl .free 5 E,.sl .free 4 F,.sl .free 1 G,.sl .free 1 H,.sl .free 1 J,.sl .free 2 K])] }
def qj4(q:Bool):St:=
 { env:=envOf 21 [(4,.al (.one (.sb q)))],boxes:=[] }
theorem qwH(h:Oo [.b (decide (a<(A.length:Int))) true,.p (0≤a),.p (a<(A.length:Int)),.e A a.toNat [I b,B q],.b (b==c) true]):
 Tp (qaa f114 0) (qeD C E F G H J K A c a) .ret (qj4 true):=
 h.lp [4] []
theorem qwI(h:Oo [.b (decide (a<(A.length:Int))) true,.p (0≤a),.p (a<(A.length:Int)),.e A a.toNat [I c,B q],.b (c==b) false,.u a]):
 Tp (qaa f114 0) (qeD C E F G H J K A b a) .normal (qeD C E F G H J K A b (a+1)):=
 h.lp [5,2,1] [2]
def qnU:St:=
 { env:=envOf 21 [],boxes:=[] }
theorem qwJ(h:Oo [.b (decide (a<(A.length:Int))) false]):
 Tp (qaa f114 0) (qeD C E F G H J K A b a) (.exit 0) qnU:=
 h.lp [] []
theorem qwK(h:Oo [.l [] [5,2,1] [2] (qaa f114 0) (qeD A C E F G H J K a 0) .ret (qj4 q)]):
 Rt 114 [.agg (wk A C E F G H J K),cI a] [cB q]:=
 h.of
theorem qwL(h:Oo [.l [] [5,2,1] [2] (qaa f114 0) (qeD A C E F G H J K a 0) (.exit 0) qnU]):
 Rt 114 [.agg (wk A C E F G H J K),cI a] [cB false]:=
 h.of
theorem qwM(h:Oo [.r 201 [cS 2 A,.one (.cl 202 [D.ptr [I a]])] [cB q]]):
 Rt 126 [cS 2 A,cI a] [cB q]:=
 h.of
theorem qwN(h:Oo []):
 Rt 202 [.agg [I a,B q],.one (.ptr [I b])] [cB (a==b)]:=
 h.of
theorem qwO(h:Oo [.r 126 [cS 2 A,cI a] [cB q]]):
 Rt 66 [.agg (wk C E F G H J K A),cI a] [cB q]:=
 h.of
def qeE(A:LL)(g1:Nat)(k2:List D)(a:Int):St:=
 { env:=envOf 19 [(0,vF 5 A),(1,.al (.one (.fd (D.cl g1 k2)))),(7,vI (A.length:Int)),(8,vI a)],boxes:=[] }
def qj5(a:Int):St:=
 { env:=envOf 19 [(4,vI a)],boxes:=[] }
theorem qwP(A:LL)(g1:Nat)(k2:List D)(a b c d e f:Int)(q:Bool)(h:Oo [.b (decide (a<(A.length:Int))) true,.p (0≤a),.p (a<(A.length:Int)),.e A a.toNat (ri b c d e f),.p (qa6 prog g1=true),.r g1 ([.agg (ri b c d e f)]++List.map .one k2) [cB q],.b q true]):
 Tp (qaa f234 0) (qeE A g1 k2 a) .ret (qj5 a):=
 h.lp [4] []
theorem qwQ(A:LL)(g1:Nat)(k2:List D)(a b c d e f:Int)(q:Bool)(h:Oo [.b (decide (a<(A.length:Int))) true,.p (0≤a),.p (a<(A.length:Int)),.e A a.toNat (ri b c d e f),.p (qa6 prog g1=true),.r g1 ([.agg (ri b c d e f)]++List.map .one k2) [cB q],.b q false,.u a]):
 Tp (qaa f234 0) (qeE A g1 k2 a) .normal (qeE A g1 k2 (a+1)):=
 h.lp [8,7,1,0] []
def qnV:St:=
 { env:=envOf 19 [],boxes:=[] }
theorem qwR(A:LL)(g1:Nat)(k2:List D)(a:Int)(h:Oo [.b (decide (a<(A.length:Int))) false]):
 Tp (qaa f234 0) (qeE A g1 k2 a) (.exit 0) qnV:=
 h.lp [] []
theorem qwS(A:LL)(g1:Nat)(k2:List D)(a:Int)(h:Oo [.l [] [8,7,1,0] [] (qaa f234 0) (qeE A g1 k2 0) .ret (qj5 a)]):
 Rt 234 [cS 5 A,.one (.cl g1 k2)] [cI a]:=
 h.of
theorem qwT(A:LL)(g1:Nat)(k2:List D)(h:Oo [.l [] [8,7,1,0] [] (qaa f234 0) (qeE A g1 k2 0) (.exit 0) qnV]):
 Rt 234 [cS 5 A,.one (.cl g1 k2)] [cI (-1)]:=
 h.of
def qeF(A:LL)(g1:Nat)(k2:List D)(a:Int):St:=
 { env:=envOf 19 [(0,vF 2 A),(1,.al (.one (.fd (D.cl g1 k2)))),(7,vI (A.length:Int)),(8,vI a)],boxes:=[] }
def qj6(a:Int):St:=
 { env:=envOf 19 [(4,vI a)],boxes:=[] }
theorem qwU(A:LL)(g1:Nat)(k2:List D)(a b:Int)(q r:Bool)(h:Oo [.b (decide (a<(A.length:Int))) true,.p (0≤a),.p (a<(A.length:Int)),.e A a.toNat [I b,B q],.p (qa6 prog g1=true),.r g1 ([.agg [I b,B q]]++List.map .one k2) [cB r],.b r true]):
 Tp (qaa f231 0) (qeF A g1 k2 a) .ret (qj6 a):=
 h.lp [4] []
theorem qwV(A:LL)(g1:Nat)(k2:List D)(a b:Int)(q r:Bool)(h:Oo [.b (decide (a<(A.length:Int))) true,.p (0≤a),.p (a<(A.length:Int)),.e A a.toNat [I b,B q],.p (qa6 prog g1=true),.r g1 ([.agg [I b,B q]]++List.map .one k2) [cB r],.b r false,.u a]):
 Tp (qaa f231 0) (qeF A g1 k2 a) .normal (qeF A g1 k2 (a+1)):=
 h.lp [8,7,1,0] []
def qnW:St:=
 { env:=envOf 19 [],boxes:=[] }
theorem qwW(A:LL)(g1:Nat)(k2:List D)(a:Int)(h:Oo [.b (decide (a<(A.length:Int))) false]):
 Tp (qaa f231 0) (qeF A g1 k2 a) (.exit 0) qnW:=
 h.lp [] []
theorem qwX(A:LL)(g1:Nat)(k2:List D)(a:Int)(h:Oo [.l [] [8,7,1,0] [] (qaa f231 0) (qeF A g1 k2 0) .ret (qj6 a)]):
 Rt 231 [cS 2 A,.one (.cl g1 k2)] [cI a]:=
 h.of
theorem qwY(A:LL)(g1:Nat)(k2:List D)(h:Oo [.l [] [8,7,1,0] [] (qaa f231 0) (qeF A g1 k2 0) (.exit 0) qnW]):
 Rt 231 [cS 2 A,.one (.cl g1 k2)] [cI (-1)]:=
 h.of
def qeG(A:LL)(g1:Nat)(k2:List D)(a:Int):St:=
 { env:=envOf 19 [(0,vF 3 A),(1,.al (.one (.fd (D.cl g1 k2)))),(7,vI (A.length:Int)),(8,vI a)],boxes:=[] }
def qj7(a:Int):St:=
 { env:=envOf 19 [(4,vI a)],boxes:=[] }
theorem qwZ(A:LL)(g1:Nat)(k2:List D)(a b c:Int)(q r:Bool)(h:Oo [.b (decide (a<(A.length:Int))) true,.p (0≤a),.p (a<(A.length:Int)),.e A a.toNat [I b,I c,B q],.p (qa6 prog g1=true),.r g1 ([.agg [I b,I c,B q]]++List.map .one k2) [cB r],.b r true]):
 Tp (qaa f62 0) (qeG A g1 k2 a) .ret (qj7 a):=
 h.lp [4] []
theorem qw0(A:LL)(g1:Nat)(k2:List D)(a b c:Int)(q r:Bool)(h:Oo [.b (decide (a<(A.length:Int))) true,.p (0≤a),.p (a<(A.length:Int)),.e A a.toNat [I b,I c,B q],.p (qa6 prog g1=true),.r g1 ([.agg [I b,I c,B q]]++List.map .one k2) [cB r],.b r false,.u a]):
 Tp (qaa f62 0) (qeG A g1 k2 a) .normal (qeG A g1 k2 (a+1)):=
 h.lp [8,7,1,0] []
def qnX:St:=
 { env:=envOf 19 [],boxes:=[] }
theorem qw1(A:LL)(g1:Nat)(k2:List D)(a:Int)(h:Oo [.b (decide (a<(A.length:Int))) false]):
 Tp (qaa f62 0) (qeG A g1 k2 a) (.exit 0) qnX:=
 h.lp [] []
theorem qw2(A:LL)(g1:Nat)(k2:List D)(a:Int)(h:Oo [.l [] [8,7,1,0] [] (qaa f62 0) (qeG A g1 k2 0) .ret (qj7 a)]):
 Rt 62 [cS 3 A,.one (.cl g1 k2)] [cI a]:=
 h.of
theorem qw3(A:LL)(g1:Nat)(k2:List D)(h:Oo [.l [] [8,7,1,0] [] (qaa f62 0) (qeG A g1 k2 0) (.exit 0) qnX]):
 Rt 62 [cS 3 A,.one (.cl g1 k2)] [cI (-1)]:=
 h.of
def qeH(A:LL)(g1:Nat)(k2:List D)(a:Int):St:=
 { env:=envOf 19 [(0,vF 4 A),(1,.al (.one (.fd (D.cl g1 k2)))),(7,vI (A.length:Int)),(8,vI a)],boxes:=[] }
def qj8(a:Int):St:=
 { env:=envOf 19 [(4,vI a)],boxes:=[] }
theorem qw4(A:LL)(g1:Nat)(k2:List D)(a b c d e:Int)(q:Bool)(h:Oo [.b (decide (a<(A.length:Int))) true,.p (0≤a),.p (a<(A.length:Int)),.e A a.toNat [I b,I c,I d,I e],.p (qa6 prog g1=true),.r g1 ([.agg [I b,I c,I d,I e]]++List.map .one k2) [cB q],.b q true]):
 Tp (qaa f262 0) (qeH A g1 k2 a) .ret (qj8 a):=
 h.lp [4] []
theorem qw5(A:LL)(g1:Nat)(k2:List D)(a b c d e:Int)(q:Bool)(h:Oo [.b (decide (a<(A.length:Int))) true,.p (0≤a),.p (a<(A.length:Int)),.e A a.toNat [I b,I c,I d,I e],.p (qa6 prog g1=true),.r g1 ([.agg [I b,I c,I d,I e]]++List.map .one k2) [cB q],.b q false,.u a]):
 Tp (qaa f262 0) (qeH A g1 k2 a) .normal (qeH A g1 k2 (a+1)):=
 h.lp [8,7,1,0] []
def qnY:St:=
 { env:=envOf 19 [],boxes:=[] }
theorem qw6(A:LL)(g1:Nat)(k2:List D)(a:Int)(h:Oo [.b (decide (a<(A.length:Int))) false]):
 Tp (qaa f262 0) (qeH A g1 k2 a) (.exit 0) qnY:=
 h.lp [] []
theorem qw7(A:LL)(g1:Nat)(k2:List D)(a:Int)(h:Oo [.l [] [8,7,1,0] [] (qaa f262 0) (qeH A g1 k2 0) .ret (qj8 a)]):
 Rt 262 [cS 4 A,.one (.cl g1 k2)] [cI a]:=
 h.of
theorem qw8(A:LL)(g1:Nat)(k2:List D)(h:Oo [.l [] [8,7,1,0] [] (qaa f262 0) (qeH A g1 k2 0) (.exit 0) qnY]):
 Rt 262 [cS 4 A,.one (.cl g1 k2)] [cI (-1)]:=
 h.of
theorem qw9(A:LL)(g1:Nat)(k2:List D)(a:Int)(h:Oo [.r 234 [cS 5 A,.one (.cl g1 k2)] [cI a]]):
 Rt 207 [cS 5 A,.one (.cl g1 k2)] [cB (decide (a≥0))]:=
 h.of
theorem qxa(A:LL)(g1:Nat)(k2:List D)(a:Int)(h:Oo [.r 231 [cS 2 A,.one (.cl g1 k2)] [cI a]]):
 Rt 201 [cS 2 A,.one (.cl g1 k2)] [cB (decide (a≥0))]:=
 h.of
end Go.Proofs.YtdanpadojemjeaaGreat
namespace Go.Proofs.YtdanpadojemjeaaGreat
open Go.Sx Go.RowKit Go.Proofs.Tryz
variable {a b c d e f g i j k l m n o p a0 b0 c0 d0 e0 f0 : Int} {A C E F G H J K : LL} {q r : Bool}
theorem qxb(h:Oo [.g ([]:LL) A 32,.h A]):
 Rt 196 [cS 4 A] [cS 4 ([]++A)]:=
 h.of
theorem qxc(h:Oo [.r 251 [cS 4 A,.agg [I a,I b,I c,I d]] [cB q]]):
 Rt 244 [cS 4 A,.agg [I a,I b,I c,I d]] [cB q]:=
 h.of
theorem qxd(h:Oo [.r 246 [.one (.sl 1 [[I b],[I a],[I c],[I d]]),.one (.sl 1 [[I f],[I e],[I g],[I i]])] [cI j]]):
 Rt 230 [.agg [I a,I b,I c,I d],.agg [I e,I f,I g,I i]] [cI j]:=
 h.of
theorem qxe(h:Oo [.r 259 [cS 4 A,.agg [I a,I b,I c,I d]] [cI e]]):
 Rt 251 [cS 4 A,.agg [I a,I b,I c,I d]] [cB (decide (e≥0))]:=
 h.of
def qeI(A:LL)(a b c d e:Int):St:=
 { env:=envOf 19 [(0,vF 4 A),(3,vP 3),(7,vI (A.length:Int)),(8,vI e)],boxes:=[(3,[lI a,lI b,lI c,lI d])] }
def qj9(a:Int):St:=
 { env:=envOf 19 [(4,vI a)],boxes:=[] }
theorem qxf(h:Oo [.b (decide (a<(A.length:Int))) true,.p (0≤a),.p (a<(A.length:Int)),.e A a.toNat [I f,I g,I i,I j],.b (b==f&&(c==g&&(d==i&&e==j))) true]):
 Tp (qaa f259 0) (qeI A b c d e a) .ret (qj9 a):=
 h.lp [4] []
theorem qxg(h:Oo [.b (decide (a<(A.length:Int))) true,.p (0≤a),.p (a<(A.length:Int)),.e A a.toNat [I f,I g,I i,I j],.b (b==f&&(c==g&&(d==i&&e==j))) false,.u a]):
 Tp (qaa f259 0) (qeI A b c d e a) .normal (qeI A b c d e (a+1)):=
 h.lp [8,7,3,0] [3]
def qnZ:St:=
 { env:=envOf 19 [],boxes:=[] }
theorem qxh(h:Oo [.b (decide (a<(A.length:Int))) false]):
 Tp (qaa f259 0) (qeI A b c d e a) (.exit 0) qnZ:=
 h.lp [] []
theorem qxi(h:Oo [.l [] [8,7,3,0] [3] (qaa f259 0) (qeI A a b c d 0) .ret (qj9 e)]):
 Rt 259 [cS 4 A,.agg [I a,I b,I c,I d]] [cI e]:=
 h.of
theorem qxj(h:Oo [.l [] [8,7,3,0] [3] (qaa f259 0) (qeI A a b c d 0) (.exit 0) qnZ]):
 Rt 259 [cS 4 A,.agg [I a,I b,I c,I d]] [cI (-1)]:=
 h.of
theorem qxk(h:Oo [.r 196 [cS 4 A] [cS 4 C],.r 244 [cS 4 A,.agg [I a,I b,I c,I d]] [cB q],.b q true]):
 Rt 226 [cS 4 A,.agg [I a,I b,I c,I d]] [cS 4 C]:=
 h.of
def qeJ(A:LL)(a b c d:Int)(C:LL)(e:Int):St:=
 { env:=envOf 33 [(0,vF 4 A),(3,vP 3),(5,PV.al (AL.one (lO 90000 4 C))),(6,vI e)],boxes:=[(3,[lI a,lI b,lI c,lI d])] }
theorem qxl(h:Oo [.b (decide (a<(A.length:Int))) true,.p (0≤a),.p (a<(A.length:Int)),.e A a.toNat [I j,I k,I f,I g],.r 230 [.agg [I j,I k,I f,I g],.agg [I b,I c,I d,I e]] [cI i],.b (decide (i<0)) true,.u a]):
 Tp (qaa f226 0) (qeJ A b c d e C a) .normal (qeJ A b c d e C (a+1)):=
 h.lp [6,0,3,5] [3]
def qgH(a b c d:Int)(A:LL)(e:Int):St:=
 { env:=envOf 33 [(3,vP 3),(5,PV.al (AL.one (lO 90000 4 A))),(6,vI e)],boxes:=[(3,[lI a,lI b,lI c,lI d])] }
theorem qxm(h:Oo [.b (decide (a<(A.length:Int))) true,.p (0≤a),.p (a<(A.length:Int)),.e A a.toNat [I j,I k,I f,I g],.r 230 [.agg [I j,I k,I f,I g],.agg [I b,I c,I d,I e]] [cI i],.b (decide (i<0)) false]):
 Tp (qaa f226 0) (qeJ A b c d e C a) (.exit 0) (qgH b c d e C a):=
 h.lp [5,6,3] [3]
theorem qxn(h:Oo [.b (decide (a<(A.length:Int))) false]):
 Tp (qaa f226 0) (qeJ A b c d e C a) (.exit 0) (qgH b c d e C a):=
 h.lp [5,6,3] [3]
theorem qxo(h:Oo [.r 196 [cS 4 A] [cS 4 C],.r 244 [cS 4 A,.agg [I a,I b,I c,I d]] [cB q],.b q false,.l [] [6,0,3,5] [3] (qaa f226 0) (qeJ A a b c d C 0) (.exit 0) (qgH a b c d C e),.a (.resG [[some none],[none],[some none]] 0 [] [cS 4 E]),.p (RetG prog 245 [GA.one (GC.gv 4 C none),GA.one (GC.ro (I e)),GA.one (GC.gv 4 [[I a,I b,I c,I d]] none)] [cS 4 E])]):
 Rt 226 [cS 4 A,.agg [I a,I b,I c,I d]] [cS 4 E]:=
 h.of
theorem qn0(h:Oo [.v ((A.length:Int)-1),.r 81 [cI a,cI 0,cI ((A.length:Int)-1)] [cB q]]):
 Rt 200 [.agg (gr A b c),cI a] [cB q]:=
 h.of
theorem qxp(h:Oo [.b (a==d) true,.b (b==e) true]):
 Rt 258 [.agg [I a,I b,I c,I g],.agg [I d,I e,I f,I i]] [cB (c==f)]:=
 h.of
theorem qxq(h:Oo [.b (a==c) true,.b (b==d) false]):
 Rt 258 [.agg [I a,I b,I e,I f],.agg [I c,I d,I g,I i]] [cB false]:=
 h.of
theorem qxr(h:Oo [.b (a==b) false]):
 Rt 258 [.agg [I a,I c,I d,I e],.agg [I b,I f,I g,I i]] [cB false]:=
 h.of
theorem qxs(h:Oo [.r 258 [.agg [I e,I f,I g,I i],.agg [I a,I b,I c,I d]] [cB q]]):
 Rt 257 [.agg [I a,I b,I c,I d],.one (.ptr [I e,I f,I g,I i])] [cB q]:=
 h.of
theorem qxt(A:LL)(g1:Nat)(k2:List D)(a:Int)(h:Oo [.r 262 [cS 4 A,.one (.cl g1 k2)] [cI a],.b (a==-1) true]):
 Rg 256 [GA.one (GC.gv 4 A none),GA.one (GC.ro (D.cl g1 k2))] [cS 4 A]:=
 h.ofG
def qdH(g0:Nat)(k1:List D)(a b:Int)(A:LL):St:=
 { env:=envOf 42 [(0,PV.al (AL.one (lO 1000000000 4 A))),(1,.al (.one (.fd (D.cl g0 k1)))),(5,vI b),(6,vI a)],boxes:=[] }
theorem qxu(g1:Nat)(k2:List D)(a b:Int)(A:LL)(d e f c:Int)(q:Bool)(d12 d13 d14 d15:D)(h:Oo [.b (decide (a<(A.length:Int))) true,.p (0≤a),.p (a<(A.length:Int)),.e A a.toNat [I d,I e,I f,I c],.p (qa6 prog g1=true),.r g1 ([.agg [I d,I e,I f,I c]]++List.map .one k2) [cB q],.n q true,.p (0≤b),.p (b<(A.length:Int)),.e A b.toNat [d12,d13,d14,d15],.u b,.u a]):
 Tp (qaa f256 0) (qdH g1 k2 a b A) .normal (qdH g1 k2 (a+1) (b+1) (A.set b.toNat [I d,I e,I f,I c])):=
 h.lp [6,0,1,5] []
theorem qxv(g1:Nat)(k2:List D)(a c:Int)(A:LL)(d e f b:Int)(q:Bool)(h:Oo [.b (decide (a<(A.length:Int))) true,.p (0≤a),.p (a<(A.length:Int)),.e A a.toNat [I d,I e,I f,I b],.p (qa6 prog g1=true),.r g1 ([.agg [I d,I e,I f,I b]]++List.map .one k2) [cB q],.n q false,.u a]):
 Tp (qaa f256 0) (qdH g1 k2 a c A) .normal (qdH g1 k2 (a+1) c A):=
 h.lp [6,0,1,5] []
def qka(A:LL)(a:Int):St:=
 { env:=envOf 42 [(0,PV.al (AL.one (lO 1000000000 4 A))),(5,vI a)],boxes:=[] }
theorem qxw(g1:Nat)(k2:List D)(a b:Int)(A:LL)(h:Oo [.b (decide (a<(A.length:Int))) false]):
 Tp (qaa f256 0) (qdH g1 k2 a b A) (.exit 0) (qka A b):=
 h.lp [0,5] []
theorem qxx(C:LL)(g1:Nat)(k2:List D)(b:Int)(A:LL)(a:Int)(h:Oo [.r 262 [cS 4 C,.one (.cl g1 k2)] [cI b],.b (b==-1) false,.u b,.l [] [6,0,1,5] [] (qaa f256 0) (qdH g1 k2 (b+1) b C) (.exit 0) (qka A a),.a .own,.p (0≤(some a).getD 0),.p ((some a).getD 0<(A.length:Int)),.h A,.p ((0:Int)≤none.getD 0),.p (none.getD 0≤(some a).getD (↑(List.take ((some a).getD 0).toNat A++List.replicate (A.length-((some a).getD 0).toNat) [I 0,I 0,I 0,I 0]).length:Int)),.p ((some a).getD (↑(List.take ((some a).getD 0).toNat A++List.replicate (A.length-((some a).getD 0).toNat) [I 0,I 0,I 0,I 0]).length:Int)≤(↑(List.take ((some a).getD 0).toNat A++List.replicate (A.length-((some a).getD 0).toNat) [I 0,I 0,I 0,I 0]).length:Int))]):
 Rg 256 [GA.one (GC.gv 4 C none),GA.one (GC.ro (D.cl g1 k2))] [.one (.sl 4 (List.take (((some a).getD (↑(List.take ((some a).getD 0).toNat A++List.replicate (A.length-((some a).getD 0).toNat) [I 0,I 0,I 0,I 0]).length:Int)).toNat-0) (List.drop 0 (List.take ((some a).getD 0).toNat A++List.replicate (A.length-((some a).getD 0).toNat) [I 0,I 0,I 0,I 0]))))]:=
 h.ofG
def qcl(A:LL)(a b c d:Int)(q:Bool)(e:Int):St:=
 { env:=envOf 41 [(1,vI a),(2,vI b),(3,vI c),(10,vI e),(11,.al (.one (.sb q))),(14,vF 4 A),(15,vI (A.length:Int)),(16,vI d)],boxes:=[] }
theorem qxy(h:Oo [.b (decide (a<(A.length:Int))) true,.p (0≤a),.p (a<(A.length:Int)),.e A a.toNat [I f,I g,I i,I c],.r 258 [.agg [I f,I g,I i,I c],.agg [I b,I d,I e,I 0]] [cB q],.b q true,.n r true,.u a]):
 Tp (qaa f255 0) (qcl A b d e a r j) .normal (qcl A b d e (a+1) true c):=
 h.lp [16,15,14,1,2,3,11,10] []
theorem qxz(h:Oo [.b (decide (a<(A.length:Int))) true,.p (0≤a),.p (a<(A.length:Int)),.e A a.toNat [I g,I i,I j,I b],.r 258 [.agg [I g,I i,I j,I b],.agg [I c,I d,I e,I 0]] [cB q],.b q true,.n r false,.b (decide (b<f)) true,.u a]):
 Tp (qaa f255 0) (qcl A c d e a r f) .normal (qcl A c d e (a+1) true b):=
 h.lp [16,15,14,1,2,3,11,10] []
theorem qxA(h:Oo [.b (decide (a<(A.length:Int))) true,.p (0≤a),.p (a<(A.length:Int)),.e A a.toNat [I g,I i,I j,I c],.r 258 [.agg [I g,I i,I j,I c],.agg [I b,I d,I e,I 0]] [cB r],.b r true,.n q false,.b (decide (c<f)) false,.u a]):
 Tp (qaa f255 0) (qcl A b d e a q f) .normal (qcl A b d e (a+1) q f):=
 h.lp [16,15,14,1,2,3,11,10] []
theorem qxB(h:Oo [.b (decide (a<(A.length:Int))) true,.p (0≤a),.p (a<(A.length:Int)),.e A a.toNat [I g,I i,I j,I e],.r 258 [.agg [I g,I i,I j,I e],.agg [I b,I c,I d,I 0]] [cB q],.b q false,.u a]):
 Tp (qaa f255 0) (qcl A b c d a r f) .normal (qcl A b c d (a+1) r f):=
 h.lp [16,15,14,1,2,3,11,10] []
def qn1(a:Int)(q:Bool):St:=
 { env:=envOf 41 [(10,vI a),(11,.al (.one (.sb q)))],boxes:=[] }
theorem qxC(h:Oo [.b (decide (a<(A.length:Int))) false]):
 Tp (qaa f255 0) (qcl A c d e a q b) (.exit 0) (qn1 b q):=
 h.lp [10,11] []
theorem qxD(h:Oo [.l [] [16,15,14,1,2,3,11,10] [] (qaa f255 0) (qcl A a b c 0 false 0) (.exit 0) (qn1 d q)]):
 Rt 255 [cS 4 A,cI a,cI b,cI c] [cI d,cB q]:=
 h.of
theorem qxE(h:Oo [.r 255 [cS 4 A,cI a,cI b,cI c] [cI e,cB q],.b q true,.b (decide (e≤d)) true,.r 196 [cS 4 A] [cS 4 C]]):
 Rt 249 [cS 4 A,.agg [I a,I b,I c,I d]] [cS 4 C,cB false]:=
 h.of
theorem qxF(h:Oo [.r 255 [cS 4 A,cI a,cI b,cI c] [cI e,cB q],.b q true,.b (decide (e≤d)) false,.r 196 [cS 4 A] [cS 4 F],.a (.resG [[some none],[none]] 0 [] [cS 4 C]),.p (RetG prog 256 [GA.one (GC.gv 4 F none),GA.one (GC.ro (D.cl 257 [D.ptr [I a,I b,I c,I d]]))] [cS 4 C]),.r 226 [cS 4 C,.agg [I a,I b,I c,I d]] [cS 4 E]]):
 Rt 249 [cS 4 A,.agg [I a,I b,I c,I d]] [cS 4 E,cB true]:=
 h.of
theorem qxG(h:Oo [.r 255 [cS 4 A,cI a,cI b,cI c] [cI e,cB q],.b q false,.r 196 [cS 4 A] [cS 4 F],.a (.resG [[some none],[none]] 0 [] [cS 4 C]),.p (RetG prog 256 [GA.one (GC.gv 4 F none),GA.one (GC.ro (D.cl 257 [D.ptr [I a,I b,I c,I d]]))] [cS 4 C]),.r 226 [cS 4 C,.agg [I a,I b,I c,I d]] [cS 4 E]]):
 Rt 249 [cS 4 A,.agg [I a,I b,I c,I d]] [cS 4 E,cB true]:=
 h.of
theorem qxH(h:Oo [.b (a==5) true,.b (a==5) true,.r 249 [cS 4 A,.agg [I b,I c,I d,I e]] [cS 4 C,cB q]]):
 Rt 240 [cI a,cS 4 A,.agg [I b,I c,I d,I e]] [cS 4 C,cB q]:=
 h.of
theorem qxI(h:Oo [.b (a==5) false,.b (a==8) true,.r 249 [cS 4 A,.agg [I b,I c,I d,I e]] [cS 4 C,cB q]]):
 Rt 240 [cI a,cS 4 A,.agg [I b,I c,I d,I e]] [cS 4 C,cB q]:=
 h.of
theorem qxJ(h:Oo [.b (a==5) false,.b (a==8) false,.b (a==6) true,.r 226 [cS 4 A,.agg [I b,I c,I d,I e]] [cS 4 C],.r 244 [cS 4 A,.agg [I b,I c,I d,I e]] [cB q]]):
 Rt 240 [cI a,cS 4 A,.agg [I b,I c,I d,I e]] [cS 4 C,.one (B !q)]:=
 h.of
theorem qxK(h:Oo [.b (a==5) false,.b (a==8) false,.b (a==6) false,.r 196 [cS 4 A] [cS 4 C]]):
 Rt 240 [cI a,cS 4 A,.agg [I b,I c,I d,I e]] [cS 4 C,cB true]:=
 h.of
def qeK(a b c d e:Int):St:=
 { env:=envOf 41 [(5,.al (.one (.sl (.own 27) 1 [[I a],[I b],[I c],[I d]]))),(6,vI e)],boxes:=[] }
def qkb(a:Int):St:=
 { env:=envOf 41 [(4,vI a)],boxes:=[] }
theorem qxL(h:Oo [.b (decide (a<4)) true,.x [[I d],[I e],[I b],[I c]] a [I f],.b (f != 0) true,.x [[I d],[I e],[I b],[I c]] a [I g]]):
 Tp (qaa f243 0) (qeK d e b c a) .ret (qkb g):=
 h.lp [4] []
theorem qxM(h:Oo [.b (decide (a<4)) true,.x [[I d],[I e],[I b],[I c]] a [I f],.b (f != 0) false,.u a]):
 Tp (qaa f243 0) (qeK d e b c a) .normal (qeK d e b c (a+1)):=
 h.lp [6,5] []
def qn2:St:=
 { env:=envOf 41 [],boxes:=[] }
theorem qxN(h:Oo [.b (decide (a<4)) false]):
 Tp (qaa f243 0) (qeK d e b c a) (.exit 0) qn2:=
 h.lp [] []
theorem qxO(h:Oo [.r 250 [cI b,cI j] [cI m],.r 250 [cI a,cI i] [cI n],.r 250 [cI f,cI k] [cI c],.r 250 [cI g,cI l] [cI d],.l [] [6,5] [] (qaa f243 0) (qeK m n c d 0) .ret (qkb e)]):
 Rt 243 [.agg [I a,I b,I f,I g],.agg [I i,I j,I k,I l]] [cI e]:=
 h.of
theorem qxP(h:Oo [.r 250 [cI b,cI i] [cI l],.r 250 [cI a,cI g] [cI m],.r 250 [cI e,cI j] [cI c],.r 250 [cI f,cI k] [cI d],.l [] [6,5] [] (qaa f243 0) (qeK l m c d 0) (.exit 0) qn2]):
 Rt 243 [.agg [I a,I b,I e,I f],.agg [I g,I i,I j,I k]] [cI 0]:=
 h.of
def qeL(A:LL)(a b c d e:Int):St:=
 { env:=envOf 18 [(0,vF 4 A),(3,vP 3),(5,vI e)],boxes:=[(3,[lI a,lI b,lI c,lI d])] }
def qkc(q:Bool):St:=
 { env:=envOf 18 [(4,.al (.one (.sb q)))],boxes:=[] }
theorem qxQ(h:Oo [.b (decide (a<(A.length:Int))) true,.p (0≤a),.p (a<(A.length:Int)),.e A a.toNat [I f,I g,I i,I j],.b (f==b&&(g==c&&(i==d&&j==e))) true]):
 Tp (qaa f242 0) (qeL A b c d e a) .ret (qkc true):=
 h.lp [4] []
theorem qxR(h:Oo [.b (decide (a<(A.length:Int))) true,.p (0≤a),.p (a<(A.length:Int)),.e A a.toNat [I f,I g,I i,I j],.b (f==b&&(g==c&&(i==d&&j==e))) false,.u a]):
 Tp (qaa f242 0) (qeL A b c d e a) .normal (qeL A b c d e (a+1)):=
 h.lp [5,0,3] [3]
def qn3:St:=
 { env:=envOf 18 [],boxes:=[] }
theorem qxS(h:Oo [.b (decide (a<(A.length:Int))) false]):
 Tp (qaa f242 0) (qeL A b c d e a) (.exit 0) qn3:=
 h.lp [] []
theorem qxT(h:Oo [.l [] [5,0,3] [3] (qaa f242 0) (qeL A a b c d 0) .ret (qkc q)]):
 Rt 242 [cS 4 A,.agg [I a,I b,I c,I d]] [cB q]:=
 h.of
theorem qxU(h:Oo [.l [] [5,0,3] [3] (qaa f242 0) (qeL A a b c d 0) (.exit 0) qn3]):
 Rt 242 [cS 4 A,.agg [I a,I b,I c,I d]] [cB false]:=
 h.of
theorem qxV(h:Oo [.r 242 [cS 4 A,.agg [I a,I b,I c,I d]] [cB q],.b q true,.g ([]:LL) A 32,.h A]):
 Rt 223 [cS 4 A,.agg [I a,I b,I c,I d]] [cS 4 ([]++A)]:=
 h.of
def qeM(A:LL)(a b c d e:Int):St:=
 { env:=envOf 41 [(0,vF 4 A),(3,vP 3),(5,vI e)],boxes:=[(3,[lI a,lI b,lI c,lI d])] }
theorem qxW(h:Oo [.b (decide (a<(A.length:Int))) true,.p (0≤a),.p (a<(A.length:Int)),.e A a.toNat [I i,I j,I k,I f],.r 243 [.agg [I i,I j,I k,I f],.agg [I b,I c,I d,I e]] [cI g],.b (decide (g<0)) true,.u a]):
 Tp (qaa f223 0) (qeM A b c d e a) .normal (qeM A b c d e (a+1)):=
 h.lp [5,0,3] [3]
def qgI(A:LL)(a b c d e:Int):St:=
 { env:=envOf 41 [(0,vF 4 A),(3,vP 3),(5,vI e)],boxes:=[(3,[lI a,lI b,lI c,lI d])] }
theorem qxX(h:Oo [.b (decide (a<(A.length:Int))) true,.p (0≤a),.p (a<(A.length:Int)),.e A a.toNat [I i,I j,I k,I f],.r 243 [.agg [I i,I j,I k,I f],.agg [I b,I c,I d,I e]] [cI g],.b (decide (g<0)) false]):
 Tp (qaa f223 0) (qeM A b c d e a) (.exit 0) (qgI A b c d e a):=
 h.lp [0,5,3] [3]
theorem qxY(h:Oo [.b (decide (a<(A.length:Int))) false]):
 Tp (qaa f223 0) (qeM A b c d e a) (.exit 0) (qgI A b c d e a):=
 h.lp [0,5,3] [3]
theorem qxZ(h:Oo [.r 242 [cS 4 A,.agg [I b,I c,I d,I e]] [cB q],.b q false,.l [] [5,0,3] [3] (qaa f223 0) (qeM A b c d e 0) (.exit 0) (qgI A b c d e a),.p ((0:Int)≤none.getD 0),.p (none.getD 0≤(some a).getD (A.length:Int)),.p ((some a).getD (A.length:Int)≤(A.length:Int)),.p ((([]:LL).length+(List.take (((some a).getD (A.length:Int)).toNat-0) (List.drop 0 A)).length)*32≤140737488355328),.p (([]:LL).length+(List.take (((some a).getD (A.length:Int)).toNat-0) (List.drop 0 A)).length≤9223372036854775807),.p (Flat (List.take (((some a).getD (A.length:Int)).toNat-0) (List.drop 0 A))),.p ((([]++List.take (((some a).getD (A.length:Int)).toNat-0) (List.drop 0 A)).length+[[I b,I c,I d,I e]].length)*32≤140737488355328),.p (([]++List.take (((some a).getD (A.length:Int)).toNat-0) (List.drop 0 A)).length+[[I b,I c,I d,I e]].length≤9223372036854775807),.h [[I b,I c,I d,I e]],.p (0≤(some a).getD 0),.p ((some a).getD 0≤none.getD (A.length:Int)),.p (none.getD (A.length:Int)≤(A.length:Int)),.p ((([]++List.take (((some a).getD (A.length:Int)).toNat-0) (List.drop 0 A)++[[I b,I c,I d,I e]]).length+(List.take (A.length-((some a).getD 0).toNat) (List.drop ((some a).getD 0).toNat A)).length)*32≤140737488355328),.p (([]++List.take (((some a).getD (A.length:Int)).toNat-0) (List.drop 0 A)++[[I b,I c,I d,I e]]).length+(List.take (A.length-((some a).getD 0).toNat) (List.drop ((some a).getD 0).toNat A)).length≤9223372036854775807),.p (Flat (List.take (A.length-((some a).getD 0).toNat) (List.drop ((some a).getD 0).toNat A)))]):
 Rt 223 [cS 4 A,.agg [I b,I c,I d,I e]] [.one (.sl 4 ([]++List.take (((some a).getD (A.length:Int)).toNat-0) (List.drop 0 A)++[[I b,I c,I d,I e]]++List.take (A.length-((some a).getD 0).toNat) (List.drop ((some a).getD 0).toNat A)))]:=
 h.of
theorem qx0(h:Oo [.v ((A.length:Int)-1),.r 137 [cI a,cI 0,cI ((A.length:Int)-1)] [cB q],.n q true]):
 Rt 222 [.agg (gr A b c),cI a] [.agg (nd 0 0 0 []),cB false]:=
 h.of
theorem qx1(h:Oo [.v ((A.length:Int)-1),.r 137 [cI a,cI 0,cI ((A.length:Int)-1)] [cB q],.n q false,.p (0≤a),.p (a<(A.length:Int)),.e A a.toNat (nd b c d C),.g ([]:LL) C 8,.h C]):
 Rt 222 [.agg (gr A e f),cI a] [.agg (nd b c d ([]++C)),cB true]:=
 h.of
def qbK(A:LL)(a b c d:Int)(q:Bool)(e:Int):St:=
 { env:=envOf 54 [(0,vF 4 A),(1,vI a),(2,vI b),(3,vI c),(10,vI e),(11,.al (.one (.sb q))),(12,vI d)],boxes:=[] }
theorem qx2(h:Oo [.b (decide (a<(A.length:Int))) true,.p (0≤a),.p (a<(A.length:Int)),.e A a.toNat [I f,I g,I i,I e],.b (f==b) true,.b (g==c) true,.b (i==d) true,.n q true,.u a]):
 Tp (qaa f248 0) (qbK A b c d a q j) .normal (qbK A b c d (a+1) true e):=
 h.lp [12,0,1,2,3,11,10] []
theorem qx3(h:Oo [.b (decide (a<(A.length:Int))) true,.p (0≤a),.p (a<(A.length:Int)),.e A a.toNat [I g,I i,I j,I c],.b (g==b) true,.b (i==d) true,.b (j==e) true,.n q false,.b (decide (c<f)) true,.u a]):
 Tp (qaa f248 0) (qbK A b d e a q f) .normal (qbK A b d e (a+1) true c):=
 h.lp [12,0,1,2,3,11,10] []
theorem qx4(h:Oo [.b (decide (a<(A.length:Int))) true,.p (0≤a),.p (a<(A.length:Int)),.e A a.toNat [I g,I i,I j,I f],.b (g==b) true,.b (i==c) true,.b (j==d) true,.n q false,.b (decide (f<e)) false,.u a]):
 Tp (qaa f248 0) (qbK A b c d a q e) .normal (qbK A b c d (a+1) q e):=
 h.lp [12,0,1,2,3,11,10] []
theorem qx5(h:Oo [.b (decide (a<(A.length:Int))) true,.p (0≤a),.p (a<(A.length:Int)),.e A a.toNat [I f,I g,I i,I j],.b (f==b) true,.b (g==c) true,.b (i==d) false,.u a]):
 Tp (qaa f248 0) (qbK A b c d a q e) .normal (qbK A b c d (a+1) q e):=
 h.lp [12,0,1,2,3,11,10] []
theorem qx6(h:Oo [.b (decide (a<(A.length:Int))) true,.p (0≤a),.p (a<(A.length:Int)),.e A a.toNat [I f,I g,I j,I i],.b (f==b) true,.b (g==c) false,.u a]):
 Tp (qaa f248 0) (qbK A b c d a q e) .normal (qbK A b c d (a+1) q e):=
 h.lp [12,0,1,2,3,11,10] []
theorem qx7(h:Oo [.b (decide (a<(A.length:Int))) true,.p (0≤a),.p (a<(A.length:Int)),.e A a.toNat [I f,I i,I j,I g],.b (f==b) false,.u a]):
 Tp (qaa f248 0) (qbK A b c d a q e) .normal (qbK A b c d (a+1) q e):=
 h.lp [12,0,1,2,3,11,10] []
def qn4(a:Int)(q:Bool):St:=
 { env:=envOf 54 [(10,vI a),(11,.al (.one (.sb q)))],boxes:=[] }
theorem qx8(h:Oo [.b (decide (a<(A.length:Int))) false]):
 Tp (qaa f248 0) (qbK A c d e a q b) (.exit 0) (qn4 b q):=
 h.lp [10,11] []
theorem qx9(h:Oo [.l [] [12,0,1,2,3,11,10] [] (qaa f248 0) (qbK A a b c 0 false 0) (.exit 0) (qn4 d q)]):
 Rt 248 [cS 4 A,cI a,cI b,cI c] [cI d,cB q]:=
 h.of
theorem qya(h:Oo [.b (a==5) true]):
 Rt 236 [cI a] [cB true]:=
 h.of
theorem qyb(h:Oo [.b (a==5) false,.b (a==6) true]):
 Rt 236 [cI a] [cB true]:=
 h.of
theorem qyc(h:Oo [.b (a==5) false,.b (a==6) false]):
 Rt 236 [cI a] [cB (a==8)]:=
 h.of
theorem qyd(h:Oo [.g ([]:LL) A 32,.h A,.b (a==6) true,.r 242 [cS 4 A,.agg [I b,I c,I d,I e]] [cB q],.b q true]):
 Rt 237 [cI a,cS 4 A,.agg [I b,I c,I d,I e]] [cS 4 ([]++A),cB false]:=
 h.of
theorem qye(h:Oo [.g ([]:LL) A 32,.h A,.b (e==6) true,.r 242 [cS 4 A,.agg [I a,I b,I c,I d]] [cB q],.b q false,.r 223 [cS 4 A,.agg [I a,I b,I c,I d]] [cS 4 C]]):
 Rt 237 [cI e,cS 4 A,.agg [I a,I b,I c,I d]] [cS 4 C,cB true]:=
 h.of
theorem qyf(h:Oo [.g ([]:LL) A 32,.h A,.b (a==6) false,.b (a==5) true,.b (a==5) true,.r 248 [cS 4 A,cI b,cI c,cI d] [cI f,cB q],.b q true,.b (decide (f≤e)) true]):
 Rt 237 [cI a,cS 4 A,.agg [I b,I c,I d,I e]] [cS 4 ([]++A),cB false]:=
 h.of
def qbL(A:LL)(a b c d e:Int)(C:LL):St:=
 { env:=envOf 94 [(1,vF 4 A),(5,vP 5),(11,PV.al (AL.one (lO 48 4 C))),(12,vI e)],boxes:=[(5,[lI a,lI b,lI c,lI d])] }
theorem qyg(h:Oo [.b (decide (a<(A.length:Int))) true,.p (0≤a),.p (a<(A.length:Int)),.e A a.toNat [I g,I l,I m,I n],.b (g != f) true,.p (0≤a),.p (a<(A.length:Int)),.e A a.toNat [I b,I c,I d,I e],.g C [[I b,I c,I d,I e]] 32,.h [[I b,I c,I d,I e]],.u a]):
 Tp (qaa f237 0) (qbL A f i j k a C) .normal (qbL A f i j k (a+1) (C++[[I b,I c,I d,I e]])):=
 h.lp [12,1,5,11] [5]
theorem qyh(h:Oo [.b (decide (a<(A.length:Int))) true,.p (0≤a),.p (a<(A.length:Int)),.e A a.toNat [I i,I m,I n,I o],.b (i != f) false,.p (0≤a),.p (a<(A.length:Int)),.e A a.toNat [I p,I j,I a0,I b0],.b (j != g) true,.p (0≤a),.p (a<(A.length:Int)),.e A a.toNat [I b,I c,I d,I e],.g C [[I b,I c,I d,I e]] 32,.h [[I b,I c,I d,I e]],.u a]):
 Tp (qaa f237 0) (qbL A f g k l a C) .normal (qbL A f g k l (a+1) (C++[[I b,I c,I d,I e]])):=
 h.lp [12,1,5,11] [5]
theorem qyi(h:Oo [.b (decide (a<(A.length:Int))) true,.p (0≤a),.p (a<(A.length:Int)),.e A a.toNat [I j,I n,I o,I p],.b (j != f) false,.p (0≤a),.p (a<(A.length:Int)),.e A a.toNat [I a0,I k,I b0,I c0],.b (k != g) false,.p (0≤a),.p (a<(A.length:Int)),.e A a.toNat [I d0,I e0,I l,I f0],.b (l != i) true,.p (0≤a),.p (a<(A.length:Int)),.e A a.toNat [I b,I c,I d,I e],.g C [[I b,I c,I d,I e]] 32,.h [[I b,I c,I d,I e]],.u a]):
 Tp (qaa f237 0) (qbL A f g i m a C) .normal (qbL A f g i m (a+1) (C++[[I b,I c,I d,I e]])):=
 h.lp [12,1,5,11] [5]
theorem qyj(h:Oo [.b (decide (a<(A.length:Int))) true,.p (0≤a),.p (a<(A.length:Int)),.e A a.toNat [I e,I j,I k,I l],.b (e != b) false,.p (0≤a),.p (a<(A.length:Int)),.e A a.toNat [I m,I f,I n,I o],.b (f != c) false,.p (0≤a),.p (a<(A.length:Int)),.e A a.toNat [I p,I a0,I g,I b0],.b (g != d) false,.u a]):
 Tp (qaa f237 0) (qbL A b c d i a C) .normal (qbL A b c d i (a+1) C):=
 h.lp [12,1,5,11] [5]
def qfN(a b c d:Int)(A:LL):St:=
 { env:=envOf 94 [(5,vP 5),(11,PV.al (AL.one (lO 48 4 A)))],boxes:=[(5,[lI a,lI b,lI c,lI d])] }
theorem qyk(h:Oo [.b (decide (e<(A.length:Int))) false]):
 Tp (qaa f237 0) (qbL A a b c d e C) (.exit 1) (qfN a b c d C):=
 h.lp [11,5] [5]
theorem qyl(h:Oo [.g ([]:LL) A 32,.h A,.b (e==6) false,.b (e==5) true,.b (e==5) true,.r 248 [cS 4 A,cI a,cI b,cI c] [cI f,cB q],.b q true,.b (decide (f≤d)) false,.l [] [12,1,5,11] [5] (qaa f237 0) (qbL A a b c d 0 []) (.exit 1) (qfN a b c d C),.r 223 [cS 4 C,.agg [I a,I b,I c,I d]] [cS 4 E]]):
 Rt 237 [cI e,cS 4 A,.agg [I a,I b,I c,I d]] [cS 4 E,cB true]:=
 h.of
theorem qym(h:Oo [.g ([]:LL) A 32,.h A,.b (d==6) false,.b (d==5) true,.b (d==5) true,.r 248 [cS 4 A,cI a,cI b,cI c] [cI f,cB q],.b q false,.l [] [12,1,5,11] [5] (qaa f237 0) (qbL A a b c e 0 []) (.exit 1) (qfN a b c e C),.r 223 [cS 4 C,.agg [I a,I b,I c,I e]] [cS 4 E]]):
 Rt 237 [cI d,cS 4 A,.agg [I a,I b,I c,I e]] [cS 4 E,cB true]:=
 h.of
theorem qyn(h:Oo [.g ([]:LL) A 32,.h A,.b (a==6) false,.b (a==5) false,.b (a==8) true,.r 248 [cS 4 A,cI b,cI c,cI d] [cI f,cB q],.b q true,.b (decide (f≤e)) true]):
 Rt 237 [cI a,cS 4 A,.agg [I b,I c,I d,I e]] [cS 4 ([]++A),cB false]:=
 h.of
theorem qyo(h:Oo [.g ([]:LL) A 32,.h A,.b (e==6) false,.b (e==5) false,.b (e==8) true,.r 248 [cS 4 A,cI a,cI b,cI c] [cI f,cB q],.b q true,.b (decide (f≤d)) false,.l [] [12,1,5,11] [5] (qaa f237 0) (qbL A a b c d 0 []) (.exit 1) (qfN a b c d C),.r 223 [cS 4 C,.agg [I a,I b,I c,I d]] [cS 4 E]]):
 Rt 237 [cI e,cS 4 A,.agg [I a,I b,I c,I d]] [cS 4 E,cB true]:=
 h.of
theorem qyp(h:Oo [.g ([]:LL) A 32,.h A,.b (d==6) false,.b (d==5) false,.b (d==8) true,.r 248 [cS 4 A,cI a,cI b,cI c] [cI f,cB q],.b q false,.l [] [12,1,5,11] [5] (qaa f237 0) (qbL A a b c e 0 []) (.exit 1) (qfN a b c e C),.r 223 [cS 4 C,.agg [I a,I b,I c,I e]] [cS 4 E]]):
 Rt 237 [cI d,cS 4 A,.agg [I a,I b,I c,I e]] [cS 4 E,cB true]:=
 h.of
theorem qyq(h:Oo [.g ([]:LL) A 32,.h A,.b (a==6) false,.b (a==5) false,.b (a==8) false]):
 Rt 237 [cI a,cS 4 A,.agg [I b,I c,I d,I e]] [cS 4 ([]++A),cB true]:=
 h.of
end Go.Proofs.YtdanpadojemjeaaGreat
