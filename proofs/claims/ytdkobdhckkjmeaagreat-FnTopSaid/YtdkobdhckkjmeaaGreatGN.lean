import Derived.Test.YtdkobdhckkjmeaaGreatRows
import Derived.Test.YtdkobdhckkjmeaaGreatGE
set_option linter.unusedVariables false
set_option linter.unusedSimpArgs false
namespace Go.Proofs.YtdkobdhckkjmeaaGreat
open Go.Sx Go.RowKit Go.Proofs.Tryz
variable {a b c d e f g i j k l m n o p a0 b0 c0 d0 e0 f0 : Int} {A C E F G H J K L M N P Q R S : LL} {q r : Bool}
theorem qvS(h:Oo [.g ([]:LL) A 40,.h A]):
 Rt 239 [cS 5 A] [cS 5 ([]++A)]:=
 h.of
theorem qvT(h:Oo [.b (decide (b<a)) true]):
 Rt 130 [cI c,cI a,cI b] [cI a]:=
 h.of
def y08(a b:Int)(l:List O):List O:=.b (decide (a<b)) false::l
theorem qvU(h:Oo (y08 c a [.b (decide (b<a)) true])):
 Rt 130 [cI b,cI a,cI c] [cI a]:=
 h.of
theorem qvV(h:Oo (y08 a c [.b (decide (b<c)) false,.b (decide (b>a)) true])):
 Rt 130 [cI b,cI c,cI a] [cI a]:=
 h.of
theorem qvW(h:Oo (y08 c b [.b (decide (a<b)) false,.b (decide (a>c)) false])):
 Rt 130 [cI a,cI b,cI c] [cI a]:=
 h.of
theorem qvX(h:Oo [.b (decide (b<a)) true]):
 Rt 160 [cI c,cI a,cI b] [cI a]:=
 h.of
theorem qvY(h:Oo (y08 c a [.b (decide (b<a)) true])):
 Rt 160 [cI b,cI a,cI c] [cI a]:=
 h.of
theorem qvZ(h:Oo (y08 b c [.b (decide (a<c)) false])):
 Rt 160 [cI a,cI c,cI b] [cI (if b<a then b else a)]:=
 h.of
theorem qwl(h:Oo [.b (decide (a≥b)) true]):
 Rt 158 [cI a,cI b,cI c] [cB (decide (a≤c))]:=
 h.of
theorem qwm(h:Oo [.b (decide (a≥b)) false]):
 Rt 158 [cI a,cI b,cI c] [cB false]:=
 h.of
theorem qwn(h:Oo [.b (decide (a≥b)) true]):
 Rt 167 [cI a,cI b,cI c] [cB (decide (a≤c))]:=
 h.of
theorem qwo(h:Oo [.b (decide (a≥b)) false]):
 Rt 167 [cI a,cI b,cI c] [cB false]:=
 h.of
theorem qwp(h:Oo [.b (decide (a<b)) true]):
 Rt 322 [cI a,cI b] [cI (-1)]:=
 h.of
theorem qwq(h:Oo (y08 a b [.b (decide (a>b)) true])):
 Rt 322 [cI a,cI b] [cI 1]:=
 h.of
theorem qwr(h:Oo (y08 a b [.b (decide (a>b)) false])):
 Rt 322 [cI a,cI b] [cI 0]:=
 h.of
theorem qws(a:Int)(h:Oo []):
 Rt 365 [cI a] [cB (a != a)]:=
 h.of
def y09(a:Int)(q:Bool)(b:Int)(r:Bool)(l:List O):List O:=.r 365 [cI a] [cB q]::.r 365 [cI b] [cB r]::.b q false::.b r false::l
theorem qwt(h:Oo (y09 a q b r [.b (decide (a<b)) true])):
 Rt 358 [cI a,cI b] [cI (-1)]:=
 h.of
theorem qwu(h:Oo (y09 a q b r [.b (decide (a<b)) false,.b (decide (a>b)) true])):
 Rt 358 [cI a,cI b] [cI 1]:=
 h.of
theorem qwv(h:Oo (y09 a q b r [.b (decide (a<b)) false,.b (decide (a>b)) false])):
 Rt 358 [cI a,cI b] [cI 0]:=
 h.of
def qe2(A C:LL)(a:Int):St:=
 { env:=envOf 36 [(0,vF 1 A),(1,vF 1 C),(9,vF 1 A),(10,vI (A.length:Int)),(11,vI a)],boxes:=[] }
def ql7(a:Int):St:=
 { env:=envOf 36 [(4,vI a)],boxes:=[] }
theorem qww(h:Oo [.i C a [I c],.b (decide (a≥(A.length:Int))) false,.x A a [I d],.r 358 [cI c,cI d] [cI b],.b (b != 0) true]):
 Tp (qaa f345 0) (qe2 C A a) .ret (ql7 b):=
 h.lp [4] []
theorem qwx(h:Oo [.i C a [I b],.b (decide (a≥(A.length:Int))) false,.x A a [I c],.r 358 [cI b,cI c] [cI d],.b (d != 0) false,.u a]):
 Tp (qaa f345 0) (qe2 C A a) .normal (qe2 C A (a+1)):=
 h.lp [11,10,9,1,0] []
def qp4(A C:LL):St:=
 { env:=envOf 36 [(0,vF 1 A),(1,vF 1 C)],boxes:=[] }
theorem qwy(h:Oo [.f A a false]):
 Tp (qaa f345 0) (qe2 A C a) (.exit 0) (qp4 A C):=
 h.lp [0,1] []
theorem qwz(h:Oo [.l [] [11,10,9,1,0] [] (qaa f345 0) (qe2 A C 0) .ret (ql7 a)]):
 Rt 345 [cS 1 A,cS 1 C] [cI a]:=
 h.of
theorem qwA(h:Oo [.l [] [11,10,9,1,0] [] (qaa f345 0) (qe2 A C 0) (.exit 0) (qp4 A C),.f C (A.length:Int) false]):
 Rt 345 [cS 1 A,cS 1 C] [cI 0]:=
 h.of
theorem qwB(h:Oo [.r 345 [cS 1 A,cS 1 C] [cI a]]):
 Rt 332 [cS 1 A,cS 1 C] [cI a]:=
 h.of
theorem qwC(h:Oo [.r 332 [.one (.sl 1 [[I a],[I b]]),.one (.sl 1 [[I c],[I d]])] [cI e]]):
 Rt 342 [.agg [I a,I b],.agg [I c,I d]] [cI e]:=
 h.of
theorem qwD(h:Oo [.r 342 [.agg [I b,I c],.agg [I d,I e]] [cI a],.b (a != 0) true]):
 Rt 326 [.agg (ri f b c g i),.agg (ri j d e k l)] [cI a]:=
 h.of
theorem qwE(h:Oo [.r 342 [.agg [I b,I e],.agg [I j,I k]] [cI c],.b (c != 0) false,.r 332 [.one (.sl 1 [[I a],[I f],[I g]]),.one (.sl 1 [[I i],[I l],[I m]])] [cI d]]):
 Rt 326 [.agg (ri a b e f g),.agg (ri i j k l m)] [cI d]:=
 h.of
theorem qwF(h:Oo [.r 239 [cS 5 C] [cS 5 E],.a (.resG [[some (some A)],[none]] 0 [] []),.p (RetG prog 325 [GA.one (GC.gv 5 E (some A)),GA.one (GC.ro (D.cl 326 []))] [])]):
 Rt 300 [cS 5 C] [cS 5 A]:=
 h.of
def qgf(A:LL)(a:Int)(C E:LL)(b c:Int)(F G H J:LL):St:=
 { env:=envOf 37 [(1,vP 1),(3,PV.al (AL.one (lO 18 5 C))),(9,vF 8 A),(10,vI (A.length:Int)),(11,vI a)],boxes:=[(1,[.sl .free 4 E,lI b,lI c,.sl .free 8 F,.sl .free 6 G,.sl .free 5 H,.sl .free 3 J])] }
theorem qwG(h:Oo [.i F a (wk A C M N P Q R S),.g E A 40,.h A,.g (E++A) C 40,.h C,.u a]):
 Tp (qaa f230 0) (qgf F a E L b c G H J K) .normal (qgf F (a+1) (E++A++C) L b c G H J K):=
 h.lp [11,10,9,3,1] [1]
def qp5(A C:LL)(a b:Int)(E F G H:LL):St:=
 { env:=envOf 37 [(1,vP 1),(3,PV.al (AL.one (lO 18 5 A)))],boxes:=[(1,[.sl .free 4 C,lI a,lI b,.sl .free 8 E,.sl .free 6 F,.sl .free 5 G,.sl .free 3 H])] }
theorem qwH(h:Oo [.f G c false]):
 Tp (qaa f230 0) (qgf G c H J a b A C E F) (.exit 0) (qp5 H J a b A C E F):=
 h.lp [1,3] [1]
def qgg(A:LL)(a:Int)(C:LL):St:=
 { env:=envOf 37 [(3,PV.al (AL.one (lO 18 5 C))),(24,vF 6 A),(25,vI (A.length:Int)),(26,vI a)],boxes:=[] }
theorem qwI(h:Oo [.i C a (lk b A c d e f),.g E A 40,.h A,.u a]):
 Tp (qaa f230 1) (qgg C a E) .normal (qgg C (a+1) (E++A)):=
 h.lp [26,25,24,3] []
def qp6(A:LL):St:=
 { env:=envOf 37 [(3,PV.al (AL.one (lO 18 5 A)))],boxes:=[] }
theorem qwJ(h:Oo [.f A a false]):
 Tp (qaa f230 1) (qgg A a C) (.exit 2) (qp6 C):=
 h.lp [3] []
theorem qwK(h:Oo [.l [(3,18,5)] [11,10,9,3,1] [1] (qaa f230 0) (qgf A 0 [] C a b A H J K) (.exit 0) (qp5 L Q d c M E N P),.l [] [26,25,24,3] [] (qaa f230 1) (qgg E 0 L) (.exit 2) (qp6 F),.r 300 [cS 5 F] [cS 5 G]]):
 Rt 230 [.agg (cl C a b A H J K)] [cS 5 G]:=
 h.of
def qe3(A:LL)(a b:Int)(C:LL):St:=
 { env:=envOf 30 [(0,vF 5 A),(1,vI a),(5,PV.al (AL.one (lO 7 5 C))),(6,vI b)],boxes:=[] }
theorem qwL(h:Oo [.i A a (ri j i k l m),.b (i==g) true,.x A a (ri f b c d e),.g C [(ri f b c d e)] 40,.h [(ri f b c d e)],.u a]):
 Tp (qaa f185 0) (qe3 A g a C) .normal (qe3 A g (a+1) (C++[(ri f b c d e)])):=
 h.lp [6,0,1,5] []
theorem qwM(h:Oo [.i A a (ri d c e f g),.b (c==b) false,.u a]):
 Tp (qaa f185 0) (qe3 A b a C) .normal (qe3 A b (a+1) C):=
 h.lp [6,0,1,5] []
def qp7(A:LL):St:=
 { env:=envOf 30 [(5,PV.al (AL.one (lO 7 5 A)))],boxes:=[] }
theorem qwN(h:Oo [.f A a false]):
 Tp (qaa f185 0) (qe3 A b a C) (.exit 0) (qp7 C):=
 h.lp [5] []
theorem qwO(h:Oo [.l [] [6,0,1,5] [] (qaa f185 0) (qe3 A a 0 []) (.exit 0) (qp7 C)]):
 Rt 185 [cS 5 A,cI a] [cS 5 C]:=
 h.of
def qe4(A:LL)(a b:Int)(C:LL):St:=
 { env:=envOf 25 [(1,vI a),(5,PV.al (AL.one (lO 22 5 C))),(8,vF 5 A),(9,vI (A.length:Int)),(10,vI b)],boxes:=[] }
theorem qwP(h:Oo [.i A b (ri c a d e f),.b (a==g) true,.g C [(ri c a d e f)] 40,.h [(ri c a d e f)],.u b]):
 Tp (qaa f147 0) (qe4 A g b C) .normal (qe4 A g (b+1) (C++[(ri c a d e f)])):=
 h.lp [10,9,8,1,5] []
theorem qwQ(h:Oo [.i A a (ri d c e f g),.b (c==b) false,.u a]):
 Tp (qaa f147 0) (qe4 A b a C) .normal (qe4 A b (a+1) C):=
 h.lp [10,9,8,1,5] []
def qp8(A:LL):St:=
 { env:=envOf 25 [(5,PV.al (AL.one (lO 22 5 A)))],boxes:=[] }
theorem qwR(h:Oo [.f A a false]):
 Tp (qaa f147 0) (qe4 A b a C) (.exit 0) (qp8 C):=
 h.lp [5] []
theorem qwS(h:Oo [.l [(5,22,5)] [10,9,8,1,5] [] (qaa f147 0) (qe4 A a 0 []) (.exit 0) (qp8 C)]):
 Rt 147 [cS 5 A,cI a] [cS 5 C]:=
 h.of
theorem qwT(h:Oo [.r 230 [.agg (cl A a b C E F G)] [cS 5 H],.r 147 [cS 5 H,cI c] [cS 5 J]]):
 Rt 222 [.agg (cl A a b C E F G),cI c] [cS 5 J]:=
 h.of
def qe5(A C E F G H J K:LL)(a b:Int):St:=
 { env:=envOf 21 [(1,vI a),(2,vP 2),(5,vI b)],boxes:=[(2,[.sl .free 5 A,.sl .free 5 C,.sl .free 5 E,.sl .free 4 F,.sl .free 1 G,.sl .free 1 H,.sl .free 1 J,.sl .free 2 K])] }
def ql8(q:Bool):St:=
 { env:=envOf 21 [(4,.al (.one (.sb q)))],boxes:=[] }
theorem qwU(h:Oo [.i A c [I a,B q],.b (a==b) true]):
 Tp (qaa f166 0) (qe5 C E F G H J K A b c) .ret (ql8 true):=
 h.lp [4] []
theorem qwV(h:Oo [.i A a [I c,B q],.b (c==b) false,.u a]):
 Tp (qaa f166 0) (qe5 C E F G H J K A b a) .normal (qe5 C E F G H J K A b (a+1)):=
 h.lp [5,2,1] [2]
def qp9:St:=
 { env:=envOf 21 [],boxes:=[] }
theorem qwW(h:Oo [.f A a false]):
 Tp (qaa f166 0) (qe5 C E F G H J K A b a) (.exit 0) qp9:=
 h.lp [] []
theorem qwX(h:Oo [.l [] [5,2,1] [2] (qaa f166 0) (qe5 A C E F G H J K a 0) .ret (ql8 q)]):
 Rt 166 [.agg (wk A C E F G H J K),cI a] [cB q]:=
 h.of
theorem qwY(h:Oo [.l [] [5,2,1] [2] (qaa f166 0) (qe5 A C E F G H J K a 0) (.exit 0) qp9]):
 Rt 166 [.agg (wk A C E F G H J K),cI a] [cB false]:=
 h.of
theorem qwZ(h:Oo [.r 317 [cS 2 A,.one (.cl 318 [D.ptr [I a]])] [cB q]]):
 Rt 271 [cS 2 A,cI a] [cB q]:=
 h.of
theorem qw0(h:Oo []):
 Rt 318 [.agg [I a,B q],.one (.ptr [I b])] [cB (a==b)]:=
 h.of
theorem qw1(h:Oo [.r 271 [cS 2 A,cI a] [cB q]]):
 Rt 163 [.agg (wk C E F G H J K A),cI a] [cB q]:=
 h.of
def qhu(A:LL)(a b:Int)(C:LL):St:=
 { env:=envOf 23 [(1,vI a),(5,PV.al (AL.one (lO 20 5 C))),(9,vF 8 A),(10,vI (A.length:Int)),(11,vI b)],boxes:=[] }
theorem qw7(h:Oo [.i C a (wk G H F J K L M N),.r 147 [cS 5 F,cI b] [cS 5 A],.g E A 40,.h A,.u a]):
 Tp (qaa f59 0) (qhu C b a E) .normal (qhu C b (a+1) (E++A)):=
 h.lp [11,10,9,5,1] []
def qqc(A:LL):St:=
 { env:=envOf 23 [(5,PV.al (AL.one (lO 20 5 A)))],boxes:=[] }
theorem qw8(h:Oo [.f A a false]):
 Tp (qaa f59 0) (qhu A b a C) (.exit 0) (qqc C):=
 h.lp [5] []
theorem qw9(h:Oo [.l [(5,20,5)] [11,10,9,5,1] [] (qaa f59 0) (qhu A a 0 []) (.exit 0) (qqc C)]):
 Rt 59 [.agg (cl E b c A F G H),cI a] [cS 5 C]:=
 h.of
def y0a(A:LL)(a:Int)(q:Bool)(l:List O):List O:=.r 218 [cS 8 A,.one (.cl 219 [D.ptr [I a]])] [cB q]::l
theorem qxa(h:Oo (y0a A a q [.b q true,.r 222 [.agg (cl C b c A E F G),cI a] [cS 5 J],.b ((J.length:Int)==0) true,.r 59 [.agg (cl C b c A E F G),cI a] [cS 5 H]])):
 Rt 96 [.agg (cl C b c A E F G),cI a] [cB ((H.length:Int)==0)]:=
 h.of
theorem qxb(h:Oo (y0a A a q [.b q true,.r 222 [.agg (cl C b c A E F G),cI a] [cS 5 H],.b ((H.length:Int)==0) false])):
 Rt 96 [.agg (cl C b c A E F G),cI a] [cB false]:=
 h.of
def y0b(A:LL)(a:Int)(q:Bool)(C:LL)(r:Bool)(l:List O):List O:=y0a A a q (.b q false::.r 220 [cS 3 C,.one (.cl 221 [D.ptr [I a]])] [cB r]::l)
theorem qxc(h:Oo (y0b A a q C r [.n r true])):
 Rt 96 [.agg (cl E b c A F G C),cI a] [cB true]:=
 h.of
theorem qxd(h:Oo (y0b A a q C r [.n r false,.r 222 [.agg (cl E b c A F G C),cI a] [cS 5 H],.b ((H.length:Int)==0) true,.r 59 [.agg (cl E b c A F G C),cI a] [cS 5 J]])):
 Rt 96 [.agg (cl E b c A F G C),cI a] [cB ((J.length:Int)==0)]:=
 h.of
theorem qxe(h:Oo (y0b A a q C r [.n r false,.r 222 [.agg (cl E b c A G H C),cI a] [cS 5 F],.b ((F.length:Int)==0) false])):
 Rt 96 [.agg (cl E b c A G H C),cI a] [cB false]:=
 h.of
theorem qxf(h:Oo [.r 163 [.agg (wk A C E F G H J K),cI a] [cB q]]):
 Rt 219 [.agg (wk A C E F G H J K),.one (.ptr [I a])] [cB q]:=
 h.of
theorem qxg(h:Oo []):
 Rt 221 [.agg [I c,I a,B q],.one (.ptr [I b])] [cB (a==b)]:=
 h.of
def qe7(A:LL)(g1:Nat)(k2:List D)(a:Int):St:=
 { env:=envOf 19 [(0,vF 8 A),(1,.al (.one (.fd (D.cl g1 k2)))),(7,vI (A.length:Int)),(8,vI a)],boxes:=[] }
def ql9(a:Int):St:=
 { env:=envOf 19 [(4,vI a)],boxes:=[] }
theorem qxh(A:LL)(g1:Nat)(k2:List D)(a:Int)(F G H J K L C E:LL)(q:Bool)(h:Oo [.i A a (wk F G H J K L C E),.p (qaT prog g1=true),.r g1 ([.agg (wk F G H J K L C E)]++List.map .one k2) [cB q],.b q true]):
 Tp (qaa f298 0) (qe7 A g1 k2 a) .ret (ql9 a):=
 h.lp [4] []
theorem qxi(A:LL)(g1:Nat)(k2:List D)(a:Int)(F G H J K L C E:LL)(q:Bool)(h:Oo [.i A a (wk F G H J K L C E),.p (qaT prog g1=true),.r g1 ([.agg (wk F G H J K L C E)]++List.map .one k2) [cB q],.b q false,.u a]):
 Tp (qaa f298 0) (qe7 A g1 k2 a) .normal (qe7 A g1 k2 (a+1)):=
 h.lp [8,7,1,0] []
def qqd:St:=
 { env:=envOf 19 [],boxes:=[] }
theorem qxj(A:LL)(g1:Nat)(k2:List D)(a:Int)(h:Oo [.f A a false]):
 Tp (qaa f298 0) (qe7 A g1 k2 a) (.exit 0) qqd:=
 h.lp [] []
theorem qxk(A:LL)(g1:Nat)(k2:List D)(a:Int)(h:Oo [.l [] [8,7,1,0] [] (qaa f298 0) (qe7 A g1 k2 0) .ret (ql9 a)]):
 Rt 298 [cS 8 A,.one (.cl g1 k2)] [cI a]:=
 h.of
theorem qxl(A:LL)(g1:Nat)(k2:List D)(h:Oo [.l [] [8,7,1,0] [] (qaa f298 0) (qe7 A g1 k2 0) (.exit 0) qqd]):
 Rt 298 [cS 8 A,.one (.cl g1 k2)] [cI (-1)]:=
 h.of
def qe8(A:LL)(g1:Nat)(k2:List D)(a:Int):St:=
 { env:=envOf 19 [(0,vF 5 A),(1,.al (.one (.fd (D.cl g1 k2)))),(7,vI (A.length:Int)),(8,vI a)],boxes:=[] }
def qma(a:Int):St:=
 { env:=envOf 19 [(4,vI a)],boxes:=[] }
theorem qxm(A:LL)(g1:Nat)(k2:List D)(a b c d e f:Int)(q:Bool)(h:Oo [.i A a (ri b c d e f),.p (qaT prog g1=true),.r g1 ([.agg (ri b c d e f)]++List.map .one k2) [cB q],.b q true]):
 Tp (qaa f311 0) (qe8 A g1 k2 a) .ret (qma a):=
 h.lp [4] []
theorem qxn(A:LL)(g1:Nat)(k2:List D)(a b c d e f:Int)(q:Bool)(h:Oo [.i A a (ri b c d e f),.p (qaT prog g1=true),.r g1 ([.agg (ri b c d e f)]++List.map .one k2) [cB q],.b q false,.u a]):
 Tp (qaa f311 0) (qe8 A g1 k2 a) .normal (qe8 A g1 k2 (a+1)):=
 h.lp [8,7,1,0] []
def qqe:St:=
 { env:=envOf 19 [],boxes:=[] }
theorem qxo(A:LL)(g1:Nat)(k2:List D)(a:Int)(h:Oo [.f A a false]):
 Tp (qaa f311 0) (qe8 A g1 k2 a) (.exit 0) qqe:=
 h.lp [] []
theorem qxp(A:LL)(g1:Nat)(k2:List D)(a:Int)(h:Oo [.l [] [8,7,1,0] [] (qaa f311 0) (qe8 A g1 k2 0) .ret (qma a)]):
 Rt 311 [cS 5 A,.one (.cl g1 k2)] [cI a]:=
 h.of
theorem qxq(A:LL)(g1:Nat)(k2:List D)(h:Oo [.l [] [8,7,1,0] [] (qaa f311 0) (qe8 A g1 k2 0) (.exit 0) qqe]):
 Rt 311 [cS 5 A,.one (.cl g1 k2)] [cI (-1)]:=
 h.of
def qe9(A:LL)(g1:Nat)(k2:List D)(a:Int):St:=
 { env:=envOf 19 [(0,vF 2 A),(1,.al (.one (.fd (D.cl g1 k2)))),(7,vI (A.length:Int)),(8,vI a)],boxes:=[] }
def qmb(a:Int):St:=
 { env:=envOf 19 [(4,vI a)],boxes:=[] }
theorem qxr(A:LL)(g1:Nat)(k2:List D)(a b:Int)(q r:Bool)(h:Oo [.i A a [I b,B q],.p (qaT prog g1=true),.r g1 ([.agg [I b,B q]]++List.map .one k2) [cB r],.b r true]):
 Tp (qaa f339 0) (qe9 A g1 k2 a) .ret (qmb a):=
 h.lp [4] []
theorem qxs(A:LL)(g1:Nat)(k2:List D)(a b:Int)(q r:Bool)(h:Oo [.i A a [I b,B q],.p (qaT prog g1=true),.r g1 ([.agg [I b,B q]]++List.map .one k2) [cB r],.b r false,.u a]):
 Tp (qaa f339 0) (qe9 A g1 k2 a) .normal (qe9 A g1 k2 (a+1)):=
 h.lp [8,7,1,0] []
def qqf:St:=
 { env:=envOf 19 [],boxes:=[] }
theorem qxt(A:LL)(g1:Nat)(k2:List D)(a:Int)(h:Oo [.f A a false]):
 Tp (qaa f339 0) (qe9 A g1 k2 a) (.exit 0) qqf:=
 h.lp [] []
theorem qxu(A:LL)(g1:Nat)(k2:List D)(a:Int)(h:Oo [.l [] [8,7,1,0] [] (qaa f339 0) (qe9 A g1 k2 0) .ret (qmb a)]):
 Rt 339 [cS 2 A,.one (.cl g1 k2)] [cI a]:=
 h.of
theorem qxv(A:LL)(g1:Nat)(k2:List D)(h:Oo [.l [] [8,7,1,0] [] (qaa f339 0) (qe9 A g1 k2 0) (.exit 0) qqf]):
 Rt 339 [cS 2 A,.one (.cl g1 k2)] [cI (-1)]:=
 h.of
def qfa(A:LL)(g1:Nat)(k2:List D)(a:Int):St:=
 { env:=envOf 19 [(0,vF 3 A),(1,.al (.one (.fd (D.cl g1 k2)))),(7,vI (A.length:Int)),(8,vI a)],boxes:=[] }
def qmc(a:Int):St:=
 { env:=envOf 19 [(4,vI a)],boxes:=[] }
theorem qxw(A:LL)(g1:Nat)(k2:List D)(a b c:Int)(q r:Bool)(h:Oo [.i A a [I b,I c,B q],.p (qaT prog g1=true),.r g1 ([.agg [I b,I c,B q]]++List.map .one k2) [cB r],.b r true]):
 Tp (qaa f259 0) (qfa A g1 k2 a) .ret (qmc a):=
 h.lp [4] []
theorem qxx(A:LL)(g1:Nat)(k2:List D)(a b c:Int)(q r:Bool)(h:Oo [.i A a [I b,I c,B q],.p (qaT prog g1=true),.r g1 ([.agg [I b,I c,B q]]++List.map .one k2) [cB r],.b r false,.u a]):
 Tp (qaa f259 0) (qfa A g1 k2 a) .normal (qfa A g1 k2 (a+1)):=
 h.lp [8,7,1,0] []
def qqg:St:=
 { env:=envOf 19 [],boxes:=[] }
theorem qxy(A:LL)(g1:Nat)(k2:List D)(a:Int)(h:Oo [.f A a false]):
 Tp (qaa f259 0) (qfa A g1 k2 a) (.exit 0) qqg:=
 h.lp [] []
theorem qxz(A:LL)(g1:Nat)(k2:List D)(a:Int)(h:Oo [.l [] [8,7,1,0] [] (qaa f259 0) (qfa A g1 k2 0) .ret (qmc a)]):
 Rt 259 [cS 3 A,.one (.cl g1 k2)] [cI a]:=
 h.of
theorem qxA(A:LL)(g1:Nat)(k2:List D)(h:Oo [.l [] [8,7,1,0] [] (qaa f259 0) (qfa A g1 k2 0) (.exit 0) qqg]):
 Rt 259 [cS 3 A,.one (.cl g1 k2)] [cI (-1)]:=
 h.of
def qfb(A:LL)(g1:Nat)(k2:List D)(a:Int):St:=
 { env:=envOf 19 [(0,vF 4 A),(1,.al (.one (.fd (D.cl g1 k2)))),(7,vI (A.length:Int)),(8,vI a)],boxes:=[] }
def qmd(a:Int):St:=
 { env:=envOf 19 [(4,vI a)],boxes:=[] }
theorem qxB(A:LL)(g1:Nat)(k2:List D)(a b c d e:Int)(q:Bool)(h:Oo [.i A a [I b,I c,I d,I e],.p (qaT prog g1=true),.r g1 ([.agg [I b,I c,I d,I e]]++List.map .one k2) [cB q],.b q true]):
 Tp (qaa f343 0) (qfb A g1 k2 a) .ret (qmd a):=
 h.lp [4] []
theorem qxC(A:LL)(g1:Nat)(k2:List D)(a b c d e:Int)(q:Bool)(h:Oo [.i A a [I b,I c,I d,I e],.p (qaT prog g1=true),.r g1 ([.agg [I b,I c,I d,I e]]++List.map .one k2) [cB q],.b q false,.u a]):
 Tp (qaa f343 0) (qfb A g1 k2 a) .normal (qfb A g1 k2 (a+1)):=
 h.lp [8,7,1,0] []
def qqh:St:=
 { env:=envOf 19 [],boxes:=[] }
theorem qxD(A:LL)(g1:Nat)(k2:List D)(a:Int)(h:Oo [.f A a false]):
 Tp (qaa f343 0) (qfb A g1 k2 a) (.exit 0) qqh:=
 h.lp [] []
theorem qxE(A:LL)(g1:Nat)(k2:List D)(a:Int)(h:Oo [.l [] [8,7,1,0] [] (qaa f343 0) (qfb A g1 k2 0) .ret (qmd a)]):
 Rt 343 [cS 4 A,.one (.cl g1 k2)] [cI a]:=
 h.of
theorem qxF(A:LL)(g1:Nat)(k2:List D)(h:Oo [.l [] [8,7,1,0] [] (qaa f343 0) (qfb A g1 k2 0) (.exit 0) qqh]):
 Rt 343 [cS 4 A,.one (.cl g1 k2)] [cI (-1)]:=
 h.of
theorem qxG(A:LL)(g1:Nat)(k2:List D)(a:Int)(h:Oo [.r 298 [cS 8 A,.one (.cl g1 k2)] [cI a]]):
 Rt 218 [cS 8 A,.one (.cl g1 k2)] [cB (decide (a≥0))]:=
 h.of
theorem qxH(A:LL)(g1:Nat)(k2:List D)(a:Int)(h:Oo [.r 311 [cS 5 A,.one (.cl g1 k2)] [cI a]]):
 Rt 266 [cS 5 A,.one (.cl g1 k2)] [cB (decide (a≥0))]:=
 h.of
theorem qxI(A:LL)(g1:Nat)(k2:List D)(a:Int)(h:Oo [.r 339 [cS 2 A,.one (.cl g1 k2)] [cI a]]):
 Rt 317 [cS 2 A,.one (.cl g1 k2)] [cB (decide (a≥0))]:=
 h.of
theorem qxJ(A:LL)(g1:Nat)(k2:List D)(a:Int)(h:Oo [.r 259 [cS 3 A,.one (.cl g1 k2)] [cI a]]):
 Rt 220 [cS 3 A,.one (.cl g1 k2)] [cB (decide (a≥0))]:=
 h.of
end Go.Proofs.YtdkobdhckkjmeaaGreat
namespace Go.Proofs.YtdkobdhckkjmeaaGreat
open Go.Sx Go.RowKit Go.Proofs.Tryz
variable {a b c d e f g i j k l m n o p a0 b0 c0 d0 e0 f0 : Int} {A C E F G H J K L M N P Q R S : LL} {q r : Bool}
def y0c(A:LL)(l:List O):List O:=.g ([]:LL) A 32::.h A::l
theorem qxL(h:Oo (y0c A [])):
 Rt 301 [cS 4 A] [cS 4 ([]++A)]:=
 h.of
theorem qxM(h:Oo [.r 331 [cS 4 A,.agg [I a,I b,I c,I d]] [cB q]]):
 Rt 312 [cS 4 A,.agg [I a,I b,I c,I d]] [cB q]:=
 h.of
theorem qxN(h:Oo [.r 332 [.one (.sl 1 [[I b],[I a],[I c],[I d]]),.one (.sl 1 [[I f],[I e],[I g],[I i]])] [cI j]]):
 Rt 313 [.agg [I a,I b,I c,I d],.agg [I e,I f,I g,I i]] [cI j]:=
 h.of
theorem qxO(h:Oo [.r 344 [cS 4 A,.agg [I a,I b,I c,I d]] [cI e]]):
 Rt 331 [cS 4 A,.agg [I a,I b,I c,I d]] [cB (decide (e≥0))]:=
 h.of
def qfc(A:LL)(a b c d e:Int):St:=
 { env:=envOf 19 [(0,vF 4 A),(3,vP 3),(7,vI (A.length:Int)),(8,vI e)],boxes:=[(3,[lI a,lI b,lI c,lI d])] }
def qmg(a:Int):St:=
 { env:=envOf 19 [(4,vI a)],boxes:=[] }
def y0g(A:LL)(a b c d e:Int)(l:List O):List O:=.i A a [I b,I c,I d,I e]::l
theorem qxP(h:Oo (y0g A a f g i j [.b (b==f&&(c==g&&(d==i&&e==j))) true])):
 Tp (qaa f344 0) (qfc A b c d e a) .ret (qmg a):=
 h.lp [4] []
theorem qxQ(h:Oo (y0g A a f g i j [.b (b==f&&(c==g&&(d==i&&e==j))) false,.u a])):
 Tp (qaa f344 0) (qfc A b c d e a) .normal (qfc A b c d e (a+1)):=
 h.lp [8,7,3,0] [3]
def qqj:St:=
 { env:=envOf 19 [],boxes:=[] }
theorem qxR(h:Oo [.f A a false]):
 Tp (qaa f344 0) (qfc A b c d e a) (.exit 0) qqj:=
 h.lp [] []
theorem qxS(h:Oo [.l [] [8,7,3,0] [3] (qaa f344 0) (qfc A a b c d 0) .ret (qmg e)]):
 Rt 344 [cS 4 A,.agg [I a,I b,I c,I d]] [cI e]:=
 h.of
theorem qxT(h:Oo [.l [] [8,7,3,0] [3] (qaa f344 0) (qfc A a b c d 0) (.exit 0) qqj]):
 Rt 344 [cS 4 A,.agg [I a,I b,I c,I d]] [cI (-1)]:=
 h.of
theorem qxU(h:Oo [.r 301 [cS 4 A] [cS 4 C],.r 312 [cS 4 A,.agg [I a,I b,I c,I d]] [cB q],.b q true]):
 Rt 268 [cS 4 A,.agg [I a,I b,I c,I d]] [cS 4 C]:=
 h.of
def qfd(A:LL)(a b c d:Int)(C:LL)(e:Int):St:=
 { env:=envOf 33 [(0,vF 4 A),(3,vP 3),(5,PV.al (AL.one (lO 90000 4 C))),(6,vI e)],boxes:=[(3,[lI a,lI b,lI c,lI d])] }
theorem qxV(h:Oo (y0g A a j k f g [.r 313 [.agg [I j,I k,I f,I g],.agg [I b,I c,I d,I e]] [cI i],.b (decide (i<0)) true,.u a])):
 Tp (qaa f268 0) (qfd A b c d e C a) .normal (qfd A b c d e C (a+1)):=
 h.lp [6,0,3,5] [3]
def qhv(a b c d:Int)(A:LL)(e:Int):St:=
 { env:=envOf 33 [(3,vP 3),(5,PV.al (AL.one (lO 90000 4 A))),(6,vI e)],boxes:=[(3,[lI a,lI b,lI c,lI d])] }
theorem qxW(h:Oo (y0g A e j k f g [.r 313 [.agg [I j,I k,I f,I g],.agg [I a,I b,I c,I d]] [cI i],.b (decide (i<0)) false])):
 Tp (qaa f268 0) (qfd A a b c d C e) (.exit 0) (qhv a b c d C e):=
 h.lp [5,6,3] [3]
theorem qxX(h:Oo [.f A a false]):
 Tp (qaa f268 0) (qfd A b c d e C a) (.exit 0) (qhv b c d e C a):=
 h.lp [5,6,3] [3]
theorem qxY(h:Oo [.r 301 [cS 4 A] [cS 4 C],.r 312 [cS 4 A,.agg [I a,I b,I c,I d]] [cB q],.b q false,.l [] [6,0,3,5] [3] (qaa f268 0) (qfd A a b c d C 0) (.exit 0) (qhv a b c d C e),.a (.resG [[some none],[none],[some none]] 0 [] [cS 4 E]),.p (RetG prog 314 [GA.one (GC.gv 4 C none),GA.one (GC.ro (I e)),GA.one (GC.gv 4 [[I a,I b,I c,I d]] none)] [cS 4 E])]):
 Rt 268 [cS 4 A,.agg [I a,I b,I c,I d]] [cS 4 E]:=
 h.of
theorem qqk(h:Oo [.v ((A.length:Int)-1),.r 158 [cI a,cI 0,cI ((A.length:Int)-1)] [cB q]]):
 Rt 250 [.agg (gr A b c),cI a] [cB q]:=
 h.of
theorem qxZ(h:Oo [.b (a==d) true,.b (b==e) true]):
 Rt 330 [.agg [I a,I b,I c,I g],.agg [I d,I e,I f,I i]] [cB (c==f)]:=
 h.of
theorem qx0(h:Oo [.b (a==c) true,.b (b==d) false]):
 Rt 330 [.agg [I a,I b,I e,I f],.agg [I c,I d,I g,I i]] [cB false]:=
 h.of
theorem qx1(h:Oo [.b (a==b) false]):
 Rt 330 [.agg [I a,I c,I d,I e],.agg [I b,I f,I g,I i]] [cB false]:=
 h.of
theorem qx2(h:Oo [.r 330 [.agg [I e,I f,I g,I i],.agg [I a,I b,I c,I d]] [cB q]]):
 Rt 329 [.agg [I a,I b,I c,I d],.one (.ptr [I e,I f,I g,I i])] [cB q]:=
 h.of
theorem qx3(A:LL)(g1:Nat)(k2:List D)(a:Int)(h:Oo [.r 343 [cS 4 A,.one (.cl g1 k2)] [cI a],.b (a==-1) true]):
 Rg 328 [GA.one (GC.gv 4 A none),GA.one (GC.ro (D.cl g1 k2))] [cS 4 A]:=
 h.ofG
def qef(g0:Nat)(k1:List D)(a b:Int)(A:LL):St:=
 { env:=envOf 42 [(0,PV.al (AL.one (lO 1000000000 4 A))),(1,.al (.one (.fd (D.cl g0 k1)))),(5,vI b),(6,vI a)],boxes:=[] }
theorem qx4(g1:Nat)(k2:List D)(b a:Int)(A:LL)(d e f c:Int)(q:Bool)(d12 d13 d14 d15:D)(h:Oo [.i A b [I d,I e,I f,I c],.p (qaT prog g1=true),.r g1 ([.agg [I d,I e,I f,I c]]++List.map .one k2) [cB q],.n q true,.x A a [d12,d13,d14,d15],.u a,.u b]):
 Tp (qaa f328 0) (qef g1 k2 b a A) .normal (qef g1 k2 (b+1) (a+1) (A.set a.toNat [I d,I e,I f,I c])):=
 h.lp [6,0,1,5] []
theorem qx5(g1:Nat)(k2:List D)(a c:Int)(A:LL)(d e f b:Int)(q:Bool)(h:Oo [.i A a [I d,I e,I f,I b],.p (qaT prog g1=true),.r g1 ([.agg [I d,I e,I f,I b]]++List.map .one k2) [cB q],.n q false,.u a]):
 Tp (qaa f328 0) (qef g1 k2 a c A) .normal (qef g1 k2 (a+1) c A):=
 h.lp [6,0,1,5] []
def qmh(A:LL)(a:Int):St:=
 { env:=envOf 42 [(0,PV.al (AL.one (lO 1000000000 4 A))),(5,vI a)],boxes:=[] }
theorem qx6(g1:Nat)(k2:List D)(a b:Int)(A:LL)(h:Oo [.f A a false]):
 Tp (qaa f328 0) (qef g1 k2 a b A) (.exit 0) (qmh A b):=
 h.lp [0,5] []
theorem qx7(C:LL)(g1:Nat)(k2:List D)(b:Int)(A:LL)(a:Int)(h:Oo [.r 343 [cS 4 C,.one (.cl g1 k2)] [cI b],.b (b==-1) false,.u b,.l [] [6,0,1,5] [] (qaa f328 0) (qef g1 k2 (b+1) b C) (.exit 0) (qmh A a),.a .own,.p (0≤(some a).getD 0),.p ((some a).getD 0<(A.length:Int)),.h A,.p ((0:Int)≤none.getD 0),.p (none.getD 0≤(some a).getD (↑(List.take ((some a).getD 0).toNat A++List.replicate (A.length-((some a).getD 0).toNat) [I 0,I 0,I 0,I 0]).length:Int)),.p ((some a).getD (↑(List.take ((some a).getD 0).toNat A++List.replicate (A.length-((some a).getD 0).toNat) [I 0,I 0,I 0,I 0]).length:Int)≤(↑(List.take ((some a).getD 0).toNat A++List.replicate (A.length-((some a).getD 0).toNat) [I 0,I 0,I 0,I 0]).length:Int))]):
 Rg 328 [GA.one (GC.gv 4 C none),GA.one (GC.ro (D.cl g1 k2))] [.one (.sl 4 (List.take (((some a).getD (↑(List.take ((some a).getD 0).toNat A++List.replicate (A.length-((some a).getD 0).toNat) [I 0,I 0,I 0,I 0]).length:Int)).toNat-0) (List.drop 0 (List.take ((some a).getD 0).toNat A++List.replicate (A.length-((some a).getD 0).toNat) [I 0,I 0,I 0,I 0]))))]:=
 h.ofG
def qcG(A:LL)(a b c d:Int)(q:Bool)(e:Int):St:=
 { env:=envOf 41 [(1,vI a),(2,vI b),(3,vI c),(10,vI e),(11,.al (.one (.sb q))),(14,vF 4 A),(15,vI (A.length:Int)),(16,vI d)],boxes:=[] }
def y0h(A:LL)(a b c d e f g i:Int)(q:Bool)(l:List O):List O:=y0g A a b c d e (.r 330 [.agg [I b,I c,I d,I e],.agg [I f,I g,I i,I 0]] [cB q]::l)
theorem qx8(h:Oo (y0h A a f g i c b d e q [.b q true,.n r true,.u a])):
 Tp (qaa f327 0) (qcG A b d e a r j) .normal (qcG A b d e (a+1) true c):=
 h.lp [16,15,14,1,2,3,11,10] []
theorem qx9(h:Oo (y0h A b g i j a c d e q [.b q true,.n r false,.b (decide (a<f)) true,.u b])):
 Tp (qaa f327 0) (qcG A c d e b r f) .normal (qcG A c d e (b+1) true a):=
 h.lp [16,15,14,1,2,3,11,10] []
theorem qya(h:Oo (y0h A a g i j c b d e r [.b r true,.n q false,.b (decide (c<f)) false,.u a])):
 Tp (qaa f327 0) (qcG A b d e a q f) .normal (qcG A b d e (a+1) q f):=
 h.lp [16,15,14,1,2,3,11,10] []
theorem qyb(h:Oo (y0h A a g i j e b c d q [.b q false,.u a])):
 Tp (qaa f327 0) (qcG A b c d a r f) .normal (qcG A b c d (a+1) r f):=
 h.lp [16,15,14,1,2,3,11,10] []
def qql(a:Int)(q:Bool):St:=
 { env:=envOf 41 [(10,vI a),(11,.al (.one (.sb q)))],boxes:=[] }
theorem qyc(h:Oo [.f A a false]):
 Tp (qaa f327 0) (qcG A c d e a q b) (.exit 0) (qql b q):=
 h.lp [10,11] []
theorem qyd(h:Oo [.l [] [16,15,14,1,2,3,11,10] [] (qaa f327 0) (qcG A a b c 0 false 0) (.exit 0) (qql d q)]):
 Rt 327 [cS 4 A,cI a,cI b,cI c] [cI d,cB q]:=
 h.of
theorem qye(h:Oo [.r 327 [cS 4 A,cI a,cI b,cI c] [cI e,cB q],.b q true,.b (decide (e≤d)) true,.r 301 [cS 4 A] [cS 4 C]]):
 Rt 307 [cS 4 A,.agg [I a,I b,I c,I d]] [cS 4 C,cB false]:=
 h.of
theorem qyf(h:Oo [.r 327 [cS 4 A,cI a,cI b,cI c] [cI e,cB q],.b q true,.b (decide (e≤d)) false,.r 301 [cS 4 A] [cS 4 F],.a (.resG [[some none],[none]] 0 [] [cS 4 C]),.p (RetG prog 328 [GA.one (GC.gv 4 F none),GA.one (GC.ro (D.cl 329 [D.ptr [I a,I b,I c,I d]]))] [cS 4 C]),.r 268 [cS 4 C,.agg [I a,I b,I c,I d]] [cS 4 E]]):
 Rt 307 [cS 4 A,.agg [I a,I b,I c,I d]] [cS 4 E,cB true]:=
 h.of
theorem qyg(h:Oo [.r 327 [cS 4 A,cI a,cI b,cI c] [cI e,cB q],.b q false,.r 301 [cS 4 A] [cS 4 F],.a (.resG [[some none],[none]] 0 [] [cS 4 C]),.p (RetG prog 328 [GA.one (GC.gv 4 F none),GA.one (GC.ro (D.cl 329 [D.ptr [I a,I b,I c,I d]]))] [cS 4 C]),.r 268 [cS 4 C,.agg [I a,I b,I c,I d]] [cS 4 E]]):
 Rt 307 [cS 4 A,.agg [I a,I b,I c,I d]] [cS 4 E,cB true]:=
 h.of
theorem qyh(h:Oo [.b (a==5) true,.b (a==5) true,.r 307 [cS 4 A,.agg [I b,I c,I d,I e]] [cS 4 C,cB q]]):
 Rt 303 [cI a,cS 4 A,.agg [I b,I c,I d,I e]] [cS 4 C,cB q]:=
 h.of
theorem qyi(h:Oo [.b (a==5) false,.b (a==8) true,.r 307 [cS 4 A,.agg [I b,I c,I d,I e]] [cS 4 C,cB q]]):
 Rt 303 [cI a,cS 4 A,.agg [I b,I c,I d,I e]] [cS 4 C,cB q]:=
 h.of
theorem qyj(h:Oo [.b (a==5) false,.b (a==8) false,.b (a==6) true,.r 268 [cS 4 A,.agg [I b,I c,I d,I e]] [cS 4 C],.r 312 [cS 4 A,.agg [I b,I c,I d,I e]] [cB q]]):
 Rt 303 [cI a,cS 4 A,.agg [I b,I c,I d,I e]] [cS 4 C,.one (B !q)]:=
 h.of
theorem qyk(h:Oo [.b (a==5) false,.b (a==8) false,.b (a==6) false,.r 301 [cS 4 A] [cS 4 C]]):
 Rt 303 [cI a,cS 4 A,.agg [I b,I c,I d,I e]] [cS 4 C,cB true]:=
 h.of
def qfe(a b c d e:Int):St:=
 { env:=envOf 41 [(5,.al (.one (.sl (.own 27) 1 [[I a],[I b],[I c],[I d]]))),(6,vI e)],boxes:=[] }
def qmi(a:Int):St:=
 { env:=envOf 41 [(4,vI a)],boxes:=[] }
theorem qyl(h:Oo [.b (decide (a<4)) true,.x [[I d],[I e],[I b],[I c]] a [I f],.b (f != 0) true,.x [[I d],[I e],[I b],[I c]] a [I g]]):
 Tp (qaa f306 0) (qfe d e b c a) .ret (qmi g):=
 h.lp [4] []
theorem qym(h:Oo [.b (decide (a<4)) true,.x [[I d],[I e],[I b],[I c]] a [I f],.b (f != 0) false,.u a]):
 Tp (qaa f306 0) (qfe d e b c a) .normal (qfe d e b c (a+1)):=
 h.lp [6,5] []
def qqm:St:=
 { env:=envOf 41 [],boxes:=[] }
theorem qyn(h:Oo [.b (decide (a<4)) false]):
 Tp (qaa f306 0) (qfe d e b c a) (.exit 0) qqm:=
 h.lp [] []
theorem qyo(h:Oo [.r 322 [cI b,cI j] [cI m],.r 322 [cI a,cI i] [cI n],.r 322 [cI f,cI k] [cI c],.r 322 [cI g,cI l] [cI d],.l [] [6,5] [] (qaa f306 0) (qfe m n c d 0) .ret (qmi e)]):
 Rt 306 [.agg [I a,I b,I f,I g],.agg [I i,I j,I k,I l]] [cI e]:=
 h.of
theorem qyp(h:Oo [.r 322 [cI b,cI i] [cI l],.r 322 [cI a,cI g] [cI m],.r 322 [cI e,cI j] [cI c],.r 322 [cI f,cI k] [cI d],.l [] [6,5] [] (qaa f306 0) (qfe l m c d 0) (.exit 0) qqm]):
 Rt 306 [.agg [I a,I b,I e,I f],.agg [I g,I i,I j,I k]] [cI 0]:=
 h.of
def qff(A:LL)(a b c d e:Int):St:=
 { env:=envOf 18 [(0,vF 4 A),(3,vP 3),(5,vI e)],boxes:=[(3,[lI a,lI b,lI c,lI d])] }
def qmj(q:Bool):St:=
 { env:=envOf 18 [(4,.al (.one (.sb q)))],boxes:=[] }
theorem qyq(h:Oo (y0g A e f g i j [.b (f==a&&(g==b&&(i==c&&j==d))) true])):
 Tp (qaa f305 0) (qff A a b c d e) .ret (qmj true):=
 h.lp [4] []
theorem qyr(h:Oo (y0g A a f g i j [.b (f==b&&(g==c&&(i==d&&j==e))) false,.u a])):
 Tp (qaa f305 0) (qff A b c d e a) .normal (qff A b c d e (a+1)):=
 h.lp [5,0,3] [3]
def qqn:St:=
 { env:=envOf 18 [],boxes:=[] }
theorem qys(h:Oo [.f A a false]):
 Tp (qaa f305 0) (qff A b c d e a) (.exit 0) qqn:=
 h.lp [] []
theorem qyt(h:Oo [.l [] [5,0,3] [3] (qaa f305 0) (qff A a b c d 0) .ret (qmj q)]):
 Rt 305 [cS 4 A,.agg [I a,I b,I c,I d]] [cB q]:=
 h.of
theorem qyu(h:Oo [.l [] [5,0,3] [3] (qaa f305 0) (qff A a b c d 0) (.exit 0) qqn]):
 Rt 305 [cS 4 A,.agg [I a,I b,I c,I d]] [cB false]:=
 h.of
theorem qyv(h:Oo [.r 305 [cS 4 A,.agg [I a,I b,I c,I d]] [cB q],.b q true,.g ([]:LL) A 32,.h A]):
 Rt 249 [cS 4 A,.agg [I a,I b,I c,I d]] [cS 4 ([]++A)]:=
 h.of
def qfg(A:LL)(a b c d e:Int):St:=
 { env:=envOf 41 [(0,vF 4 A),(3,vP 3),(5,vI e)],boxes:=[(3,[lI a,lI b,lI c,lI d])] }
theorem qyw(h:Oo (y0g A a i j k f [.r 306 [.agg [I i,I j,I k,I f],.agg [I b,I c,I d,I e]] [cI g],.b (decide (g<0)) true,.u a])):
 Tp (qaa f249 0) (qfg A b c d e a) .normal (qfg A b c d e (a+1)):=
 h.lp [5,0,3] [3]
def qhw(A:LL)(a b c d e:Int):St:=
 { env:=envOf 41 [(0,vF 4 A),(3,vP 3),(5,vI e)],boxes:=[(3,[lI a,lI b,lI c,lI d])] }
theorem qyx(h:Oo (y0g A e i j k f [.r 306 [.agg [I i,I j,I k,I f],.agg [I a,I b,I c,I d]] [cI g],.b (decide (g<0)) false])):
 Tp (qaa f249 0) (qfg A a b c d e) (.exit 0) (qhw A a b c d e):=
 h.lp [0,5,3] [3]
theorem qyy(h:Oo [.f A a false]):
 Tp (qaa f249 0) (qfg A b c d e a) (.exit 0) (qhw A b c d e a):=
 h.lp [0,5,3] [3]
theorem qyz(h:Oo [.r 305 [cS 4 A,.agg [I b,I c,I d,I e]] [cB q],.b q false,.l [] [5,0,3] [3] (qaa f249 0) (qfg A b c d e 0) (.exit 0) (qhw A b c d e a),.p ((0:Int)≤none.getD 0),.p (none.getD 0≤(some a).getD (A.length:Int)),.p ((some a).getD (A.length:Int)≤(A.length:Int)),.p ((([]:LL).length+(List.take (((some a).getD (A.length:Int)).toNat-0) (List.drop 0 A)).length)*32≤140737488355328),.p (([]:LL).length+(List.take (((some a).getD (A.length:Int)).toNat-0) (List.drop 0 A)).length≤9223372036854775807),.p (Flat (List.take (((some a).getD (A.length:Int)).toNat-0) (List.drop 0 A))),.p ((([]++List.take (((some a).getD (A.length:Int)).toNat-0) (List.drop 0 A)).length+[[I b,I c,I d,I e]].length)*32≤140737488355328),.p (([]++List.take (((some a).getD (A.length:Int)).toNat-0) (List.drop 0 A)).length+[[I b,I c,I d,I e]].length≤9223372036854775807),.h [[I b,I c,I d,I e]],.p (0≤(some a).getD 0),.p ((some a).getD 0≤none.getD (A.length:Int)),.p (none.getD (A.length:Int)≤(A.length:Int)),.p ((([]++List.take (((some a).getD (A.length:Int)).toNat-0) (List.drop 0 A)++[[I b,I c,I d,I e]]).length+(List.take (A.length-((some a).getD 0).toNat) (List.drop ((some a).getD 0).toNat A)).length)*32≤140737488355328),.p (([]++List.take (((some a).getD (A.length:Int)).toNat-0) (List.drop 0 A)++[[I b,I c,I d,I e]]).length+(List.take (A.length-((some a).getD 0).toNat) (List.drop ((some a).getD 0).toNat A)).length≤9223372036854775807),.p (Flat (List.take (A.length-((some a).getD 0).toNat) (List.drop ((some a).getD 0).toNat A)))]):
 Rt 249 [cS 4 A,.agg [I b,I c,I d,I e]] [.one (.sl 4 ([]++List.take (((some a).getD (A.length:Int)).toNat-0) (List.drop 0 A)++[[I b,I c,I d,I e]]++List.take (A.length-((some a).getD 0).toNat) (List.drop ((some a).getD 0).toNat A)))]:=
 h.of
theorem qyA(h:Oo [.v ((A.length:Int)-1),.r 167 [cI a,cI 0,cI ((A.length:Int)-1)] [cB q],.n q true]):
 Rt 248 [.agg (gr A b c),cI a] [.agg (nd 0 0 0 []),cB false]:=
 h.of
theorem qyB(h:Oo [.v ((A.length:Int)-1),.r 167 [cI a,cI 0,cI ((A.length:Int)-1)] [cB q],.n q false,.x A a (nd b c d C),.g ([]:LL) C 8,.h C]):
 Rt 248 [.agg (gr A e f),cI a] [.agg (nd b c d ([]++C)),cB true]:=
 h.of
def qbV(A:LL)(a b c d:Int)(q:Bool)(e:Int):St:=
 { env:=envOf 54 [(0,vF 4 A),(1,vI a),(2,vI b),(3,vI c),(10,vI e),(11,.al (.one (.sb q))),(12,vI d)],boxes:=[] }
theorem qyC(h:Oo (y0g A a f g i e [.b (f==b) true,.b (g==c) true,.b (i==d) true,.n q true,.u a])):
 Tp (qaa f324 0) (qbV A b c d a q j) .normal (qbV A b c d (a+1) true e):=
 h.lp [12,0,1,2,3,11,10] []
theorem qyD(h:Oo (y0g A a g i j c [.b (g==b) true,.b (i==d) true,.b (j==e) true,.n q false,.b (decide (c<f)) true,.u a])):
 Tp (qaa f324 0) (qbV A b d e a q f) .normal (qbV A b d e (a+1) true c):=
 h.lp [12,0,1,2,3,11,10] []
theorem qyE(h:Oo (y0g A a g i j f [.b (g==b) true,.b (i==c) true,.b (j==d) true,.n q false,.b (decide (f<e)) false,.u a])):
 Tp (qaa f324 0) (qbV A b c d a q e) .normal (qbV A b c d (a+1) q e):=
 h.lp [12,0,1,2,3,11,10] []
theorem qyF(h:Oo (y0g A a f g i j [.b (f==b) true,.b (g==c) true,.b (i==d) false,.u a])):
 Tp (qaa f324 0) (qbV A b c d a q e) .normal (qbV A b c d (a+1) q e):=
 h.lp [12,0,1,2,3,11,10] []
theorem qyG(h:Oo (y0g A a f g j i [.b (f==b) true,.b (g==c) false,.u a])):
 Tp (qaa f324 0) (qbV A b c d a q e) .normal (qbV A b c d (a+1) q e):=
 h.lp [12,0,1,2,3,11,10] []
theorem qyH(h:Oo (y0g A a f i j g [.b (f==b) false,.u a])):
 Tp (qaa f324 0) (qbV A b c d a q e) .normal (qbV A b c d (a+1) q e):=
 h.lp [12,0,1,2,3,11,10] []
def qqo(a:Int)(q:Bool):St:=
 { env:=envOf 54 [(10,vI a),(11,.al (.one (.sb q)))],boxes:=[] }
theorem qyI(h:Oo [.f A a false]):
 Tp (qaa f324 0) (qbV A c d e a q b) (.exit 0) (qqo b q):=
 h.lp [10,11] []
theorem qyJ(h:Oo [.l [] [12,0,1,2,3,11,10] [] (qaa f324 0) (qbV A a b c 0 false 0) (.exit 0) (qqo d q)]):
 Rt 324 [cS 4 A,cI a,cI b,cI c] [cI d,cB q]:=
 h.of
theorem qyK(h:Oo [.b (a==5) true]):
 Rt 294 [cI a] [cB true]:=
 h.of
theorem qyL(h:Oo [.b (a==5) false,.b (a==6) true]):
 Rt 294 [cI a] [cB true]:=
 h.of
theorem qyM(h:Oo [.b (a==5) false,.b (a==6) false]):
 Rt 294 [cI a] [cB (a==8)]:=
 h.of
theorem qyN(h:Oo (y0c A [.b (a==6) true,.r 305 [cS 4 A,.agg [I b,I c,I d,I e]] [cB q],.b q true])):
 Rt 295 [cI a,cS 4 A,.agg [I b,I c,I d,I e]] [cS 4 ([]++A),cB false]:=
 h.of
theorem qyO(h:Oo (y0c A [.b (e==6) true,.r 305 [cS 4 A,.agg [I a,I b,I c,I d]] [cB q],.b q false,.r 249 [cS 4 A,.agg [I a,I b,I c,I d]] [cS 4 C]])):
 Rt 295 [cI e,cS 4 A,.agg [I a,I b,I c,I d]] [cS 4 C,cB true]:=
 h.of
def y0d(A:LL)(a:Int)(l:List O):List O:=y0c A (.b (a==6) false::l)
def y0e(A:LL)(a b c d e:Int)(q:Bool)(l:List O):List O:=y0d A a (.b (a==5) true::.b (a==5) true::.r 324 [cS 4 A,cI b,cI c,cI d] [cI e,cB q]::l)
theorem qyP(h:Oo (y0e A a b c d f q [.b q true,.b (decide (f≤e)) true])):
 Rt 295 [cI a,cS 4 A,.agg [I b,I c,I d,I e]] [cS 4 ([]++A),cB false]:=
 h.of
def qbW(A:LL)(a b c d e:Int)(C:LL):St:=
 { env:=envOf 94 [(1,vF 4 A),(5,vP 5),(11,PV.al (AL.one (lO 48 4 C))),(12,vI e)],boxes:=[(5,[lI a,lI b,lI c,lI d])] }
theorem qyQ(h:Oo (y0g A a g l m n [.b (g != f) true,.x A a [I b,I c,I d,I e],.g C [[I b,I c,I d,I e]] 32,.h [[I b,I c,I d,I e]],.u a])):
 Tp (qaa f295 0) (qbW A f i j k a C) .normal (qbW A f i j k (a+1) (C++[[I b,I c,I d,I e]])):=
 h.lp [12,1,5,11] [5]
theorem qyR(h:Oo (y0g A a i m n o [.b (i != f) false,.x A a [I p,I j,I a0,I b0],.b (j != g) true,.x A a [I b,I c,I d,I e],.g C [[I b,I c,I d,I e]] 32,.h [[I b,I c,I d,I e]],.u a])):
 Tp (qaa f295 0) (qbW A f g k l a C) .normal (qbW A f g k l (a+1) (C++[[I b,I c,I d,I e]])):=
 h.lp [12,1,5,11] [5]
theorem qyS(h:Oo (y0g A a j n o p [.b (j != f) false,.x A a [I a0,I k,I b0,I c0],.b (k != g) false,.x A a [I d0,I e0,I l,I f0],.b (l != i) true,.x A a [I b,I c,I d,I e],.g C [[I b,I c,I d,I e]] 32,.h [[I b,I c,I d,I e]],.u a])):
 Tp (qaa f295 0) (qbW A f g i m a C) .normal (qbW A f g i m (a+1) (C++[[I b,I c,I d,I e]])):=
 h.lp [12,1,5,11] [5]
theorem qyT(h:Oo (y0g A a e j k l [.b (e != b) false,.x A a [I m,I f,I n,I o],.b (f != c) false,.x A a [I p,I a0,I g,I b0],.b (g != d) false,.u a])):
 Tp (qaa f295 0) (qbW A b c d i a C) .normal (qbW A b c d i (a+1) C):=
 h.lp [12,1,5,11] [5]
def qgi(a b c d:Int)(A:LL):St:=
 { env:=envOf 94 [(5,vP 5),(11,PV.al (AL.one (lO 48 4 A)))],boxes:=[(5,[lI a,lI b,lI c,lI d])] }
theorem qyU(h:Oo [.f A e false]):
 Tp (qaa f295 0) (qbW A a b c d e C) (.exit 1) (qgi a b c d C):=
 h.lp [11,5] [5]
theorem qyV(h:Oo (y0e A e a b c f q [.b q true,.b (decide (f≤d)) false,.l [] [12,1,5,11] [5] (qaa f295 0) (qbW A a b c d 0 []) (.exit 1) (qgi a b c d C),.r 249 [cS 4 C,.agg [I a,I b,I c,I d]] [cS 4 E]])):
 Rt 295 [cI e,cS 4 A,.agg [I a,I b,I c,I d]] [cS 4 E,cB true]:=
 h.of
theorem qyW(h:Oo (y0e A d a b c f q [.b q false,.l [] [12,1,5,11] [5] (qaa f295 0) (qbW A a b c e 0 []) (.exit 1) (qgi a b c e C),.r 249 [cS 4 C,.agg [I a,I b,I c,I e]] [cS 4 E]])):
 Rt 295 [cI d,cS 4 A,.agg [I a,I b,I c,I e]] [cS 4 E,cB true]:=
 h.of
def y0f(A:LL)(a b c d e:Int)(q:Bool)(l:List O):List O:=y0d A a (.b (a==5) false::.b (a==8) true::.r 324 [cS 4 A,cI b,cI c,cI d] [cI e,cB q]::l)
theorem qyX(h:Oo (y0f A a b c d f q [.b q true,.b (decide (f≤e)) true])):
 Rt 295 [cI a,cS 4 A,.agg [I b,I c,I d,I e]] [cS 4 ([]++A),cB false]:=
 h.of
theorem qyY(h:Oo (y0f A e a b c f q [.b q true,.b (decide (f≤d)) false,.l [] [12,1,5,11] [5] (qaa f295 0) (qbW A a b c d 0 []) (.exit 1) (qgi a b c d C),.r 249 [cS 4 C,.agg [I a,I b,I c,I d]] [cS 4 E]])):
 Rt 295 [cI e,cS 4 A,.agg [I a,I b,I c,I d]] [cS 4 E,cB true]:=
 h.of
theorem qyZ(h:Oo (y0f A d a b c f q [.b q false,.l [] [12,1,5,11] [5] (qaa f295 0) (qbW A a b c e 0 []) (.exit 1) (qgi a b c e C),.r 249 [cS 4 C,.agg [I a,I b,I c,I e]] [cS 4 E]])):
 Rt 295 [cI d,cS 4 A,.agg [I a,I b,I c,I e]] [cS 4 E,cB true]:=
 h.of
theorem qy0(h:Oo (y0d A a [.b (a==5) false,.b (a==8) false])):
 Rt 295 [cI a,cS 4 A,.agg [I b,I c,I d,I e]] [cS 4 ([]++A),cB true]:=
 h.of
end Go.Proofs.YtdkobdhckkjmeaaGreat
