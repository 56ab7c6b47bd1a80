import Derived.Test.YtdkobdhckkjmeaaGreatRows
import Derived.Test.YtdkobdhckkjmeaaGreatGE
set_option linter.unusedVariables false
set_option linter.unusedSimpArgs false
namespace Go.Proofs.YtdkobdhckkjmeaaGreat
open Go.Sx Go.RowKit
variable {a b c d e f g i j k l : Int} {A C E F : LL} {q r s t : Bool}
def y0I(A:LL)(q:Bool)(l:List O):List O:=.r 167 [cI (A.length:Int),cI 1,cI 8] [cB q]::l
theorem qzT(h:Oo (y0I A q [.n q true])):
 Rt 121 [.agg (gr A a b)] [cB false]:=
 h.of
def y0J(A:LL)(q:Bool)(a:Int)(r:Bool)(l:List O):List O:=y0I A q (.n q false::.r 167 [cI a,cI 1,cI 4] [cB r]::l)
theorem qzU(h:Oo (y0J A q a r [.n r true])):
 Rt 121 [.agg (gr A a b)] [cB false]:=
 h.of
theorem qzV(h:Oo (y0J A q a r [.n r false,.r 167 [cI b,cI 1,cI 4] [cB s],.n s true])):
 Rt 121 [.agg (gr A a b)] [cB false]:=
 h.of
def qcH(a:Int)(A:LL)(b c:Int):St:=
 { env:=envOf 97 [(1,vP 1),(3,vI a)],boxes:=[(1,[.sl .free 4 A,lI b,lI c])] }
def qfh(q:Bool):St:=
 { env:=envOf 97 [(2,.al (.one (.sb q)))],boxes:=[] }
def y0K(A:LL)(a b c d:Int)(C:LL)(q:Bool)(l:List O):List O:=.i A a (nd b c d C)::.r 243 [.agg (nd b c d C)] [cB q]::l
theorem qzW(h:Oo (y0K C d a b c A q [.n q true])):
 Tp (qaa Tryz.f121 0) (qcH d C e f) .ret (qfh false):=
 h.lp [2] []
theorem qzX(h:Oo (y0K C b a c d A q [.n q false,.b (!(a==1)==(b==0)) true])):
 Tp (qaa Tryz.f121 0) (qcH b C e f) .ret (qfh false):=
 h.lp [2] []
def qbh(a:Int)(A:LL)(b c d e f:Int)(C:LL)(g:Int):St:=
 { env:=envOf 97 [(1,vP 1),(3,vI a),(4,vP 4),(5,vI g)],boxes:=[(4,[lI d,lI e,lI f,.sl .free 1 C]),(1,[.sl .free 4 A,lI b,lI c])] }
def qdp(q:Bool):St:=
 { env:=envOf 97 [(2,.al (.one (.sb q)))],boxes:=[] }
theorem qzY(h:Oo [.i A a [I b],.b (decide (b≥(C.length:Int))) true]):
 Tp (qaa Tryz.f121 1) (qbh f C g i c d e A a) .ret (qdp false):=
 h.lp [2] []
def y0M(A:LL)(a b:Int)(C:LL)(l:List O):List O:=.i A a [I b]::.b (decide (b≥(C.length:Int))) false::l
theorem qzZ(h:Oo (y0M A c a C [.b (b != 7) true,.b (decide (a≤d)) true])):
 Tp (qaa Tryz.f121 1) (qbh d C g i b e f A c) .ret (qdp false):=
 h.lp [2] []
def y0N(A:LL)(a b:Int)(C:LL)(c d e f g:Int)(E:LL)(l:List O):List O:=y0M A a b C (.b (c != 7) true::.b (decide (b≤d)) false::.x C b (nd e f g E)::l)
theorem qz0(h:Oo (y0N C d a A b c g i j E [.b (b==7) true,.b (decide (a>c)) true])):
 Tp (qaa Tryz.f121 1) (qbh c A k l b e f C d) .ret (qdp false):=
 h.lp [2] []
theorem qz1(h:Oo (y0N C e a A b d c i j E [.b (b==7) true,.b (decide (a>d)) false,.b (c != 5) true,.b (c != 6) true])):
 Tp (qaa Tryz.f121 1) (qbh d A k l b f g C e) .ret (qdp false):=
 h.lp [2] []
theorem qz2(h:Oo (y0N C c a A b d e k l E [.b (b==7) true,.b (decide (a>d)) false,.b (e != 5) true,.b (e != 6) false,.u c])):
 Tp (qaa Tryz.f121 1) (qbh d A i j b f g C c) .normal (qbh d A i j b f g C (c+1)):=
 h.lp [5,4,1,3] [4,1]
theorem qz3(h:Oo (y0N C c a A b d g k l E [.b (b==7) true,.b (decide (a>d)) false,.b (g != 5) false,.u c])):
 Tp (qaa Tryz.f121 1) (qbh d A i j b e f C c) .normal (qbh d A i j b e f C (c+1)):=
 h.lp [5,4,1,3] [4,1]
theorem qz4(h:Oo (y0N C b c A a d j k l E [.b (a==7) false,.u b])):
 Tp (qaa Tryz.f121 1) (qbh d A g i a e f C b) .normal (qbh d A g i a e f C (b+1)):=
 h.lp [5,4,1,3] [4,1]
def y0O(A:LL)(a b:Int)(C:LL)(c d e f:Int)(E:LL)(l:List O):List O:=y0M A a b C (.b (c != 7) false::.x C b (nd d e f E)::l)
theorem qz5(h:Oo (y0O C c a A b g i j E [.b (b==7) true,.b (decide (a>d)) true])):
 Tp (qaa Tryz.f121 1) (qbh d A k l b e f C c) .ret (qdp false):=
 h.lp [2] []
theorem qz6(h:Oo (y0O C d a A b c i j E [.b (b==7) true,.b (decide (a>e)) false,.b (c != 5) true,.b (c != 6) true])):
 Tp (qaa Tryz.f121 1) (qbh e A k l b f g C d) .ret (qdp false):=
 h.lp [2] []
theorem qz7(h:Oo (y0O C b c A a d k l E [.b (a==7) true,.b (decide (c>e)) false,.b (d != 5) true,.b (d != 6) false,.u b])):
 Tp (qaa Tryz.f121 1) (qbh e A i j a f g C b) .normal (qbh e A i j a f g C (b+1)):=
 h.lp [5,4,1,3] [4,1]
theorem qz8(h:Oo (y0O C b c A a g k l E [.b (a==7) true,.b (decide (c>d)) false,.b (g != 5) false,.u b])):
 Tp (qaa Tryz.f121 1) (qbh d A i j a e f C b) .normal (qbh d A i j a e f C (b+1)):=
 h.lp [5,4,1,3] [4,1]
theorem qz9(h:Oo (y0O C b c A a j k l E [.b (a==7) false,.u b])):
 Tp (qaa Tryz.f121 1) (qbh f A g i a d e C b) .normal (qbh f A g i a d e C (b+1)):=
 h.lp [5,4,1,3] [4,1]
def qmu(a:Int)(A:LL)(b c:Int):St:=
 { env:=envOf 97 [(1,vP 1),(3,vI a)],boxes:=[(1,[.sl .free 4 A,lI b,lI c])] }
theorem qAa(h:Oo [.f A a false]):
 Tp (qaa Tryz.f121 1) (qbh b C c d e f g A a) (.exit 2) (qmu b C c d):=
 h.lp [3,1] [1]
theorem qAb(h:Oo (y0K C b a c d A q [.n q false,.b (!(a==1)==(b==0)) false,.l [] [5,4,1,3] [4,1] (qaa Tryz.f121 1) (qbh b C e f a c d A 0) .ret (qdp r)])):
 Tp (qaa Tryz.f121 0) (qcH b C e f) .ret (qfh r):=
 h.lp [2] []
theorem qAc(h:Oo (y0K A a b e f C q [.n q false,.b (!(b==1)==(a==0)) false,.l [] [5,4,1,3] [4,1] (qaa Tryz.f121 1) (qbh a A c d b e f C 0) (.exit 2) (qmu a A c d),.u a])):
 Tp (qaa Tryz.f121 0) (qcH a A c d) .normal (qcH (a+1) A c d):=
 h.lp [3,1] [1]
def qmv:St:=
 { env:=envOf 97 [],boxes:=[] }
theorem qAd(h:Oo [.f A a false]):
 Tp (qaa Tryz.f121 0) (qcH a A b c) (.exit 0) qmv:=
 h.lp [] []
theorem qAe(h:Oo (y0J A q a r [.n r false,.r 167 [cI b,cI 1,cI 4] [cB s],.n s false,.l [] [3,1] [1] (qaa Tryz.f121 0) (qcH 0 A a b) .ret (qfh t)])):
 Rt 121 [.agg (gr A a b)] [cB t]:=
 h.of
theorem qAf(h:Oo (y0J A q a r [.n r false,.r 167 [cI b,cI 1,cI 4] [cB s],.n s false,.l [] [3,1] [1] (qaa Tryz.f121 0) (qcH 0 A a b) (.exit 0) qmv])):
 Rt 121 [.agg (gr A a b)] [cB true]:=
 h.of
def y0R(A:LL)(q:Bool)(l:List O):List O:=.r 158 [cI (A.length:Int),cI 1,cI 8] [cB q]::l
theorem qAg(h:Oo (y0R A q [.n q true])):
 Rt 144 [.agg (gr A a b)] [cB false]:=
 h.of
def y0S(A:LL)(q:Bool)(a:Int)(r:Bool)(l:List O):List O:=y0R A q (.n q false::.r 158 [cI a,cI 1,cI 4] [cB r]::l)
theorem qAh(h:Oo (y0S A q a r [.n r true])):
 Rt 144 [.agg (gr A a b)] [cB false]:=
 h.of
theorem qAi(h:Oo (y0S A q a r [.n r false,.r 158 [cI b,cI 1,cI 4] [cB s],.n s true])):
 Rt 144 [.agg (gr A a b)] [cB false]:=
 h.of
def qcI(A:LL)(a:Int)(C:LL)(b c:Int):St:=
 { env:=envOf 90 [(1,vP 1),(26,vF 4 A),(27,vI (A.length:Int)),(28,vI a)],boxes:=[(1,[.sl .free 4 C,lI b,lI c])] }
def qfi(q:Bool):St:=
 { env:=envOf 90 [(2,.al (.one (.sb q)))],boxes:=[] }
def y0L(A:LL)(a b c d:Int)(C:LL)(q:Bool)(l:List O):List O:=.i A a (nd b c d C)::.r 255 [.agg (nd b c d C)] [cB q]::l
theorem qAj(h:Oo (y0L A d a b c C q [.n q true])):
 Tp (qaa Tryz.f144 0) (qcI A d E e f) .ret (qfi false):=
 h.lp [2] []
theorem qAk(h:Oo (y0L A b a c d C q [.n q false,.b (!(a==1)==(b==0)) true])):
 Tp (qaa Tryz.f144 0) (qcI A b E e f) .ret (qfi false):=
 h.lp [2] []
def qbi(C:LL)(a:Int)(E:LL)(b c d e f:Int)(A:LL)(g:Int):St:=
 { env:=envOf 90 [(1,vP 1),(3,vI a),(4,vP 4),(26,vF 4 C),(27,vI (C.length:Int)),(28,vI a),(45,vF 1 A),(46,vI (A.length:Int)),(47,vI g)],boxes:=[(4,[lI d,lI e,lI f,.sl .free 1 A]),(1,[.sl .free 4 E,lI b,lI c])] }
def qdq(q:Bool):St:=
 { env:=envOf 90 [(2,.al (.one (.sb q)))],boxes:=[] }
theorem qAl(h:Oo [.i A a [I b],.b (decide (b≥(C.length:Int))) true]):
 Tp (qaa Tryz.f144 1) (qbi E f C g i c d e A a) .ret (qdq false):=
 h.lp [2] []
def y0P(A:LL)(a b:Int)(C:LL)(c d e:Int)(E:LL)(l:List O):List O:=y0M A a b C (.x C b (nd c d e E)::l)
theorem qAm(h:Oo (y0P C c a A g i j F [.b (b==7) true,.b (decide (a>d)) true])):
 Tp (qaa Tryz.f144 1) (qbi E d A k l b e f C c) .ret (qdq false):=
 h.lp [2] []
def y0Q(A:LL)(a b:Int)(C:LL)(c d e:Int)(E:LL)(f g:Int)(l:List O):List O:=y0P A a b C c d e E (.b (f==7) true::.b (decide (b>g)) false::l)
theorem qAn(h:Oo (y0Q C d a A b i j F c e [.b (b != 5) true,.b (b != 6) true])):
 Tp (qaa Tryz.f144 1) (qbi E e A k l c f g C d) .ret (qdq false):=
 h.lp [2] []
theorem qAo(h:Oo (y0Q C e a A c i j F b d [.b (c != 5) true,.b (c != 6) false,.b (b != 7) true,.b (decide (a≤d)) true])):
 Tp (qaa Tryz.f144 1) (qbi E d A k l b f g C e) .ret (qdq false):=
 h.lp [2] []
theorem qAp(h:Oo (y0Q C c a A e k l F b d [.b (e != 5) true,.b (e != 6) false,.b (b != 7) true,.b (decide (a≤d)) false,.u c])):
 Tp (qaa Tryz.f144 1) (qbi E d A i j b f g C c) .normal (qbi E d A i j b f g C (c+1)):=
 h.lp [47,46,45,1,4,3,28,27,26] [4,1]
theorem qAq(h:Oo (y0Q C b c A d k l F a e [.b (d != 5) true,.b (d != 6) false,.b (a != 7) false,.u b])):
 Tp (qaa Tryz.f144 1) (qbi E e A i j a f g C b) .normal (qbi E e A i j a f g C (b+1)):=
 h.lp [47,46,45,1,4,3,28,27,26] [4,1]
theorem qAr(h:Oo (y0Q C d a A e i j F b c [.b (e != 5) false,.b (b != 7) true,.b (decide (a≤c)) true])):
 Tp (qaa Tryz.f144 1) (qbi E c A k l b f g C d) .ret (qdq false):=
 h.lp [2] []
theorem qAs(h:Oo (y0Q C c a A g k l F b d [.b (g != 5) false,.b (b != 7) true,.b (decide (a≤d)) false,.u c])):
 Tp (qaa Tryz.f144 1) (qbi E d A i j b e f C c) .normal (qbi E d A i j b e f C (c+1)):=
 h.lp [47,46,45,1,4,3,28,27,26] [4,1]
theorem qAt(h:Oo (y0Q C b c A g k l F a d [.b (g != 5) false,.b (a != 7) false,.u b])):
 Tp (qaa Tryz.f144 1) (qbi E d A i j a e f C b) .normal (qbi E d A i j a e f C (b+1)):=
 h.lp [47,46,45,1,4,3,28,27,26] [4,1]
theorem qAu(h:Oo (y0P C c a A g i j F [.b (b==7) false,.b (b != 7) true,.b (decide (a≤d)) true])):
 Tp (qaa Tryz.f144 1) (qbi E d A k l b e f C c) .ret (qdq false):=
 h.lp [2] []
theorem qAv(h:Oo (y0P C b c A j k l F [.b (a==7) false,.b (a != 7) true,.b (decide (c≤d)) false,.u b])):
 Tp (qaa Tryz.f144 1) (qbi E d A g i a e f C b) .normal (qbi E d A g i a e f C (b+1)):=
 h.lp [47,46,45,1,4,3,28,27,26] [4,1]
theorem qAw(h:Oo (y0P C b c A j k l F [.b (a==7) false,.b (a != 7) false,.u b])):
 Tp (qaa Tryz.f144 1) (qbi E f A g i a d e C b) .normal (qbi E f A g i a d e C (b+1)):=
 h.lp [47,46,45,1,4,3,28,27,26] [4,1]
def qmw(A:LL)(a:Int)(C:LL)(b c:Int):St:=
 { env:=envOf 90 [(1,vP 1),(26,vF 4 A),(27,vI (A.length:Int)),(28,vI a)],boxes:=[(1,[.sl .free 4 C,lI b,lI c])] }
theorem qAx(h:Oo [.f C a false]):
 Tp (qaa Tryz.f144 1) (qbi A b E c d e f g C a) (.exit 2) (qmw A b E c d):=
 h.lp [28,27,26,1] [1]
theorem qAy(h:Oo (y0L A b a c d C q [.n q false,.b (!(a==1)==(b==0)) false,.l [] [47,46,45,1,4,3,28,27,26] [4,1] (qaa Tryz.f144 1) (qbi A b E e f a c d C 0) .ret (qdq r)])):
 Tp (qaa Tryz.f144 0) (qcI A b E e f) .ret (qfi r):=
 h.lp [2] []
theorem qAz(h:Oo (y0L A a b e f E q [.n q false,.b (!(b==1)==(a==0)) false,.l [] [47,46,45,1,4,3,28,27,26] [4,1] (qaa Tryz.f144 1) (qbi A a C c d b e f E 0) (.exit 2) (qmw A a C c d),.u a])):
 Tp (qaa Tryz.f144 0) (qcI A a C c d) .normal (qcI A (a+1) C c d):=
 h.lp [28,27,26,1] [1]
def qmx:St:=
 { env:=envOf 90 [],boxes:=[] }
theorem qAA(h:Oo [.f A a false]):
 Tp (qaa Tryz.f144 0) (qcI A a C b c) (.exit 0) qmx:=
 h.lp [] []
theorem qAB(h:Oo (y0S A q a r [.n r false,.r 158 [cI b,cI 1,cI 4] [cB s],.n s false,.l [] [28,27,26,1] [1] (qaa Tryz.f144 0) (qcI A 0 A a b) .ret (qfi t)])):
 Rt 144 [.agg (gr A a b)] [cB t]:=
 h.of
theorem qAC(h:Oo (y0S A q a r [.n r false,.r 158 [cI b,cI 1,cI 4] [cB s],.n s false,.l [] [28,27,26,1] [1] (qaa Tryz.f144 0) (qcI A 0 A a b) (.exit 0) qmx])):
 Rt 144 [.agg (gr A a b)] [cB true]:=
 h.of
def y0T(a:Int)(q:Bool)(b c:Int)(r:Bool)(l:List O):List O:=.r 167 [cI a,cI 0,cI 7] [cB q]::.b q true::.r 244 [.agg [I b,I c]] [cB r]::l
theorem qAD(h:Oo (y0T a q b c r [.b r true,.r 167 [cI d,cI 0,cI 99] [cB s],.b s true,.r 167 [cI e,cI 0,cI 999] [cB t]])):
 Rt 122 [.agg (ri a b c d e)] [cB t]:=
 h.of
theorem qAE(h:Oo (y0T a q b c r [.b r true,.r 167 [cI d,cI 0,cI 99] [cB s],.b s false])):
 Rt 122 [.agg (ri a b c d e)] [cB false]:=
 h.of
theorem qAF(h:Oo (y0T a q b c r [.b r false])):
 Rt 122 [.agg (ri a b c d e)] [cB false]:=
 h.of
theorem qAG(h:Oo [.r 167 [cI a,cI 0,cI 7] [cB q],.b q false]):
 Rt 122 [.agg (ri a b c d e)] [cB false]:=
 h.of
theorem qAH(h:Oo [.r 158 [cI a,cI 0,cI 7] [cB q],.b q true,.r 256 [.agg [I b,I c]] [cB r],.b r true,.r 257 [cI d,cI e] [cB s]]):
 Rt 145 [.agg (ri a b c d e)] [cB s]:=
 h.of
theorem qAI(h:Oo [.r 158 [cI a,cI 0,cI 7] [cB q],.b q true,.r 256 [.agg [I b,I c]] [cB r],.b r false]):
 Rt 145 [.agg (ri a b c d e)] [cB false]:=
 h.of
theorem qAJ(h:Oo [.r 158 [cI a,cI 0,cI 7] [cB q],.b q false]):
 Rt 145 [.agg (ri a b c d e)] [cB false]:=
 h.of
theorem qAK(h:Oo [.r 167 [cI a,cI 0,cI 3] [cB q],.b q true,.r 167 [cI b,cI 0,cI 6] [cB r]]):
 Rt 244 [.agg [I a,I b]] [cB r]:=
 h.of
theorem qAL(h:Oo [.r 167 [cI a,cI 0,cI 3] [cB q],.b q false]):
 Rt 244 [.agg [I a,I b]] [cB false]:=
 h.of
theorem qAM(h:Oo [.r 158 [cI a,cI 0,cI 3] [cB q],.b q true,.r 158 [cI b,cI 0,cI 6] [cB r]]):
 Rt 256 [.agg [I a,I b]] [cB r]:=
 h.of
theorem qAN(h:Oo [.r 158 [cI a,cI 0,cI 3] [cB q],.b q false]):
 Rt 256 [.agg [I a,I b]] [cB false]:=
 h.of
theorem qAO(h:Oo [.r 244 [.agg [I a,I b]] [cB q],.n q true]):
 Rt 296 [.agg [I a,I b]] [.agg [I a,I b],cB false]:=
 h.of
theorem qAP(h:Oo [.r 244 [.agg [I b,I a]] [cB q],.n q false,.b (decide (a≥6)) true]):
 Rt 296 [.agg [I b,I a]] [.agg [I b,I a],cB false]:=
 h.of
theorem qAQ(h:Oo [.r 244 [.agg [I b,I a]] [cB q],.n q false,.b (decide (a≥6)) false,.u a]):
 Rt 296 [.agg [I b,I a]] [.agg [I b,I (a+1)],cB true]:=
 h.of
def y0U(a b c:Int)(A:LL)(q:Bool)(l:List O):List O:=.r 243 [.agg (nd a b c A)] [cB q]::l
theorem qAU(h:Oo (y0U a b c A q [.n q true])):
 Rt 293 [.agg (nd a b c A),cI d,cI e] [cI d,cI e,cB false]:=
 h.of
def y0V(a b c:Int)(A:LL)(q:Bool)(d:Int)(r:Bool)(l:List O):List O:=y0U a b c A q (.n q false::.r 167 [cI d,cI 0,cI 99] [cB r]::l)
theorem qAV(h:Oo (y0V b c d A q a r [.n r true])):
 Rt 293 [.agg (nd b c d A),cI a,cI e] [cI a,cI e,cB false]:=
 h.of
def y0W(a b c:Int)(A:LL)(q:Bool)(d:Int)(r:Bool)(e:Int)(s:Bool)(l:List O):List O:=y0V a b c A q d r (.n r false::.r 167 [cI e,cI 0,cI 999] [cB s]::l)
theorem qAW(h:Oo (y0W c d e A q a r b s [.n s true])):
 Rt 293 [.agg (nd c d e A),cI a,cI b] [cI a,cI b,cB false]:=
 h.of
theorem qAX(h:Oo (y0W c a e A q d r b s [.n s false,.b (c==2) true,.v (b+a),.r 323 [cI (b+a),cI 999] [cI f]])):
 Rt 293 [.agg (nd c a e A),cI d,cI b] [cI d,cI f,cB true]:=
 h.of
theorem qAY(h:Oo (y0W a b e A q c r d s [.n s false,.b (a==2) false,.b (a==4) true,.v (c+b),.p ((100:Int)≠0)])):
 Rt 293 [.agg (nd a b e A),cI c,cI d] [cI ((c+b).tmod 100),cI d,cB true]:=
 h.of
theorem qAZ(h:Oo (y0W a b d A q c r e s [.n s false,.b (a==2) false,.b (a==4) false,.b (a==3) true,.p (b≠0)])):
 Rt 293 [.agg (nd a b d A),cI c,cI e] [cI c,cI e,cB (c.tmod b==d)]:=
 h.of
theorem qA0(h:Oo (y0W a d e A q b r c s [.n s false,.b (a==2) false,.b (a==4) false,.b (a==3) false])):
 Rt 293 [.agg (nd a d e A),cI b,cI c] [cI b,cI c,cB (a != 8)]:=
 h.of
theorem qA7(h:Oo [.b (decide (a<b)) true]):
 Rt 323 [cI b,cI a] [cI a]:=
 h.of
theorem qA8(h:Oo [.b (decide (b<a)) false]):
 Rt 323 [cI a,cI b] [cI a]:=
 h.of
theorem qA9(h:Oo [.r 158 [cI a,cI 0,cI 99] [cB q],.b q true,.r 158 [cI b,cI 0,cI 999] [cB r]]):
 Rt 257 [cI a,cI b] [cB r]:=
 h.of
theorem qBa(h:Oo [.r 158 [cI a,cI 0,cI 99] [cB q],.b q false]):
 Rt 257 [cI a,cI b] [cB false]:=
 h.of
