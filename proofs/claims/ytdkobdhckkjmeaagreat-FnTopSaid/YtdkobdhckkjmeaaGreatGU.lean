import Derived.Test.YtdkobdhckkjmeaaGreatRows
import Derived.Test.YtdkobdhckkjmeaaGreatGE
set_option linter.unusedVariables false
set_option linter.unusedSimpArgs false
namespace Go.Proofs.YtdkobdhckkjmeaaGreat
open Go.Sx Go.RowKit
variable {a b c d e f g i j k l m n o p a0 b0 c0 d0 e0 f0 : Int} {A C E F G H J K L M N P Q R S U V W X Y : LL} {q r s t u v w x y z q0 r0 s0 t0 : Bool}
def qdq(A:LL)(a:Int):St:=
 { env:=envOf 51 [(6,vF 6 A),(7,vI (A.length:Int)),(8,vI a)],boxes:=[] }
def qgp(q:Bool):St:=
 { env:=envOf 51 [(2,.al (.one (.sb q)))],boxes:=[] }
def y2f(A:LL)(a b:Int)(C:LL)(c d e f:Int)(q:Bool)(l:List O):List O:=.i A a (lk b C c d e f)::.r 158 [cI c,cI 0,cI b] [cB q]::l
theorem qzF(h:Oo (y2f A b c C a d e f q [.n q true])):
 Tp (qaa Tryz.f34 0) (qdq A b) .ret (qgp false):=
 h.lp [2] []
def y2g(A:LL)(a b:Int)(C:LL)(c d e f:Int)(q r:Bool)(l:List O):List O:=y2f A a b C c d e f q (.n q false::.r 158 [cI d,cI 0,cI b] [cB r]::l)
theorem qzG(h:Oo (y2g A d a C b c e f q r [.n r true])):
 Tp (qaa Tryz.f34 0) (qdq A d) .ret (qgp false):=
 h.lp [2] []
theorem qzH(h:Oo (y2g A d a C c b e f q r [.n r false,.v (a-b),.b (decide (c>a-b)) true])):
 Tp (qaa Tryz.f34 0) (qdq A d) .ret (qgp false):=
 h.lp [2] []
theorem qzI(h:Oo (y2g A d a C c b e f q r [.n r false,.v (a-b),.b (decide (c>a-b)) false,.v (a-b),.v (a-b-c),.b (a-b-c != (C.length:Int)) true])):
 Tp (qaa Tryz.f34 0) (qdq A d) .ret (qgp false):=
 h.lp [2] []
theorem qzJ(h:Oo (y2g A d a C c b e f q r [.n r false,.v (a-b),.b (decide (c>a-b)) false,.v (a-b),.v (a-b-c),.b (a-b-c != (C.length:Int)) false,.u d])):
 Tp (qaa Tryz.f34 0) (qdq A d) .normal (qdq A (d+1)):=
 h.lp [8,7,6] []
def qqO:St:=
 { env:=envOf 51 [],boxes:=[] }
theorem qzK(h:Oo [.f A a false]):
 Tp (qaa Tryz.f34 0) (qdq A a) (.exit 0) qqO:=
 h.lp [] []
theorem qzL(h:Oo [.l [] [8,7,6] [] (qaa Tryz.f34 0) (qdq A 0) .ret (qgp q)]):
 Rt 34 [.agg (cl C a b E A F G)] [cB q]:=
 h.of
theorem qzM(h:Oo [.l [] [8,7,6] [] (qaa Tryz.f34 0) (qdq A 0) (.exit 0) qqO]):
 Rt 34 [.agg (cl C a b E A F G)] [cB true]:=
 h.of
theorem qzN(b:Int)(A:LL)(c d e f a:Int)(C:LL)(h:Oo [.r 147 [cS 5 A,cI a] [cS 5 C]]):
 Rt 224 [.agg (lk b A c d e f),cI a] [cI (C.length:Int)]:=
 h.of
def qfj(A:LL)(a b c:Int):St:=
 { env:=envOf 30 [(1,vI a),(5,vI c),(9,vF 8 A),(10,vI (A.length:Int)),(11,vI b)],boxes:=[] }
theorem qzS(h:Oo [.i C b (wk E F G H A J K L),.a .wr,.r 158 [cI a,cI 0,cI (IntKind.i64.wrap ((A.length:Int)-1))] [cB q],.b q true,.x A a [I c],.a .wr,.u b]):
 Tp (qaa Tryz.f47 0) (qfj C a b d) .normal (qfj C a (b+1) (IntKind.i64.wrap (d+c))):=
 h.lp [11,10,9,1,5] []
theorem qzT(h:Oo [.i A a (wk E F G H C J K L),.a .wr,.r 158 [cI b,cI 0,cI (IntKind.i64.wrap ((C.length:Int)-1))] [cB q],.b q false,.u a]):
 Tp (qaa Tryz.f47 0) (qfj A b a c) .normal (qfj A b (a+1) c):=
 h.lp [11,10,9,1,5] []
def qqQ(a:Int):St:=
 { env:=envOf 30 [(5,vI a)],boxes:=[] }
theorem qzU(h:Oo [.f A a false]):
 Tp (qaa Tryz.f47 0) (qfj A c a b) (.exit 0) (qqQ b):=
 h.lp [5] []
theorem qzV(h:Oo [.l [] [11,10,9,1,5] [] (qaa Tryz.f47 0) (qfj A a 0 0) (.exit 0) (qqQ b)]):
 Rt 47 [.agg (cl C c d A E F G),cI a] [cI b]:=
 h.of
def qhz(A:LL)(a b c:Int)(E:LL)(d e:Int)(F G H C:LL):St:=
 { env:=envOf 26 [(1,vI a),(2,vP 2),(5,vI c),(9,vF 6 A),(10,vI (A.length:Int)),(11,vI b)],boxes:=[(2,[.sl .free 4 E,lI d,lI e,.sl .free 8 F,.sl .free 6 G,.sl .free 5 H,.sl .free 3 C])] }
theorem qzW(h:Oo [.i A a (lk g J i j k l),.r 224 [.agg (lk g J i j k l),cI c] [cI b],.v (d+b),.u a]):
 Tp (qaa Tryz.f98 0) (qhz A c a d C e f E F G H) .normal (qhz A c (a+1) (d+b) C e f E F G H):=
 h.lp [11,10,9,5,1,2] [2]
def qqR(a b:Int)(A:LL)(c d:Int)(C E F G:LL):St:=
 { env:=envOf 26 [(1,vI a),(2,vP 2),(5,vI b)],boxes:=[(2,[.sl .free 4 A,lI c,lI d,.sl .free 8 C,.sl .free 6 E,.sl .free 5 F,.sl .free 3 G])] }
theorem qzX(h:Oo [.f H d false]):
 Tp (qaa Tryz.f98 0) (qhz H c d e A a b C E F G) (.exit 0) (qqR c e A a b C E F G):=
 h.lp [2,1,5] [2]
theorem qzY(h:Oo [.l [] [11,10,9,5,1,2] [2] (qaa Tryz.f98 0) (qhz A a 0 0 C b f J A K L) (.exit 0) (qqR a g M c d E F G H),.r 47 [.agg (cl M c d E F G H),cI a] [cI e]]):
 Rt 98 [.agg (cl C b f J A K L),cI a] [cB (e==g)]:=
 h.of
theorem qzZ(h:Oo [.b (decide (a<1)) true]):
 Rt 245 [cI b,cI a] [cI 0]:=
 h.of
def y2l(a:Int)(l:List O):List O:=.b (decide (a<1)) false::.p (a≠0)::l
theorem qz0(h:Oo (y2l a [.b (decide (b.tmod a<0)) true,.v (b.tmod a+a)])):
 Rt 245 [cI b,cI a] [cI (b.tmod a+a)]:=
 h.of
theorem qz1(h:Oo (y2l a [.b (decide (b.tmod a<0)) false])):
 Rt 245 [cI b,cI a] [cI (b.tmod a)]:=
 h.of
theorem qz2(h:Oo [.b (decide (a<1)) true]):
 Rt 148 [cI b,cI a] [cI 0]:=
 h.of
theorem qz3(h:Oo (y2l a [.b (decide (b.tmod a<0)) true,.v (b.tmod a+a)])):
 Rt 148 [cI b,cI a] [cI (b.tmod a+a)]:=
 h.of
theorem qz4(h:Oo (y2l a [.b (decide (b.tmod a<0)) false])):
 Rt 148 [cI b,cI a] [cI (b.tmod a)]:=
 h.of
theorem qz5(h:Oo [.r 266 [cS 5 A,.one (.cl 267 [D.ptr [I b],D.ptr [I a]])] [cB q]]):
 Rt 159 [cS 5 A,cI a,cI b] [.one (B !q)]:=
 h.of
theorem qz6(h:Oo [.r 148 [cI a,cI b] [cI d]]):
 Rt 267 [.agg (ri e f g a i),.one (.ptr [I b]),.one (.ptr [I c])] [cB (d != c)]:=
 h.of
def y2m(A:LL)(l:List O):List O:=.b (decide ((A.length:Int)>0)) true::l
theorem qz7(h:Oo (y2m A [.b (decide (a<1)) true])):
 Rt 35 [.agg (cl C a b E A F G)] [cB false]:=
 h.of
def qc7(a:Int)(A:LL)(b:Int)(C:LL)(c d:Int)(E F G H:LL):St:=
 { env:=envOf 59 [(1,vP 1),(3,vI a),(20,vF 8 A),(21,vI (A.length:Int)),(22,vI b)],boxes:=[(1,[.sl .free 4 C,lI c,lI d,.sl .free 8 E,.sl .free 6 F,.sl .free 5 G,.sl .free 3 H])] }
def qhA(q:Bool):St:=
 { env:=envOf 59 [(2,.al (.one (.sb q)))],boxes:=[] }
theorem qz8(h:Oo [.i C a (wk A J K L M N P Q),.r 159 [cS 5 A,cI a,cI b] [cB q],.n q true]):
 Tp (qaa Tryz.f35 0) (qc7 b C a R d c E F G H) .ret (qhA false):=
 h.lp [2] []
theorem qz9(h:Oo [.i E a (wk A K C L M N P Q),.r 159 [cS 5 A,cI a,cI b] [cB q],.n q false,.r 159 [cS 5 C,cI a,cI b] [cB r],.n r true]):
 Tp (qaa Tryz.f35 0) (qc7 b E a R d c F G H J) .ret (qhA false):=
 h.lp [2] []
theorem qAa(h:Oo [.i A a (wk H L J M N P Q R),.r 159 [cS 5 H,cI a,cI b] [cB q],.n q false,.r 159 [cS 5 J,cI a,cI b] [cB r],.n r false,.u a]):
 Tp (qaa Tryz.f35 0) (qc7 b A a K d c C E F G) .normal (qc7 b A (a+1) K d c C E F G):=
 h.lp [22,21,20,3,1] [1]
def qjA(a:Int)(A:LL)(b c:Int)(C E F G:LL):St:=
 { env:=envOf 59 [(1,vP 1),(3,vI a)],boxes:=[(1,[.sl .free 4 A,lI b,lI c,.sl .free 8 C,.sl .free 6 E,.sl .free 5 F,.sl .free 3 G])] }
theorem qAb(h:Oo [.f G c false]):
 Tp (qaa Tryz.f35 0) (qc7 a G c H d b A C E F) (.exit 0) (qjA a H d b A C E F):=
 h.lp [1,3] [1]
theorem qAc(h:Oo (y2m C [.b (decide (a<1)) false,.l [] [22,21,20,3,1] [1] (qaa Tryz.f35 0) (qc7 a A 0 E a b A C F G) .ret (qhA q)])):
 Rt 35 [.agg (cl E a b A C F G)] [cB q]:=
 h.of
def qdS(a:Int)(A:LL)(b:Int):St:=
 { env:=envOf 59 [(3,vI a),(43,vF 6 A),(44,vI (A.length:Int)),(45,vI b)],boxes:=[] }
def qmt(q:Bool):St:=
 { env:=envOf 59 [(2,.al (.one (.sb q)))],boxes:=[] }
theorem qAd(h:Oo [.i A b (lk c C d e f g),.p (a≠0),.r 159 [cS 5 C,cI (b.tmod a),cI a] [cB q],.n q true]):
 Tp (qaa Tryz.f35 1) (qdS a A b) .ret (qmt false):=
 h.lp [2] []
theorem qAe(h:Oo [.i A b (lk c C d e f g),.p (a≠0),.r 159 [cS 5 C,cI (b.tmod a),cI a] [cB q],.n q false,.u b]):
 Tp (qaa Tryz.f35 1) (qdS a A b) .normal (qdS a A (b+1)):=
 h.lp [45,44,43,3] []
def qjB:St:=
 { env:=envOf 59 [],boxes:=[] }
theorem qqS(h:Oo [.f A a false]):
 Tp (qaa Tryz.f35 1) (qdS b A a) (.exit 2) qjB:=
 h.lp [] []
theorem qAf(h:Oo (y2m C [.b (decide (a<1)) false,.l [] [22,21,20,3,1] [1] (qaa Tryz.f35 0) (qc7 a A 0 E a b A C G H) (.exit 0) (qjA a M c d J F K L),.l [] [45,44,43,3] [] (qaa Tryz.f35 1) (qdS a F 0) .ret (qmt q)])):
 Rt 35 [.agg (cl E a b A C G H)] [cB q]:=
 h.of
theorem qAg(h:Oo (y2m C [.b (decide (a<1)) false,.l [] [22,21,20,3,1] [1] (qaa Tryz.f35 0) (qc7 a A 0 E a b A C G H) (.exit 0) (qjA a M c d J F K L),.l [] [45,44,43,3] [] (qaa Tryz.f35 1) (qdS a F 0) (.exit 2) qjB])):
 Rt 35 [.agg (cl E a b A C G H)] [cB true]:=
 h.of
theorem qAh(h:Oo [.b (decide ((C.length:Int)>0)) false,.l [] [22,21,20,3,1] [1] (qaa Tryz.f35 0) (qc7 a A 0 E a b A C F G) .ret (qhA q)]):
 Rt 35 [.agg (cl E a b A C F G)] [cB q]:=
 h.of
theorem qAi(h:Oo [.b (decide ((C.length:Int)>0)) false,.l [] [22,21,20,3,1] [1] (qaa Tryz.f35 0) (qc7 a A 0 E a b A C G H) (.exit 0) (qjA a M c d J F K L),.l [] [45,44,43,3] [] (qaa Tryz.f35 1) (qdS a F 0) (.exit 2) qjB]):
 Rt 35 [.agg (cl E a b A C G H)] [cB true]:=
 h.of
def qeg(A:LL)(a:Int):St:=
 { env:=envOf 21 [(0,vF 4 A),(3,vI a)],boxes:=[] }
def qmu(q:Bool):St:=
 { env:=envOf 21 [(2,.al (.one (.sb q)))],boxes:=[] }
def y2n(A:LL)(a b c d e f g i j:Int)(l:List O):List O:=.f A a true::.v (a-1)::.p (0≤a-1)::.p (a-1<(A.length:Int))::.e A ((a-1).toNat) [I b,I c,I d,I e]::.x A a [I f,I g,I i,I j]::l
theorem qAj(h:Oo (y2n A a c d e f g i j k [.r 306 [.agg [I c,I d,I e,I f],.agg [I g,I i,I j,I k]] [cI b],.b (decide (b≥0)) true])):
 Tp (qaa Tryz.f280 0) (qeg A a) .ret (qmu false):=
 h.lp [2] []
theorem qAk(h:Oo (y2n A a c d e f g i j k [.r 306 [.agg [I c,I d,I e,I f],.agg [I g,I i,I j,I k]] [cI b],.b (decide (b≥0)) false,.u a])):
 Tp (qaa Tryz.f280 0) (qeg A a) .normal (qeg A (a+1)):=
 h.lp [3,0] []
def qqT:St:=
 { env:=envOf 21 [],boxes:=[] }
theorem qAl(h:Oo [.f A a false]):
 Tp (qaa Tryz.f280 0) (qeg A a) (.exit 0) qqT:=
 h.lp [] []
theorem qAm(h:Oo [.l [] [3,0] [] (qaa Tryz.f280 0) (qeg A 1) .ret (qmu q)]):
 Rt 280 [cS 4 A] [cB q]:=
 h.of
theorem qAn(h:Oo [.l [] [3,0] [] (qaa Tryz.f280 0) (qeg A 1) (.exit 0) qqT]):
 Rt 280 [cS 4 A] [cB true]:=
 h.of
def qeh(A:LL)(a:Int):St:=
 { env:=envOf 21 [(0,vF 4 A),(3,vI a)],boxes:=[] }
def qmv(q:Bool):St:=
 { env:=envOf 21 [(2,.al (.one (.sb q)))],boxes:=[] }
theorem qAo(h:Oo (y2n A a c d e f g i j k [.r 313 [.agg [I c,I d,I e,I f],.agg [I g,I i,I j,I k]] [cI b],.b (decide (b≥0)) true])):
 Tp (qaa Tryz.f278 0) (qeh A a) .ret (qmv false):=
 h.lp [2] []
theorem qAp(h:Oo (y2n A a c d e f g i j k [.r 313 [.agg [I c,I d,I e,I f],.agg [I g,I i,I j,I k]] [cI b],.b (decide (b≥0)) false,.u a])):
 Tp (qaa Tryz.f278 0) (qeh A a) .normal (qeh A (a+1)):=
 h.lp [3,0] []
def qqU:St:=
 { env:=envOf 21 [],boxes:=[] }
theorem qAq(h:Oo [.f A a false]):
 Tp (qaa Tryz.f278 0) (qeh A a) (.exit 0) qqU:=
 h.lp [] []
theorem qAr(h:Oo [.l [] [3,0] [] (qaa Tryz.f278 0) (qeh A 1) .ret (qmv q)]):
 Rt 278 [cS 4 A] [cB q]:=
 h.of
theorem qAs(h:Oo [.l [] [3,0] [] (qaa Tryz.f278 0) (qeh A 1) (.exit 0) qqU]):
 Rt 278 [cS 4 A] [cB true]:=
 h.of
def qei(A:LL)(a b:Int)(C:LL)(c:Int):St:=
 { env:=envOf 29 [(1,vF 5 C),(2,vP 2),(5,vI c)],boxes:=[(2,[.sl .free 4 A,lI a,lI b])] }
def qjC(q:Bool):St:=
 { env:=envOf 29 [(4,.al (.one (.sb q)))],boxes:=[] }
def y2o(A:LL)(a b c d e f:Int)(q:Bool)(l:List O):List O:=.i A a (ri b c d e f)::.r 122 [.agg (ri b c d e f)] [cB q]::l
theorem qAt(h:Oo (y2o A a b c d e f q [.n q true])):
 Tp (qaa Tryz.f177 0) (qei C g i A a) .ret (qjC false):=
 h.lp [4] []
theorem qAu(h:Oo (y2o A a c d e f g q [.n q false,.x A a (ri b j k l m),.b (decide (b≥(C.length:Int))) true])):
 Tp (qaa Tryz.f177 0) (qei C i n A a) .ret (qjC false):=
 h.lp [4] []
theorem qAv(h:Oo (y2o A a e f g i j q [.n q false,.x A a (ri c k l m n),.b (decide (c≥(C.length:Int))) false,.u a])):
 Tp (qaa Tryz.f177 0) (qei C b d A a) .normal (qei C b d A (a+1)):=
 h.lp [5,1,2] [2]
def qqV:St:=
 { env:=envOf 29 [],boxes:=[] }
theorem qAw(h:Oo [.f A a false]):
 Tp (qaa Tryz.f177 0) (qei C b c A a) (.exit 0) qqV:=
 h.lp [] []
theorem qAx(h:Oo [.l [] [5,1,2] [2] (qaa Tryz.f177 0) (qei A a b C 0) .ret (qjC q)]):
 Rt 177 [.agg (gr A a b),cS 5 C] [cB q]:=
 h.of
theorem qAy(h:Oo [.l [] [5,1,2] [2] (qaa Tryz.f177 0) (qei A a b C 0) (.exit 0) qqV]):
 Rt 177 [.agg (gr A a b),cS 5 C] [cB true]:=
 h.of
def qej(A:LL)(a:Int)(C:LL)(b c:Int):St:=
 { env:=envOf 24 [(2,vP 2),(7,vF 5 A),(8,vI (A.length:Int)),(9,vI a)],boxes:=[(2,[.sl .free 4 C,lI b,lI c])] }
def qjD(q:Bool):St:=
 { env:=envOf 24 [(4,.al (.one (.sb q)))],boxes:=[] }
def y2p(A:LL)(a b c d e f:Int)(q:Bool)(l:List O):List O:=.i A a (ri b c d e f)::.r 145 [.agg (ri b c d e f)] [cB q]::l
theorem qAz(h:Oo (y2p A d e f a b c q [.n q true])):
 Tp (qaa Tryz.f174 0) (qej A d C g i) .ret (qjD false):=
 h.lp [4] []
theorem qAA(h:Oo (y2p A e a i b c d q [.n q false,.r 250 [.agg (gr C f g),cI a] [cB r],.n r true])):
 Tp (qaa Tryz.f174 0) (qej A e C f g) .ret (qjD false):=
 h.lp [4] []
theorem qAB(h:Oo (y2p A a d i e f g q [.n q false,.r 250 [.agg (gr C b c),cI d] [cB r],.n r false,.u a])):
 Tp (qaa Tryz.f174 0) (qej A a C b c) .normal (qej A (a+1) C b c):=
 h.lp [9,8,7,2] [2]
def qqW:St:=
 { env:=envOf 24 [],boxes:=[] }
theorem qAC(h:Oo [.f A a false]):
 Tp (qaa Tryz.f174 0) (qej A a C b c) (.exit 0) qqW:=
 h.lp [] []
theorem qAD(h:Oo [.l [] [9,8,7,2] [2] (qaa Tryz.f174 0) (qej C 0 A a b) .ret (qjD q)]):
 Rt 174 [.agg (gr A a b),cS 5 C] [cB q]:=
 h.of
theorem qAE(h:Oo [.l [] [9,8,7,2] [2] (qaa Tryz.f174 0) (qej C 0 A a b) (.exit 0) qqW]):
 Rt 174 [.agg (gr A a b),cS 5 C] [cB true]:=
 h.of
def y2r(A:LL)(a b:Int)(C:LL)(q:Bool)(l:List O):List O:=.r 177 [.agg (gr A a b),cS 5 C] [cB q]::l
theorem qAF(h:Oo (y2r A a b C q [.n q true])):
 Rt 175 [.agg (gr A a b),.agg (wk C F G H J K L E)] [cB false]:=
 h.of
def y2s(A:LL)(a b:Int)(C:LL)(q:Bool)(E:LL)(r:Bool)(l:List O):List O:=y2r A a b C q (.n q false::.r 177 [.agg (gr A a b),cS 5 E] [cB r]::l)
theorem qAG(h:Oo (y2s A a b C q E r [.n r true])):
 Rt 175 [.agg (gr A a b),.agg (wk C E G H J K L F)] [cB false]:=
 h.of
def y2t(A:LL)(a b:Int)(C:LL)(q:Bool)(E:LL)(r:Bool)(F:LL)(s:Bool)(l:List O):List O:=y2s A a b C q E r (.n r false::.r 177 [.agg (gr A a b),cS 5 F] [cB s]::l)
theorem qAH(h:Oo (y2t A a b C q E r F s [.n s true])):
 Rt 175 [.agg (gr A a b),.agg (wk C E F H J K L G)] [cB false]:=
 h.of
def y2u(A:LL)(a b:Int)(C:LL)(q:Bool)(E:LL)(r:Bool)(F:LL)(s:Bool)(G:LL)(t:Bool)(l:List O):List O:=y2t A a b C q E r F s (.n s false::.r 280 [cS 4 G] [cB t]::l)
theorem qAI(h:Oo (y2u A a b C q E r F s G t [.n t true])):
 Rt 175 [.agg (gr A a b),.agg (wk C E F G J K L H)] [cB false]:=
 h.of
theorem qAJ(h:Oo (y2u A a b C q E r F s G t [.n t false,.b ((H.length:Int) != 4) true])):
 Rt 175 [.agg (gr A a b),.agg (wk C E F G H K L J)] [cB false]:=
 h.of
def y2v(A:LL)(a b:Int)(C:LL)(q:Bool)(E:LL)(r:Bool)(F:LL)(s:Bool)(G:LL)(t:Bool)(H:LL)(l:List O):List O:=y2u A a b C q E r F s G t (.n t false::.b ((H.length:Int) != 4) false::l)
theorem qAK(h:Oo (y2v A a b C q E r F s G t H [.b ((J.length:Int) != 4) true])):
 Rt 175 [.agg (gr A a b),.agg (wk C E F G H J L K)] [cB false]:=
 h.of
def y2w(A:LL)(a b:Int)(C:LL)(q:Bool)(E:LL)(r:Bool)(F:LL)(s:Bool)(G:LL)(t:Bool)(H J:LL)(l:List O):List O:=y2v A a b C q E r F s G t H (.b ((J.length:Int) != 4) false::l)
theorem qAL(h:Oo (y2w A a b C q E r F s G t H J [.b ((K.length:Int) != 4) true])):
 Rt 175 [.agg (gr A a b),.agg (wk C E F G H J K L)] [cB false]:=
 h.of
def qci(A C E F G H J K:LL)(a:Int):St:=
 { env:=envOf 147 [(3,vP 3),(5,vI 4),(6,vI a)],boxes:=[(3,[.sl .free 5 A,.sl .free 5 C,.sl .free 5 E,.sl .free 4 F,.sl .free 1 G,.sl .free 1 H,.sl .free 1 J,.sl .free 2 K])] }
def qhB(q:Bool):St:=
 { env:=envOf 147 [(4,.al (.one (.sb q)))],boxes:=[] }
theorem qAM(h:Oo [.i A a (ri b c d e f),.b (b != 0) true]):
 Tp (qaa Tryz.f175 0) (qci E F A G H J K C a) .ret (qhB false):=
 h.lp [4] []
def y2q(A:LL)(a b c d e f:Int)(l:List O):List O:=.i A a (ri b c d e f)::.b (b != 0) false::l
theorem qAN(h:Oo (y2q A a b d e f g [.x A a (ri i j c k l),.b (c != 0) true])):
 Tp (qaa Tryz.f175 0) (qci E F A G H J K C a) .ret (qhB false):=
 h.lp [4] []
theorem qAO(h:Oo (y2q A a b f g i j [.x A a (ri k l c m n),.b (c != 0) false,.b (decide (a>0)) true,.v (a-1),.p (0≤a-1),.p (a-1<(A.length:Int)),.e A ((a-1).toNat) (ri o d p a0 b0),.x A a (ri c0 e d0 e0 f0),.b (decide (d>e)) true])):
 Tp (qaa Tryz.f175 0) (qci E F A G H J K C a) .ret (qhB false):=
 h.lp [4] []
theorem qAP(h:Oo (y2q A a b f g i j [.x A a (ri k l c m n),.b (c != 0) false,.b (decide (a>0)) true,.v (a-1),.p (0≤a-1),.p (a-1<(A.length:Int)),.e A ((a-1).toNat) (ri o d p a0 b0),.x A a (ri c0 e d0 e0 f0),.b (decide (d>e)) false,.u a])):
 Tp (qaa Tryz.f175 0) (qci E F A G H J K C a) .normal (qci E F A G H J K C (a+1)):=
 h.lp [6,3,5] [3]
theorem qAQ(h:Oo (y2q A a b d e f g [.x A a (ri i j c k l),.b (c != 0) false,.b (decide (a>0)) false,.u a])):
 Tp (qaa Tryz.f175 0) (qci E F A G H J K C a) .normal (qci E F A G H J K C (a+1)):=
 h.lp [6,3,5] [3]
def qhC(A C E F G H J K:LL):St:=
 { env:=envOf 147 [(3,vP 3),(5,vI 4)],boxes:=[(3,[.sl .free 5 A,.sl .free 5 C,.sl .free 5 E,.sl .free 4 F,.sl .free 1 G,.sl .free 1 H,.sl .free 1 J,.sl .free 2 K])] }
theorem qAR(h:Oo [.f A a false]):
 Tp (qaa Tryz.f175 0) (qci E F A G H J K C a) (.exit 0) (qhC E F A G H J K C):=
 h.lp [5,3] [3]
theorem qAS(h:Oo (y2w A a b C q E r F s G t H J [.b ((K.length:Int) != 4) false,.l [] [6,3,5] [3] (qaa Tryz.f175 0) (qci C E F G H J K L 0) .ret (qhB u)])):
 Rt 175 [.agg (gr A a b),.agg (wk C E F G H J K L)] [cB u]:=
 h.of
def qek(A C E F G H J K:LL)(a:Int):St:=
 { env:=envOf 147 [(3,vP 3),(5,vI 4),(7,vI a)],boxes:=[(3,[.sl .free 5 A,.sl .free 5 C,.sl .free 5 E,.sl .free 4 F,.sl .free 1 G,.sl .free 1 H,.sl .free 1 J,.sl .free 2 K])] }
def qmw(q:Bool):St:=
 { env:=envOf 147 [(4,.al (.one (.sb q)))],boxes:=[] }
theorem qAT(h:Oo [.b (decide (a<4)) true,.x A a [I b],.r 167 [cI b,cI (-1000000),cI 1000000] [cB q],.n q true]):
 Tp (qaa Tryz.f175 1) (qek E F G H A J K C a) .ret (qmw false):=
 h.lp [4] []
theorem qAU(h:Oo [.b (decide (a<4)) true,.x A a [I b],.r 167 [cI b,cI (-1000000),cI 1000000] [cB q],.n q false,.u a]):
 Tp (qaa Tryz.f175 1) (qek E F G H A J K C a) .normal (qek E F G H A J K C (a+1)):=
 h.lp [7,5,3] [3]
def qmx(A C E F G H J K:LL):St:=
 { env:=envOf 147 [(3,vP 3)],boxes:=[(3,[.sl .free 5 A,.sl .free 5 C,.sl .free 5 E,.sl .free 4 F,.sl .free 1 G,.sl .free 1 H,.sl .free 1 J,.sl .free 2 K])] }
theorem qAV(h:Oo [.b (decide (a<4)) false]):
 Tp (qaa Tryz.f175 1) (qek C E F G H J K A a) (.exit 2) (qmx C E F G H J K A):=
 h.lp [3] [3]
def y2x(A:LL)(a b:Int)(C:LL)(q:Bool)(E:LL)(r:Bool)(F:LL)(s:Bool)(G:LL)(t:Bool)(H J K:LL)(W:Code)(L:LL)(l:List O):List O:=y2w A a b C q E r F s G t H J (.b ((K.length:Int) != 4) false::.l [] [6,3,5] [3] W (qci C E F G H J K L 0) (.exit 0) (qhC C E F G H J K L)::l)
theorem qAW(h:Oo (y2x K a b A q C r E s F t G H J (qaa Tryz.f175 0) L [.l [] [7,5,3] [3] (qaa Tryz.f175 1) (qek A C E F G H J L 0) .ret (qmw u)])):
 Rt 175 [.agg (gr K a b),.agg (wk A C E F G H J L)] [cB u]:=
 h.of
def qdr(A C E F G H J K:LL)(a:Int):St:=
 { env:=envOf 147 [(3,vP 3),(8,vI a)],boxes:=[(3,[.sl .free 5 A,.sl .free 5 C,.sl .free 5 E,.sl .free 4 F,.sl .free 1 G,.sl .free 1 H,.sl .free 1 J,.sl .free 2 K])] }
def qjE(q:Bool):St:=
 { env:=envOf 147 [(4,.al (.one (.sb q)))],boxes:=[] }
theorem qAX(h:Oo [.i A a [I b,B r],.r 167 [cI b,cI 0,cI 3] [cB q],.n q true]):
 Tp (qaa Tryz.f175 2) (qdr C E F G H J K A a) .ret (qjE false):=
 h.lp [4] []
def qdT(A C E F G H J K:LL)(a b:Int):St:=
 { env:=envOf 147 [(3,vP 3),(8,vI a),(9,vI b)],boxes:=[(3,[.sl .free 5 A,.sl .free 5 C,.sl .free 5 E,.sl .free 4 F,.sl .free 1 G,.sl .free 1 H,.sl .free 1 J,.sl .free 2 K])] }
def qjF(q:Bool):St:=
 { env:=envOf 147 [(4,.al (.one (.sb q)))],boxes:=[] }
theorem qAY(h:Oo [.b (decide (b<a)) true,.x A b [I c,B q],.x A a [I d,B r],.b (c==d) true]):
 Tp (qaa Tryz.f175 3) (qdT C E F G H J K A a b) .ret (qjF false):=
 h.lp [4] []
theorem qAZ(h:Oo [.b (decide (a<b)) true,.x A a [I c,B q],.x A b [I d,B r],.b (c==d) false,.u a]):
 Tp (qaa Tryz.f175 3) (qdT C E F G H J K A b a) .normal (qdT C E F G H J K A b (a+1)):=
 h.lp [9,8,3] [3]
def qmy(A C E F G H J K:LL)(a:Int):St:=
 { env:=envOf 147 [(3,vP 3),(8,vI a)],boxes:=[(3,[.sl .free 5 A,.sl .free 5 C,.sl .free 5 E,.sl .free 4 F,.sl .free 1 G,.sl .free 1 H,.sl .free 1 J,.sl .free 2 K])] }
theorem qA0(h:Oo [.b (decide (b<a)) false]):
 Tp (qaa Tryz.f175 3) (qdT C E F G H J K A a b) (.exit 6) (qmy C E F G H J K A a):=
 h.lp [8,3] [3]
theorem qA1(h:Oo [.i A a [I b,B s],.r 167 [cI b,cI 0,cI 3] [cB q],.n q false,.l [] [9,8,3] [3] (qaa Tryz.f175 3) (qdT C E F G H J K A a 0) .ret (qjF r)]):
 Tp (qaa Tryz.f175 2) (qdr C E F G H J K A a) .ret (qjE r):=
 h.lp [4] []
theorem qA2(h:Oo [.i A a [I b,B r],.r 167 [cI b,cI 0,cI 3] [cB q],.n q false,.l [] [9,8,3] [3] (qaa Tryz.f175 3) (qdT C E F G H J K A a 0) (.exit 6) (qmy C E F G H J K A a),.u a]):
 Tp (qaa Tryz.f175 2) (qdr C E F G H J K A a) .normal (qdr C E F G H J K A (a+1)):=
 h.lp [8,3] [3]
def qmz:St:=
 { env:=envOf 147 [],boxes:=[] }
theorem qA3(h:Oo [.f A a false]):
 Tp (qaa Tryz.f175 2) (qdr C E F G H J K A a) (.exit 4) qmz:=
 h.lp [] []
theorem qA4(h:Oo (y2x L a b A q C r E s F t G H J (qaa Tryz.f175 0) K [.l [] [7,5,3] [3] (qaa Tryz.f175 1) (qek A C E F G H J K 0) (.exit 2) (qmx A C E F G H J K),.l [] [8,3] [3] (qaa Tryz.f175 2) (qdr A C E F G H J K 0) .ret (qjE u)])):
 Rt 175 [.agg (gr L a b),.agg (wk A C E F G H J K)] [cB u]:=
 h.of
theorem qA5(h:Oo (y2x L a b A q C r E s F t G H J (qaa Tryz.f175 0) K [.l [] [7,5,3] [3] (qaa Tryz.f175 1) (qek A C E F G H J K 0) (.exit 2) (qmx A C E F G H J K),.l [] [8,3] [3] (qaa Tryz.f175 2) (qdr A C E F G H J K 0) (.exit 4) qmz])):
 Rt 175 [.agg (gr L a b),.agg (wk A C E F G H J K)] [cB true]:=
 h.of
def y2z(A:LL)(a b:Int)(C:LL)(q:Bool)(l:List O):List O:=.r 174 [.agg (gr A a b),cS 5 C] [cB q]::l
theorem qA6(h:Oo (y2z A a b C q [.n q true])):
 Rt 172 [.agg (gr A a b),.agg (wk C F G H J K L E)] [cB false]:=
 h.of
def y2A(A:LL)(a b:Int)(C:LL)(q:Bool)(E:LL)(r:Bool)(l:List O):List O:=y2z A a b C q (.n q false::.r 174 [.agg (gr A a b),cS 5 E] [cB r]::l)
theorem qA7(h:Oo (y2A A a b C q E r [.n r true])):
 Rt 172 [.agg (gr A a b),.agg (wk C E G H J K L F)] [cB false]:=
 h.of
def y2B(A:LL)(a b:Int)(C:LL)(q:Bool)(E:LL)(r:Bool)(F:LL)(s:Bool)(l:List O):List O:=y2A A a b C q E r (.n r false::.r 174 [.agg (gr A a b),cS 5 F] [cB s]::l)
theorem qA8(h:Oo (y2B A a b C q E r F s [.n s true])):
 Rt 172 [.agg (gr A a b),.agg (wk C E F H J K L G)] [cB false]:=
 h.of
def y2C(A:LL)(a b:Int)(C:LL)(q:Bool)(E:LL)(r:Bool)(F:LL)(s:Bool)(G:LL)(t:Bool)(l:List O):List O:=y2B A a b C q E r F s (.n s false::.r 278 [cS 4 G] [cB t]::l)
theorem qA9(h:Oo (y2C A a b C q E r F s G t [.n t true])):
 Rt 172 [.agg (gr A a b),.agg (wk C E F G J K L H)] [cB false]:=
 h.of
def qbS(A:LL)(a:Int)(C E F G H J K L:LL):St:=
 { env:=envOf 121 [(3,vP 3),(37,vF 5 A),(38,vI (A.length:Int)),(39,vI a)],boxes:=[(3,[.sl .free 5 C,.sl .free 5 E,.sl .free 5 F,.sl .free 4 G,.sl .free 1 H,.sl .free 1 J,.sl .free 1 K,.sl .free 2 L])] }
def qhD(q:Bool):St:=
 { env:=envOf 121 [(4,.al (.one (.sb q)))],boxes:=[] }
theorem qBa(h:Oo [.i A a (ri b c d e f),.b (b != 0) true]):
 Tp (qaa Tryz.f172 0) (qbS A a C E F G H J K L) .ret (qhD false):=
 h.lp [4] []
theorem qBb(h:Oo (y2q A a b d c e f [.b (c != 0) true])):
 Tp (qaa Tryz.f172 0) (qbS A a C E F G H J K L) .ret (qhD false):=
 h.lp [4] []
theorem qBc(h:Oo (y2q C a b c d f g [.b (d != 0) false,.b (decide (a>0)) true,.v (a-1),.p (0≤a-1),.p (a-1<(A.length:Int)),.e A ((a-1).toNat) (ri i e j k l),.b (decide (e>c)) true])):
 Tp (qaa Tryz.f172 0) (qbS C a E F A G H J K L) .ret (qhD false):=
 h.lp [4] []
theorem qBd(h:Oo (y2q C a b c d f g [.b (d != 0) false,.b (decide (a>0)) true,.v (a-1),.p (0≤a-1),.p (a-1<(A.length:Int)),.e A ((a-1).toNat) (ri i e j k l),.b (decide (e>c)) false,.u a])):
 Tp (qaa Tryz.f172 0) (qbS C a E F A G H J K L) .normal (qbS C (a+1) E F A G H J K L):=
 h.lp [39,38,37,3] [3]
theorem qBe(h:Oo (y2q A a b d c e f [.b (c != 0) false,.b (decide (a>0)) false,.u a])):
 Tp (qaa Tryz.f172 0) (qbS A a C E F G H J K L) .normal (qbS A (a+1) C E F G H J K L):=
 h.lp [39,38,37,3] [3]
def qel(A C E F G H J K:LL):St:=
 { env:=envOf 121 [(3,vP 3)],boxes:=[(3,[.sl .free 5 A,.sl .free 5 C,.sl .free 5 E,.sl .free 4 F,.sl .free 1 G,.sl .free 1 H,.sl .free 1 J,.sl .free 2 K])] }
theorem qBf(h:Oo [.f L a false]):
 Tp (qaa Tryz.f172 0) (qbS L a A C E F G H J K) (.exit 0) (qel A C E F G H J K):=
 h.lp [3] [3]
theorem qBg(h:Oo (y2C A a b E q F r C s G t [.n t false,.l [] [39,38,37,3] [3] (qaa Tryz.f172 0) (qbS C 0 E F C G J K L H) .ret (qhD u)])):
 Rt 172 [.agg (gr A a b),.agg (wk E F C G J K L H)] [cB u]:=
 h.of
def y2D(A:LL)(a b:Int)(C:LL)(q:Bool)(E:LL)(r:Bool)(F:LL)(s:Bool)(G:LL)(t:Bool)(W:Code)(H J K L M N P Q R S U V:LL)(l:List O):List O:=y2C A a b C q E r F s G t (.n t false::.l [] [39,38,37,3] [3] W (qbS F 0 C E F G H J K L) (.exit 0) (qel M N P Q R S U V)::l)
theorem qBh(h:Oo (y2D A a b E q F r C s G t (qaa Tryz.f172 0) K L M H N P Q R J S U V [.b ((J.length:Int) != 4) true])):
 Rt 172 [.agg (gr A a b),.agg (wk E F C G K L M H)] [cB false]:=
 h.of
theorem qBi(h:Oo (y2D A a b E q F r C s G t (qaa Tryz.f172 0) L M N H P Q R S J K U V [.b ((J.length:Int) != 4) false,.b ((K.length:Int) != 4) true])):
 Rt 172 [.agg (gr A a b),.agg (wk E F C G L M N H)] [cB false]:=
 h.of
def y2E(A:LL)(a b:Int)(C:LL)(q:Bool)(E:LL)(r:Bool)(F:LL)(s:Bool)(G:LL)(t:Bool)(W:Code)(H J K L M N P Q R S U V:LL)(l:List O):List O:=y2D A a b C q E r F s G t W H J K L M N P Q R S U V (.b ((R.length:Int) != 4) false::.b ((S.length:Int) != 4) false::l)
theorem qBj(h:Oo (y2E A a b E q F r C s G t (qaa Tryz.f172 0) M N P H Q R S U J K L V [.b ((L.length:Int) != 4) true])):
 Rt 172 [.agg (gr A a b),.agg (wk E F C G M N P H)] [cB false]:=
 h.of
def qem(C E F G A H J K:LL)(a:Int):St:=
 { env:=envOf 121 [(3,vP 3),(89,vF 1 A),(90,vI (A.length:Int)),(91,vI a)],boxes:=[(3,[.sl .free 5 C,.sl .free 5 E,.sl .free 5 F,.sl .free 4 G,.sl .free 1 A,.sl .free 1 H,.sl .free 1 J,.sl .free 2 K])] }
def qmA(q:Bool):St:=
 { env:=envOf 121 [(4,.al (.one (.sb q)))],boxes:=[] }
theorem qBk(h:Oo [.i A a [I b],.r 158 [cI b,cI (-1000000),cI 1000000] [cB q],.n q true]):
 Tp (qaa Tryz.f172 1) (qem C E F G A H J K a) .ret (qmA false):=
 h.lp [4] []
theorem qBl(h:Oo [.i A a [I b],.r 158 [cI b,cI (-1000000),cI 1000000] [cB q],.n q false,.u a]):
 Tp (qaa Tryz.f172 1) (qem C E F G A H J K a) .normal (qem C E F G A H J K (a+1)):=
 h.lp [91,90,89,3] [3]
def qmB(A C E F G H J K:LL):St:=
 { env:=envOf 121 [(3,vP 3)],boxes:=[(3,[.sl .free 5 A,.sl .free 5 C,.sl .free 5 E,.sl .free 4 F,.sl .free 1 G,.sl .free 1 H,.sl .free 1 J,.sl .free 2 K])] }
theorem qBm(h:Oo [.f A a false]):
 Tp (qaa Tryz.f172 1) (qem C E F G A H J K a) (.exit 2) (qmB C E F G A H J K):=
 h.lp [3] [3]
theorem qBn(h:Oo (y2E A a b H q J r C s K t (qaa Tryz.f172 0) S U V L M N P Q E F G R [.b ((G.length:Int) != 4) false,.l [] [91,90,89,3] [3] (qaa Tryz.f172 1) (qem M N P Q E F G R 0) .ret (qmA u)])):
 Rt 172 [.agg (gr A a b),.agg (wk H J C K S U V L)] [cB u]:=
 h.of
def qds(A:LL)(a:Int)(C E F G H J K L:LL):St:=
 { env:=envOf 121 [(3,vP 3),(100,vF 2 A),(101,vI (A.length:Int)),(102,vI a)],boxes:=[(3,[.sl .free 5 C,.sl .free 5 E,.sl .free 5 F,.sl .free 4 G,.sl .free 1 H,.sl .free 1 J,.sl .free 1 K,.sl .free 2 L])] }
def qjG(q:Bool):St:=
 { env:=envOf 121 [(4,.al (.one (.sb q)))],boxes:=[] }
theorem qBo(h:Oo [.i A a [I b,B r],.r 158 [cI b,cI 0,cI 3] [cB q],.n q true]):
 Tp (qaa Tryz.f172 2) (qds A a C E F G H J K L) .ret (qjG false):=
 h.lp [4] []
def y2y(A:LL)(a b:Int)(q r:Bool)(C:LL)(s:Bool)(l:List O):List O:=.i A a [I b,B q]::.r 158 [cI b,cI 0,cI 3] [cB r]::.n r false::.p ((0:Int)≤none.getD 0)::.p (none.getD 0≤(some a).getD (C.length:Int))::.p ((some a).getD (C.length:Int)≤(C.length:Int))::.r 271 [.one (.sl 2 (List.take (((some a).getD (C.length:Int)).toNat-0) (List.drop 0 C))),cI b] [cB s]::l
theorem qBp(h:Oo (y2y C a b s q A r [.b r true])):
 Tp (qaa Tryz.f172 2) (qds C a E F G H J K L A) .ret (qjG false):=
 h.lp [4] []
theorem qBq(h:Oo (y2y C a b s q A r [.b r false,.u a])):
 Tp (qaa Tryz.f172 2) (qds C a E F G H J K L A) .normal (qds C (a+1) E F G H J K L A):=
 h.lp [102,101,100,3] [3]
def qmC:St:=
 { env:=envOf 121 [],boxes:=[] }
theorem qBr(h:Oo [.f A a false]):
 Tp (qaa Tryz.f172 2) (qds A a C E F G H J K L) (.exit 4) qmC:=
 h.lp [] []
theorem qBs(h:Oo (y2E G a b N q P r M s Q t (qaa Tryz.f172 0) S U V R H J K L A C E F [.b ((E.length:Int) != 4) false,.l [] [91,90,89,3] [3] (qaa Tryz.f172 1) (qem H J K L A C E F 0) (.exit 2) (qmB H J K L A C E F),.l [] [102,101,100,3] [3] (qaa Tryz.f172 2) (qds F 0 H J K L A C E F) .ret (qjG u)])):
 Rt 172 [.agg (gr G a b),.agg (wk N P M Q S U V R)] [cB u]:=
 h.of
theorem qBt(h:Oo (y2E G a b N q P r M s Q t (qaa Tryz.f172 0) S U V R H J K L A C E F [.b ((E.length:Int) != 4) false,.l [] [91,90,89,3] [3] (qaa Tryz.f172 1) (qem H J K L A C E F 0) (.exit 2) (qmB H J K L A C E F),.l [] [102,101,100,3] [3] (qaa Tryz.f172 2) (qds F 0 H J K L A C E F) (.exit 4) qmC])):
 Rt 172 [.agg (gr G a b),.agg (wk N P M Q S U V R)] [cB true]:=
 h.of
def qcH(a:Int)(A:LL)(b c d e f:Int):St:=
 { env:=envOf 70 [(1,vP 1),(3,vI f)],boxes:=[(1,[lI a,.sl .free 5 A,lI b,lI c,lI d,lI e])] }
def qmD(q:Bool):St:=
 { env:=envOf 70 [(2,.al (.one (.sb q)))],boxes:=[] }
theorem qBu(h:Oo (y2o A c d e f a b q [.n q true])):
 Tp (qaa Tryz.f176 0) (qcH g A i j k l c) .ret (qmD false):=
 h.lp [2] []
theorem qBv(h:Oo (y2o A a j k l c d q [.n q false,.u a])):
 Tp (qaa Tryz.f176 0) (qcH b A e f g i a) .normal (qcH b A e f g i (a+1)):=
 h.lp [3,1] [1]
def qen(a:Int)(A:LL)(b c d e:Int):St:=
 { env:=envOf 70 [(1,vP 1)],boxes:=[(1,[lI a,.sl .free 5 A,lI b,lI c,lI d,lI e])] }
theorem qBw(h:Oo [.f A f false]):
 Tp (qaa Tryz.f176 0) (qcH a A b c d e f) (.exit 0) (qen a A b c d e):=
 h.lp [1] [1]
theorem qBx(h:Oo [.l [] [3,1] [1] (qaa Tryz.f176 0) (qcH a A b c d e 0) .ret (qmD q)]):
 Rt 176 [.agg (lk a A b c d e)] [cB q]:=
 h.of
def y2F(W:Code)(a:Int)(A:LL)(b c d e:Int)(q:Bool)(l:List O):List O:=.l [] [3,1] [1] W (qcH a A b c d e 0) (.exit 0) (qen a A b c d e)::.r 167 [cI a,cI 1,cI 4] [cB q]::l
def y2G(W:Code)(a:Int)(A:LL)(b c d e:Int)(q r:Bool)(l:List O):List O:=y2F W a A b c d e q (.b q true::.r 167 [cI b,cI 0,cI a] [cB r]::l)
def y2H(W:Code)(a:Int)(A:LL)(b c d e:Int)(q r s:Bool)(l:List O):List O:=y2G W a A b c d e q r (.b r true::.r 167 [cI c,cI 0,cI a] [cB s]::l)
def y2I(W:Code)(a:Int)(A:LL)(b c d e:Int)(q r s:Bool)(l:List O):List O:=y2H W a A b c d e q r s (.b s true::.v (b+c)::.v (b+c+(A.length:Int))::l)
def y2J(W:Code)(a:Int)(A:LL)(b c d e:Int)(q r s t:Bool)(l:List O):List O:=y2I W a A b c d e q r s (.b (b+c+(A.length:Int)==a) true::.r 167 [cI d,cI 0,cI 1000000000] [cB t]::l)
theorem qBy(h:Oo (y2J (qaa Tryz.f176 0) a A b c d e q r s t [.b t true,.v (d-(A.length:Int)),.b (e==d-(A.length:Int)) true])):
 Rt 176 [.agg (lk a A b c d e)] [cB (decide (e≥0))]:=
 h.of
theorem qBz(h:Oo (y2J (qaa Tryz.f176 0) a A b c d e q r s t [.b t true,.v (d-(A.length:Int)),.b (e==d-(A.length:Int)) false])):
 Rt 176 [.agg (lk a A b c d e)] [cB false]:=
 h.of
theorem qBA(h:Oo (y2J (qaa Tryz.f176 0) a A b c d e q r s t [.b t false])):
 Rt 176 [.agg (lk a A b c d e)] [cB false]:=
 h.of
theorem qBB(h:Oo (y2I (qaa Tryz.f176 0) a A b c d e q r s [.b (b+c+(A.length:Int)==a) false])):
 Rt 176 [.agg (lk a A b c d e)] [cB false]:=
 h.of
theorem qBC(h:Oo (y2H (qaa Tryz.f176 0) a A b c d e q r s [.b s false])):
 Rt 176 [.agg (lk a A b c d e)] [cB false]:=
 h.of
theorem qBD(h:Oo (y2G (qaa Tryz.f176 0) a A b c d e q r [.b r false])):
 Rt 176 [.agg (lk a A b c d e)] [cB false]:=
 h.of
theorem qBE(h:Oo (y2F (qaa Tryz.f176 0) a A b c d e q [.b q false])):
 Rt 176 [.agg (lk a A b c d e)] [cB false]:=
 h.of
def y2K(a:Int)(q:Bool)(l:List O):List O:=.r 158 [cI a,cI 1,cI 4] [cB q]::l
theorem qBF(h:Oo (y2K a q [.n q true])):
 Rt 173 [.agg (lk a A b c d e)] [cB false]:=
 h.of
def y2L(a:Int)(q:Bool)(b:Int)(r:Bool)(l:List O):List O:=y2K a q (.n q false::.r 158 [cI b,cI 0,cI a] [cB r]::l)
theorem qBG(h:Oo (y2L a q b r [.n r true])):
 Rt 173 [.agg (lk a A b c d e)] [cB false]:=
 h.of
def y2M(a:Int)(q:Bool)(b:Int)(r:Bool)(c:Int)(s:Bool)(l:List O):List O:=y2L a q b r (.n r false::.r 158 [cI c,cI 0,cI a] [cB s]::l)
theorem qBH(h:Oo (y2M a q b r c s [.n s true])):
 Rt 173 [.agg (lk a A b c d e)] [cB false]:=
 h.of
def y2N(a:Int)(q:Bool)(b:Int)(r:Bool)(c:Int)(s:Bool)(A:LL)(l:List O):List O:=y2M a q b r c s (.n s false::.v (b+c)::.v (b+c+(A.length:Int))::l)
theorem qBI(h:Oo (y2N a q b r c s A [.b (b+c+(A.length:Int) != a) true])):
 Rt 173 [.agg (lk a A b c d e)] [cB false]:=
 h.of
def y2O(a:Int)(q:Bool)(b:Int)(r:Bool)(c:Int)(s:Bool)(A:LL)(d:Int)(t:Bool)(l:List O):List O:=y2N a q b r c s A (.b (b+c+(A.length:Int) != a) false::.r 158 [cI d,cI 0,cI 1000000000] [cB t]::l)
theorem qBJ(h:Oo (y2O a q b r c s A d t [.n t true])):
 Rt 173 [.agg (lk a A b c d e)] [cB false]:=
 h.of
theorem qBK(h:Oo (y2O a q b r c s A d t [.n t false,.b (decide (e<0)) true])):
 Rt 173 [.agg (lk a A b c d e)] [cB false]:=
 h.of
theorem qBL(h:Oo (y2O a q b r c s A d t [.n t false,.b (decide (e<0)) false,.v (d-e),.b (d-e != (A.length:Int)) true])):
 Rt 173 [.agg (lk a A b c d e)] [cB false]:=
 h.of
theorem qBM(h:Oo (y2O a r b s c t A d u [.n u false,.b (decide (e<0)) false,.v (d-e),.b (d-e != (A.length:Int)) false,.r 279 [cS 5 A] [cB q]])):
 Rt 173 [.agg (lk a A b c d e)] [cB q]:=
 h.of
def qfk(A:LL)(a:Int):St:=
 { env:=envOf 15 [(5,vF 5 A),(6,vI (A.length:Int)),(7,vI a)],boxes:=[] }
def qmE(q:Bool):St:=
 { env:=envOf 15 [(2,.al (.one (.sb q)))],boxes:=[] }
theorem qBN(h:Oo (y2p A a b c d e f q [.n q true])):
 Tp (qaa Tryz.f279 0) (qfk A a) .ret (qmE false):=
 h.lp [2] []
theorem qBO(h:Oo (y2p A a b c d e f q [.n q false,.u a])):
 Tp (qaa Tryz.f279 0) (qfk A a) .normal (qfk A (a+1)):=
 h.lp [7,6,5] []
def qqX:St:=
 { env:=envOf 15 [],boxes:=[] }
theorem qBP(h:Oo [.f A a false]):
 Tp (qaa Tryz.f279 0) (qfk A a) (.exit 0) qqX:=
 h.lp [] []
theorem qBQ(h:Oo [.l [] [7,6,5] [] (qaa Tryz.f279 0) (qfk A 0) .ret (qmE q)]):
 Rt 279 [cS 5 A] [cB q]:=
 h.of
theorem qBR(h:Oo [.l [] [7,6,5] [] (qaa Tryz.f279 0) (qfk A 0) (.exit 0) qqX]):
 Rt 279 [cS 5 A] [cB true]:=
 h.of
def y2P(A:LL)(a b:Int)(q:Bool)(l:List O):List O:=.r 121 [.agg (gr A a b)] [cB q]::l
theorem qBS(h:Oo (y2P A a b q [.n q true])):
 Rt 56 [.agg (cl A a b C E F G)] [cB false]:=
 h.of
theorem qBT(h:Oo (y2P A a b q [.n q false,.b ((C.length:Int) != a) true])):
 Rt 56 [.agg (cl A a b C E F G)] [cB false]:=
 h.of
def y2Q(A:LL)(a b:Int)(q:Bool)(C:LL)(l:List O):List O:=y2P A a b q (.n q false::.b ((C.length:Int) != a) false::.v (a*a)::l)
theorem qBU(h:Oo (y2Q A a b q C [.b ((E.length:Int) != a*a) true])):
 Rt 56 [.agg (cl A a b C E F G)] [cB false]:=
 h.of
def y2R(A:LL)(a b:Int)(q:Bool)(C E:LL)(l:List O):List O:=y2Q A a b q C (.b ((E.length:Int) != a*a) false::l)
theorem qBV(h:Oo (y2R A a b q C E [.b ((F.length:Int) != 4) true])):
 Rt 56 [.agg (cl A a b C E F G)] [cB false]:=
 h.of
def qcU(A:LL)(a b:Int)(C E F G:LL)(c:Int):St:=
 { env:=envOf 170 [(1,vP 1),(3,vI a),(4,vI c)],boxes:=[(1,[.sl .free 4 A,lI a,lI b,.sl .free 8 C,.sl .free 6 E,.sl .free 5 F,.sl .free 3 G])] }
def qjH(q:Bool):St:=
 { env:=envOf 170 [(2,.al (.one (.sb q)))],boxes:=[] }
theorem qBW(h:Oo [.b (decide (b<a)) true,.x L b (wk M C E F G H J K),.r 175 [.agg (gr A a c),.agg (wk M C E F G H J K)] [cB q],.n q true]):
 Tp (qaa Tryz.f56 0) (qcU A a c L N P Q b) .ret (qjH false):=
 h.lp [2] []
theorem qBX(h:Oo [.b (decide (a<b)) true,.x C a (wk Q E F G H J K L),.r 175 [.agg (gr A b c),.agg (wk Q E F G H J K L)] [cB q],.n q false,.u a]):
 Tp (qaa Tryz.f56 0) (qcU A b c C M N P a) .normal (qcU A b c C M N P (a+1)):=
 h.lp [4,3,1] [1]
def qgq(A:LL)(a b:Int)(C E F G:LL):St:=
 { env:=envOf 170 [(1,vP 1),(3,vI a)],boxes:=[(1,[.sl .free 4 A,lI a,lI b,.sl .free 8 C,.sl .free 6 E,.sl .free 5 F,.sl .free 3 G])] }
theorem qBY(h:Oo [.b (decide (c<a)) false]):
 Tp (qaa Tryz.f56 0) (qcU A a b C E F G c) (.exit 0) (qgq A a b C E F G):=
 h.lp [1,3] [1]
def y2S(A:LL)(a b:Int)(q:Bool)(C E F:LL)(l:List O):List O:=y2R A a b q C E (.b ((F.length:Int) != 4) false::l)
theorem qBZ(h:Oo (y2S A a b q C E F [.l [] [4,3,1] [1] (qaa Tryz.f56 0) (qcU A a b C E F G 0) .ret (qjH r)])):
 Rt 56 [.agg (cl A a b C E F G)] [cB r]:=
 h.of
def qb7(a b:Int)(A:LL)(c d:Int)(C E F G:LL):St:=
 { env:=envOf 170 [(1,vP 1),(3,vI a),(5,vI b)],boxes:=[(1,[.sl .free 4 A,lI c,lI d,.sl .free 8 C,.sl .free 6 E,.sl .free 5 F,.sl .free 3 G])] }
def qgr(q:Bool):St:=
 { env:=envOf 170 [(2,.al (.one (.sb q)))],boxes:=[] }
def y2h(A:LL)(a b:Int)(C:LL)(c d e f:Int)(q:Bool)(l:List O):List O:=.i A a (lk b C c d e f)::.r 176 [.agg (lk b C c d e f)] [cB q]::l
theorem qB0(h:Oo (y2h A f a C b c d e q [.n q true])):
 Tp (qaa Tryz.f56 1) (qb7 g f H i j E A F G) .ret (qgr false):=
 h.lp [2] []
theorem qB1(h:Oo (y2h A g a C c d e f q [.n q false,.b (a != b) true])):
 Tp (qaa Tryz.f56 1) (qb7 i g H j b E A F G) .ret (qgr false):=
 h.lp [2] []
def y2i(A:LL)(a b:Int)(C:LL)(c d e f:Int)(q:Bool)(g:Int)(E:LL)(i:Int)(r:Bool)(l:List O):List O:=y2h A a b C c d e f q (.n q false::.b (b != g) false::.r 177 [.agg (gr E i g),cS 5 C] [cB r]::l)
theorem qB2(h:Oo (y2i C i b A d e f g q a E c r [.n r true])):
 Tp (qaa Tryz.f56 1) (qb7 j i E c a F C G H) .ret (qgr false):=
 h.lp [2] []
theorem qB3(h:Oo (y2i C b d A f g i j q c E e r [.n r false,.p (a≠0),.v (b.tdiv a),.p (a≠0),.b (b.tdiv a==b.tmod a) true,.b (decide ((A.length:Int)>0)) true])):
 Tp (qaa Tryz.f56 1) (qb7 a b E e c F C G H) .ret (qgr false):=
 h.lp [2] []
theorem qB4(h:Oo (y2i C b e A f g i j q c E d r [.n r false,.p (a≠0),.v (b.tdiv a),.p (a≠0),.b (b.tdiv a==b.tmod a) true,.b (decide ((A.length:Int)>0)) false,.u b])):
 Tp (qaa Tryz.f56 1) (qb7 a b E d c F C G H) .normal (qb7 a (b+1) E d c F C G H):=
 h.lp [5,1,3] [1]
theorem qB5(h:Oo (y2i A b e C f g i j q c E d r [.n r false,.p (a≠0),.v (b.tdiv a),.p (a≠0),.b (b.tdiv a==b.tmod a) false,.u b])):
 Tp (qaa Tryz.f56 1) (qb7 a b E d c F A G H) .normal (qb7 a (b+1) E d c F A G H):=
 h.lp [5,1,3] [1]
def qhE(a:Int)(A:LL)(b c:Int)(C E F G:LL):St:=
 { env:=envOf 170 [(1,vP 1),(3,vI a)],boxes:=[(1,[.sl .free 4 A,lI b,lI c,.sl .free 8 C,.sl .free 6 E,.sl .free 5 F,.sl .free 3 G])] }
theorem qB6(h:Oo [.f A d false]):
 Tp (qaa Tryz.f56 1) (qb7 a d G b c C A E F) (.exit 2) (qhE a G b c C A E F):=
 h.lp [1,3] [1]
def y2T(A:LL)(a b:Int)(q:Bool)(C E F:LL)(W:Code)(G:LL)(l:List O):List O:=y2S A a b q C E F (.l [] [4,3,1] [1] W (qcU A a b C E F G 0) (.exit 0) (qgq A a b C E F G)::l)
theorem qB7(h:Oo (y2T A a b q C E F (qaa Tryz.f56 0) G [.l [] [5,1,3] [1] (qaa Tryz.f56 1) (qb7 a 0 A a b C E F G) .ret (qgr r)])):
 Rt 56 [.agg (cl A a b C E F G)] [cB r]:=
 h.of
def qcj(a:Int)(A:LL)(b c:Int)(C E F G:LL)(d:Int):St:=
 { env:=envOf 170 [(1,vP 1),(3,vI a),(7,vI d)],boxes:=[(1,[.sl .free 4 A,lI b,lI c,.sl .free 8 C,.sl .free 6 E,.sl .free 5 F,.sl .free 3 G])] }
def qfl(q:Bool):St:=
 { env:=envOf 170 [(2,.al (.one (.sb q)))],boxes:=[] }
def y2U(A:LL)(a:Int)(q:Bool)(b c:Int)(r s:Bool)(d:Int)(l:List O):List O:=.i A a [B q,I b,I c,B r,B s]::.v (d-1)::l
def y2V(A:LL)(a:Int)(q:Bool)(b c:Int)(r s:Bool)(d:Int)(t:Bool)(l:List O):List O:=y2U A a q b c r s d (.r 167 [cI b,cI 0,cI (d-1)] [cB t]::l)
theorem qB8(h:Oo (y2V A b r c e s t a q [.n q true])):
 Tp (qaa Tryz.f56 2) (qcj a G f d C E A F b) .ret (qfl false):=
 h.lp [2] []
def y2W(A:LL)(a:Int)(q:Bool)(b c:Int)(r s:Bool)(d:Int)(t u:Bool)(e f:Int)(v w:Bool)(l:List O):List O:=y2V A a q b c r s d t (.n t false::.x A a [B u,I e,I f,B v,B w]::l)
theorem qB9(h:Oo (y2W A a s c f t u b q r g i v w [.n r true,.x A a [B x,I d,I j,B y,B z],.b (d != 0) true])):
 Tp (qaa Tryz.f56 2) (qcj b G k e C E A F a) .ret (qfl false):=
 h.lp [2] []
theorem qCa(h:Oo (y2W A a t c g u v b q r i j w x [.n r true,.x A a [B y,I d,I k,B z,B q0],.b (d != 0) false,.x A a [B r0,I l,I e,B s0,B t0],.r 167 [cI e,cI (-1000000),cI 1000000] [cB s],.n s true])):
 Tp (qaa Tryz.f56 2) (qcj b G m f C E A F a) .ret (qfl false):=
 h.lp [2] []
theorem qCb(h:Oo (y2W A a t d i u v b q r j k w x [.n r true,.x A a [B y,I e,I l,B z,B q0],.b (e != 0) false,.x A a [B r0,I m,I f,B s0,B t0],.r 167 [cI f,cI (-1000000),cI 1000000] [cB s],.n s false,.u a])):
 Tp (qaa Tryz.f56 2) (qcj b G g c C E A F a) .normal (qcj b G g c C E A F (a+1)):=
 h.lp [7,1,3] [1]
theorem qCc(h:Oo (y2W A a t c f u v b q r g i w x [.n r false,.x A a [B y,I j,I d,B z,B q0],.r 167 [cI d,cI (-1000000),cI 1000000] [cB s],.n s true])):
 Tp (qaa Tryz.f56 2) (qcj b G k e C E A F a) .ret (qfl false):=
 h.lp [2] []
theorem qCd(h:Oo (y2W A a t d g u v b q r i j w x [.n r false,.x A a [B y,I k,I e,B z,B q0],.r 167 [cI e,cI (-1000000),cI 1000000] [cB s],.n s false,.u a])):
 Tp (qaa Tryz.f56 2) (qcj b G f c C E A F a) .normal (qcj b G f c C E A F (a+1)):=
 h.lp [7,1,3] [1]
def qjI(a:Int)(A:LL)(b c:Int)(C E F G:LL):St:=
 { env:=envOf 170 [(1,vP 1),(3,vI a)],boxes:=[(1,[.sl .free 4 A,lI b,lI c,.sl .free 8 C,.sl .free 6 E,.sl .free 5 F,.sl .free 3 G])] }
theorem qCe(h:Oo [.f A c false]):
 Tp (qaa Tryz.f56 2) (qcj a G d b C E A F c) (.exit 4) (qjI a G d b C E A F):=
 h.lp [1,3] [1]
theorem qCf(h:Oo (y2T A a b r C E F (qaa Tryz.f56 0) G [.l [] [5,1,3] [1] (qaa Tryz.f56 1) (qb7 a 0 A a b C E F G) (.exit 2) (qhE a M d c H J K L),.l [] [7,1,3] [1] (qaa Tryz.f56 2) (qcj a M d c H J K L 0) .ret (qfl q)])):
 Rt 56 [.agg (cl A a b C E F G)] [cB q]:=
 h.of
def qdt(a:Int)(A:LL)(b c:Int)(C E F G:LL)(d:Int):St:=
 { env:=envOf 170 [(1,vP 1),(3,vI a),(8,vI d)],boxes:=[(1,[.sl .free 4 A,lI b,lI c,.sl .free 8 C,.sl .free 6 E,.sl .free 5 F,.sl .free 3 G])] }
def qhF(q:Bool):St:=
 { env:=envOf 170 [(2,.al (.one (.sb q)))],boxes:=[] }
theorem qCg(h:Oo [.i A b [I c,I e,B r],.v (a-1),.r 167 [cI c,cI 0,cI (a-1)] [cB q],.n q true]):
 Tp (qaa Tryz.f56 3) (qdt a G f d C E F A b) .ret (qhF false):=
 h.lp [2] []
theorem qCh(h:Oo [.i A b [I c,I f,B s],.v (a-1),.r 167 [cI c,cI 0,cI (a-1)] [cB q],.n q false,.x A b [I g,I d,B t],.r 167 [cI d,cI 0,cI 3] [cB r],.n r true]):
 Tp (qaa Tryz.f56 3) (qdt a G i e C E F A b) .ret (qhF false):=
 h.lp [2] []
theorem qCi(h:Oo [.i A a [I d,I g,B s],.v (b-1),.r 167 [cI d,cI 0,cI (b-1)] [cB q],.n q false,.x A a [I i,I e,B t],.r 167 [cI e,cI 0,cI 3] [cB r],.n r false,.u a]):
 Tp (qaa Tryz.f56 3) (qdt b G f c C E F A a) .normal (qdt b G f c C E F A (a+1)):=
 h.lp [8,1,3] [1]
def qmF:St:=
 { env:=envOf 170 [],boxes:=[] }
theorem qCj(h:Oo [.f A a false]):
 Tp (qaa Tryz.f56 3) (qdt b G d c C E F A a) (.exit 6) qmF:=
 h.lp [] []
theorem qCk(h:Oo (y2T A a b r C E F (qaa Tryz.f56 0) L [.l [] [5,1,3] [1] (qaa Tryz.f56 1) (qb7 a 0 A a b C E F L) (.exit 2) (qhE a M d c G H J K),.l [] [7,1,3] [1] (qaa Tryz.f56 2) (qcj a M d c G H J K 0) (.exit 4) (qjI a M d c G H J K),.l [] [8,1,3] [1] (qaa Tryz.f56 3) (qdt a M d c G H J K 0) .ret (qhF q)])):
 Rt 56 [.agg (cl A a b C E F L)] [cB q]:=
 h.of
theorem qCl(h:Oo (y2T A a b q C E F (qaa Tryz.f56 0) L [.l [] [5,1,3] [1] (qaa Tryz.f56 1) (qb7 a 0 A a b C E F L) (.exit 2) (qhE a M d c G H J K),.l [] [7,1,3] [1] (qaa Tryz.f56 2) (qcj a M d c G H J K 0) (.exit 4) (qjI a M d c G H J K),.l [] [8,1,3] [1] (qaa Tryz.f56 3) (qdt a M d c G H J K 0) (.exit 6) qmF])):
 Rt 56 [.agg (cl A a b C E F L)] [cB true]:=
 h.of
def y2Y(A:LL)(a b:Int)(q:Bool)(l:List O):List O:=.r 144 [.agg (gr A a b)] [cB q]::l
theorem qCm(h:Oo (y2Y A a b q [.n q true])):
 Rt 55 [.agg (cl A a b C E F G)] [cB false]:=
 h.of
theorem qCn(h:Oo (y2Y A a b q [.n q false,.b ((C.length:Int) != a) true])):
 Rt 55 [.agg (cl A a b C E F G)] [cB false]:=
 h.of
def y2Z(A:LL)(a b:Int)(q:Bool)(C:LL)(l:List O):List O:=y2Y A a b q (.n q false::.b ((C.length:Int) != a) false::.v (a*a)::l)
theorem qCo(h:Oo (y2Z A a b q C [.b ((E.length:Int) != a*a) true])):
 Rt 55 [.agg (cl A a b C E F G)] [cB false]:=
 h.of
def y30(A:LL)(a b:Int)(q:Bool)(C E:LL)(l:List O):List O:=y2Z A a b q C (.b ((E.length:Int) != a*a) false::l)
theorem qCp(h:Oo (y30 A a b q C E [.b ((F.length:Int) != 4) true])):
 Rt 55 [.agg (cl A a b C E F G)] [cB false]:=
 h.of
def qcV(a:Int)(A:LL)(b:Int)(C:LL)(c d:Int)(E F G H:LL):St:=
 { env:=envOf 147 [(1,vP 1),(3,vI a),(42,vF 8 A),(43,vI (A.length:Int)),(44,vI b)],boxes:=[(1,[.sl .free 4 C,lI c,lI d,.sl .free 8 E,.sl .free 6 F,.sl .free 5 G,.sl .free 3 H])] }
def qjJ(q:Bool):St:=
 { env:=envOf 147 [(2,.al (.one (.sb q)))],boxes:=[] }
theorem qCq(h:Oo [.i L c (wk A C E F G H J K),.r 172 [.agg (gr M a b),.agg (wk A C E F G H J K)] [cB q],.n q true]):
 Tp (qaa Tryz.f55 0) (qcV d L c M a b N P Q R) .ret (qjJ false):=
 h.lp [2] []
theorem qCr(h:Oo [.i A a (wk J K L M N P Q R),.r 172 [.agg (gr C b c),.agg (wk J K L M N P Q R)] [cB q],.n q false,.u a]):
 Tp (qaa Tryz.f55 0) (qcV d A a C b c E F G H) .normal (qcV d A (a+1) C b c E F G H):=
 h.lp [44,43,42,1,3] [1]
def qgs(a:Int)(A:LL)(b c:Int)(C E F G:LL):St:=
 { env:=envOf 147 [(1,vP 1),(3,vI a)],boxes:=[(1,[.sl .free 4 A,lI b,lI c,.sl .free 8 C,.sl .free 6 E,.sl .free 5 F,.sl .free 3 G])] }
theorem qCs(h:Oo [.f G d false]):
 Tp (qaa Tryz.f55 0) (qcV a G d H b c A C E F) (.exit 0) (qgs a H b c A C E F):=
 h.lp [1,3] [1]
def y31(A:LL)(a b:Int)(q:Bool)(C E F:LL)(l:List O):List O:=y30 A a b q C E (.b ((F.length:Int) != 4) false::l)
theorem qCt(h:Oo (y31 C a b q A E F [.l [] [44,43,42,1,3] [1] (qaa Tryz.f55 0) (qcV a A 0 C a b A E F G) .ret (qjJ r)])):
 Rt 55 [.agg (cl C a b A E F G)] [cB r]:=
 h.of
def qb8(a:Int)(A:LL)(b:Int)(C:LL)(c d:Int)(E F G H:LL):St:=
 { env:=envOf 147 [(1,vP 1),(3,vI a),(55,vF 6 A),(56,vI (A.length:Int)),(57,vI b)],boxes:=[(1,[.sl .free 4 C,lI c,lI d,.sl .free 8 E,.sl .free 6 F,.sl .free 5 G,.sl .free 3 H])] }
def qgt(q:Bool):St:=
 { env:=envOf 147 [(2,.al (.one (.sb q)))],boxes:=[] }
def y2j(A:LL)(a b:Int)(C:LL)(c d e f:Int)(q:Bool)(l:List O):List O:=.i A a (lk b C c d e f)::.r 173 [.agg (lk b C c d e f)] [cB q]::l
theorem qCu(h:Oo (y2j A a b C c d e f q [.n q true])):
 Tp (qaa Tryz.f55 1) (qb8 g A a E i j F G H J) .ret (qgt false):=
 h.lp [2] []
theorem qCv(h:Oo (y2j A b a C d e f g q [.n q false,.b (a != c) true])):
 Tp (qaa Tryz.f55 1) (qb8 i A b E j c F G H J) .ret (qgt false):=
 h.lp [2] []
def y2k(A:LL)(a b:Int)(C:LL)(c d e f:Int)(q:Bool)(g:Int)(E:LL)(i:Int)(r:Bool)(l:List O):List O:=y2j A a b C c d e f q (.n q false::.b (b != g) false::.r 174 [.agg (gr E i g),cS 5 C] [cB r]::l)
theorem qCw(h:Oo (y2k C c b A e f g i q a E d r [.n r true])):
 Tp (qaa Tryz.f55 1) (qb8 j C c E d a F G H J) .ret (qgt false):=
 h.lp [2] []
theorem qCx(h:Oo (y2k C b d A f g i j q c E e r [.n r false,.p (a≠0),.v (b.tdiv a),.p (a≠0),.b (b.tdiv a==b.tmod a) true,.b (decide ((A.length:Int)>0)) true])):
 Tp (qaa Tryz.f55 1) (qb8 a C b E e c F G H J) .ret (qgt false):=
 h.lp [2] []
theorem qCy(h:Oo (y2k C b e A f g i j q c E d r [.n r false,.p (a≠0),.v (b.tdiv a),.p (a≠0),.b (b.tdiv a==b.tmod a) true,.b (decide ((A.length:Int)>0)) false,.u b])):
 Tp (qaa Tryz.f55 1) (qb8 a C b E d c F G H J) .normal (qb8 a C (b+1) E d c F G H J):=
 h.lp [57,56,55,1,3] [1]
theorem qCz(h:Oo (y2k A b e E f g i j q c C d r [.n r false,.p (a≠0),.v (b.tdiv a),.p (a≠0),.b (b.tdiv a==b.tmod a) false,.u b])):
 Tp (qaa Tryz.f55 1) (qb8 a A b C d c F G H J) .normal (qb8 a A (b+1) C d c F G H J):=
 h.lp [57,56,55,1,3] [1]
def qhG(a:Int)(A:LL)(b c:Int)(C E F G:LL):St:=
 { env:=envOf 147 [(1,vP 1),(3,vI a)],boxes:=[(1,[.sl .free 4 A,lI b,lI c,.sl .free 8 C,.sl .free 6 E,.sl .free 5 F,.sl .free 3 G])] }
theorem qCA(h:Oo [.f A b false]):
 Tp (qaa Tryz.f55 1) (qb8 a A b C c d E F G H) (.exit 2) (qhG a C c d E F G H):=
 h.lp [1,3] [1]
def y32(A:LL)(a b:Int)(q:Bool)(C E F:LL)(W:Code)(G H:LL)(c d:Int)(J K L M:LL)(l:List O):List O:=y31 A a b q C E F (.l [] [44,43,42,1,3] [1] W (qcV a C 0 A a b C E F G) (.exit 0) (qgs a H c d J K L M)::l)
theorem qCB(h:Oo (y32 C a b r A F G (qaa Tryz.f55 0) L M d c H E J K [.l [] [57,56,55,1,3] [1] (qaa Tryz.f55 1) (qb8 a E 0 M d c H E J K) .ret (qgt q)])):
 Rt 55 [.agg (cl C a b A F G L)] [cB q]:=
 h.of
def qck(a:Int)(A:LL)(b:Int)(C:LL)(c d:Int)(E F G H:LL):St:=
 { env:=envOf 147 [(1,vP 1),(3,vI a),(98,vF 5 A),(99,vI (A.length:Int)),(100,vI b)],boxes:=[(1,[.sl .free 4 C,lI c,lI d,.sl .free 8 E,.sl .free 6 F,.sl .free 5 G,.sl .free 3 H])] }
def qfm(q:Bool):St:=
 { env:=envOf 147 [(2,.al (.one (.sb q)))],boxes:=[] }
def y2X(A:LL)(a:Int)(q:Bool)(b c:Int)(r s:Bool)(d:Int)(t:Bool)(l:List O):List O:=y2U A a q b c r s d (.r 158 [cI b,cI 0,cI (d-1)] [cB t]::l)
theorem qCC(h:Oo (y2X A b r c f s t a q [.n q true])):
 Tp (qaa Tryz.f55 2) (qck a A b C d e E F G H) .ret (qfm false):=
 h.lp [2] []
theorem qCD(h:Oo (y2X A c q b f s t a r [.n r false,.n q true,.b (b != 0) true])):
 Tp (qaa Tryz.f55 2) (qck a A c C d e E F G H) .ret (qfm false):=
 h.lp [2] []
theorem qCE(h:Oo (y2X A c q b d t u a r [.n r false,.n q true,.b (b != 0) false,.r 158 [cI d,cI (-1000000),cI 1000000] [cB s],.n s true])):
 Tp (qaa Tryz.f55 2) (qck a A c C e f E F G H) .ret (qfm false):=
 h.lp [2] []
theorem qCF(h:Oo (y2X A b q c f t u a r [.n r false,.n q true,.b (c != 0) false,.r 158 [cI f,cI (-1000000),cI 1000000] [cB s],.n s false,.u b])):
 Tp (qaa Tryz.f55 2) (qck a A b C d e E F G H) .normal (qck a A (b+1) C d e E F G H):=
 h.lp [100,99,98,3,1] [1]
theorem qCG(h:Oo (y2X A b q c d t u a r [.n r false,.n q false,.r 158 [cI d,cI (-1000000),cI 1000000] [cB s],.n s true])):
 Tp (qaa Tryz.f55 2) (qck a A b C e f E F G H) .ret (qfm false):=
 h.lp [2] []
theorem qCH(h:Oo (y2X A b q e f t u a r [.n r false,.n q false,.r 158 [cI f,cI (-1000000),cI 1000000] [cB s],.n s false,.u b])):
 Tp (qaa Tryz.f55 2) (qck a A b C c d E F G H) .normal (qck a A (b+1) C c d E F G H):=
 h.lp [100,99,98,3,1] [1]
def qjK(a:Int)(A:LL)(b c:Int)(C E F G:LL):St:=
 { env:=envOf 147 [(1,vP 1),(3,vI a)],boxes:=[(1,[.sl .free 4 A,lI b,lI c,.sl .free 8 C,.sl .free 6 E,.sl .free 5 F,.sl .free 3 G])] }
theorem qCI(h:Oo [.f A b false]):
 Tp (qaa Tryz.f55 2) (qck a A b C c d E F G H) (.exit 4) (qjK a C c d E F G H):=
 h.lp [1,3] [1]
theorem qCJ(h:Oo (y32 C a b r A G H (qaa Tryz.f55 0) R S f c J E K L [.l [] [57,56,55,1,3] [1] (qaa Tryz.f55 1) (qb8 a E 0 S f c J E K L) (.exit 2) (qhG a M d e N P F Q),.l [] [100,99,98,3,1] [1] (qaa Tryz.f55 2) (qck a F 0 M d e N P F Q) .ret (qfm q)])):
 Rt 55 [.agg (cl C a b A G H R)] [cB q]:=
 h.of
def qdu(a:Int)(A:LL)(b:Int):St:=
 { env:=envOf 147 [(3,vI a),(128,vF 3 A),(129,vI (A.length:Int)),(130,vI b)],boxes:=[] }
def qhH(q:Bool):St:=
 { env:=envOf 147 [(2,.al (.one (.sb q)))],boxes:=[] }
theorem qCK(h:Oo [.i A b [I c,I d,B r],.v (a-1),.r 158 [cI c,cI 0,cI (a-1)] [cB q],.n q true]):
 Tp (qaa Tryz.f55 3) (qdu a A b) .ret (qhH false):=
 h.lp [2] []
theorem qCL(h:Oo [.i A b [I c,I d,B s],.v (a-1),.r 158 [cI c,cI 0,cI (a-1)] [cB q],.n q false,.r 158 [cI d,cI 0,cI 3] [cB r],.n r true]):
 Tp (qaa Tryz.f55 3) (qdu a A b) .ret (qhH false):=
 h.lp [2] []
theorem qCM(h:Oo [.i A b [I c,I d,B s],.v (a-1),.r 158 [cI c,cI 0,cI (a-1)] [cB q],.n q false,.r 158 [cI d,cI 0,cI 3] [cB r],.n r false,.u b]):
 Tp (qaa Tryz.f55 3) (qdu a A b) .normal (qdu a A (b+1)):=
 h.lp [130,129,128,3] []
def qmG:St:=
 { env:=envOf 147 [],boxes:=[] }
theorem qCN(h:Oo [.f A a false]):
 Tp (qaa Tryz.f55 3) (qdu b A a) (.exit 6) qmG:=
 h.lp [] []
theorem qCO(h:Oo (y32 C a b r A G H (qaa Tryz.f55 0) S U f c J E K L [.l [] [57,56,55,1,3] [1] (qaa Tryz.f55 1) (qb8 a E 0 U f c J E K L) (.exit 2) (qhG a M d e N P F Q),.l [] [100,99,98,3,1] [1] (qaa Tryz.f55 2) (qck a F 0 M d e N P F Q) (.exit 4) (qjK a V g i W X Y R),.l [] [130,129,128,3] [] (qaa Tryz.f55 3) (qdu a R 0) .ret (qhH q)])):
 Rt 55 [.agg (cl C a b A G H S)] [cB q]:=
 h.of
theorem qCP(h:Oo (y32 C a b q A G H (qaa Tryz.f55 0) S U f c J E K L [.l [] [57,56,55,1,3] [1] (qaa Tryz.f55 1) (qb8 a E 0 U f c J E K L) (.exit 2) (qhG a M d e N P F Q),.l [] [100,99,98,3,1] [1] (qaa Tryz.f55 2) (qck a F 0 M d e N P F Q) (.exit 4) (qjK a V g i W X Y R),.l [] [130,129,128,3] [] (qaa Tryz.f55 3) (qdu a R 0) (.exit 6) qmG])):
 Rt 55 [.agg (cl C a b A G H S)] [cB true]:=
 h.of
theorem qCQ(h:Oo [.r 55 [.agg (cl A a b C E F G)] [cB q],.n q true]):
 Rt 32 [.agg (cl A a b C E F G)] [cB false]:=
 h.of
def y33(A:LL)(a b:Int)(C E F G:LL)(q r:Bool)(l:List O):List O:=.r 55 [.agg (cl A a b C E F G)] [cB q]::.n q false::.r 34 [.agg (cl A a b C E F G)] [cB r]::l
theorem qCR(h:Oo (y33 A a b C E F G q r [.n r true])):
 Rt 32 [.agg (cl A a b C E F G)] [cB false]:=
 h.of
theorem qCS(h:Oo (y33 A a b C E F G q r [.n r false,.r 35 [.agg (cl A a b C E F G)] [cB s],.n s true])):
 Rt 32 [.agg (cl A a b C E F G)] [cB false]:=
 h.of
def qeo(A:LL)(a b:Int)(C E F G:LL)(c:Int):St:=
 { env:=envOf 31 [(1,vP 1),(3,vI c)],boxes:=[(1,[.sl .free 4 A,lI a,lI b,.sl .free 8 C,.sl .free 6 E,.sl .free 5 F,.sl .free 3 G])] }
def qjL(q:Bool):St:=
 { env:=envOf 31 [(2,.al (.one (.sb q)))],boxes:=[] }
theorem qCT(h:Oo [.b (decide (a≤3)) true,.r 96 [.agg (cl A b c C E F G),cI a] [cB q],.n q true]):
 Tp (qaa Tryz.f32 0) (qeo A b c C E F G a) .ret (qjL false):=
 h.lp [2] []
theorem qCU(h:Oo [.b (decide (a≤3)) true,.r 96 [.agg (cl A b c C E F G),cI a] [cB q],.n q false,.r 98 [.agg (cl A b c C E F G),cI a] [cB r],.n r true]):
 Tp (qaa Tryz.f32 0) (qeo A b c C E F G a) .ret (qjL false):=
 h.lp [2] []
theorem qCV(h:Oo [.b (decide (a≤3)) true,.r 96 [.agg (cl A b c C E F G),cI a] [cB q],.n q false,.r 98 [.agg (cl A b c C E F G),cI a] [cB r],.n r false,.u a]):
 Tp (qaa Tryz.f32 0) (qeo A b c C E F G a) .normal (qeo A b c C E F G (a+1)):=
 h.lp [3,1] [1]
def qqY:St:=
 { env:=envOf 31 [],boxes:=[] }
theorem qCW(h:Oo [.b (decide (a≤3)) false]):
 Tp (qaa Tryz.f32 0) (qeo A b c C E F G a) (.exit 0) qqY:=
 h.lp [] []
theorem qCX(h:Oo (y33 A a b C E F G r s [.n s false,.r 35 [.agg (cl A a b C E F G)] [cB t],.n t false,.l [] [3,1] [1] (qaa Tryz.f32 0) (qeo A a b C E F G 0) .ret (qjL q)])):
 Rt 32 [.agg (cl A a b C E F G)] [cB q]:=
 h.of
theorem qCY(h:Oo (y33 A a b C E F G q r [.n r false,.r 35 [.agg (cl A a b C E F G)] [cB s],.n s false,.l [] [3,1] [1] (qaa Tryz.f32 0) (qeo A a b C E F G 0) (.exit 0) qqY])):
 Rt 32 [.agg (cl A a b C E F G)] [cB true]:=
 h.of
end Go.Proofs.YtdkobdhckkjmeaaGreat
