import Derived.Test.YtdkobdhckkjmeaaGreatRows
import Derived.Test.YtdkobdhckkjmeaaGreatGE
set_option linter.unusedVariables false
set_option linter.unusedSimpArgs false
namespace Go.Proofs.YtdkobdhckkjmeaaGreat
open Go.Sx Go.RowKit
variable {a b c d e f g i j k l m n o p a0 b0 c0 d0 e0 f0 : Int} {A C E F G H J K L M N P Q R S U V W X Y Z A0 C0 E0 F0 : LL} {q r : Bool}
theorem qKK(h:Oo [.r 121 [.agg (gr A a b)] [cB q],.n q true]):
 Rt 17 [.agg (gr A a b),cS 5 C] [.agg (cl [] 0 0 [] [] [] []),cB false]:=
 h.of
theorem qKL(h:Oo [.r 121 [.agg (gr A a b)] [cB q],.n q false,.b (decide ((C.length:Int)>20)) true]):
 Rt 17 [.agg (gr A a b),cS 5 C] [.agg (cl [] 0 0 [] [] [] []),cB false]:=
 h.of
def qdf(A:LL)(a b c:Int)(C:LL)(d e:Int):St:=
 { env:=envOf 84 [(1,vF 5 A),(2,vP 2),(4,vP 4),(6,vI a)],boxes:=[(4,[.v (sn),lI b,lI c,.v (sn),.v (sn),.v (sn),.v (sn)]),(2,[.sl .free 4 C,lI d,lI e])] }
def qgK(q:Bool)(a b:Int):St:=
 { env:=envOf 84 [(4,vP 4),(5,.al (.one (.sb q)))],boxes:=[(4,[.v (sn),lI a,lI b,.v (sn),.v (sn),.v (sn),.v (sn)])] }
def y3N(A:LL)(a b c d e f:Int)(q:Bool)(l:List O):List O:=.i A a (ri b c d e f)::.r 122 [.agg (ri b c d e f)] [cB q]::l
theorem qKM(h:Oo (y3N A f a b c d e q [.n q true])):
 Tp (qaa Tryz.f17 0) (qdf A f i j C k g) .ret (qgK false 0 0):=
 h.lp [4,5] [4]
theorem qKN(h:Oo (y3N A a b c d e f q [.n q false,.x A a (ri g j k l m),.b (g != 0) true])):
 Tp (qaa Tryz.f17 0) (qdf A a n o C p i) .ret (qgK false 0 0):=
 h.lp [4,5] [4]
theorem qKO(h:Oo (y3N A a b c d e f q [.n q false,.x A a (ri g k l m n),.b (g != 0) false,.x A a (ri o p i a0 b0),.b (i != 0) true])):
 Tp (qaa Tryz.f17 0) (qdf A a c0 d0 C e0 j) .ret (qgK false 0 0):=
 h.lp [4,5] [4]
theorem qKP(h:Oo (y3N A a c d e f g q [.n q false,.x A a (ri i n o p a0),.b (i != 0) false,.x A a (ri b0 c0 j d0 e0),.b (j != 0) false,.u a])):
 Tp (qaa Tryz.f17 0) (qdf A a k l C m b) .normal (qdf A (a+1) k l C m b):=
 h.lp [6,1,4,2] [4,2]
def qne(A:LL)(a b:Int)(C:LL)(c d:Int):St:=
 { env:=envOf 84 [(1,vF 5 A),(2,vP 2),(4,vP 4)],boxes:=[(4,[.v (sn),lI a,lI b,.v (sn),.v (sn),.v (sn),.v (sn)]),(2,[.sl .free 4 C,lI c,lI d])] }
theorem qKQ(h:Oo [.f A b false]):
 Tp (qaa Tryz.f17 0) (qdf A b c d C e a) (.exit 0) (qne A c d C e a):=
 h.lp [2,1,4] [4,2]
theorem qKR(h:Oo [.r 121 [.agg (gr A a b)] [cB q],.n q false,.b (decide ((C.length:Int)>20)) false,.l [] [6,1,4,2] [4,2] (qaa Tryz.f17 0) (qdf C 0 0 0 A a b) .ret (qgK r c d)]):
 Rt 17 [.agg (gr A a b),cS 5 C] [.agg (cl [] c d [] [] [] []),cB r]:=
 h.of
def qgL(A:LL)(a:Int)(E:LL)(d e:Int)(F G H:LL)(f g:Int)(C:LL)(b c:Int):St:=
 { env:=envOf 84 [(1,vF 5 A),(2,vP 2),(4,vP 4),(7,vP 7),(8,vI a)],boxes:=[(7,[lO 510000 4 E,lI d,lI e,lO 67 8 F,lO 81 6 G,lO 51 5 H,.v (sn)]),(4,[.v (sn),lI f,lI g,.v (sn),.v (sn),.v (sn),.v (sn)]),(2,[.sl .free 4 C,lI b,lI c])] }
def qh7(A:LL)(a e:Int)(E:LL)(f g:Int)(F G H:LL)(i b:Int)(C:LL)(c d:Int):St:=
 { env:=envOf 84 [(1,vF 5 A),(2,vP 2),(4,vP 4),(7,vP 7),(8,vI a),(9,vI e)],boxes:=[(7,[lO 510000 4 E,lI f,lI g,lO 67 8 F,lO 81 6 G,lO 51 5 H,.v (sn)]),(4,[.v (sn),lI i,lI b,.v (sn),.v (sn),.v (sn),.v (sn)]),(2,[.sl .free 4 C,lI c,lI d])] }
theorem qKS(h:Oo [.b (decide (a<b)) true,.r 126 [cI c] [.agg (lk d C e f g i)],.a .wr,.g A [(lk d C e f g i)] 64,.u a]):
 Tp (qaa Tryz.f17 2) (qh7 E j a F k l G A H m n J b c) .normal (qh7 E j (a+1) F k l G (A++[(lk d C e f g i)]) H m n J b c):=
 h.lp [9,2,7,8,1,4] [7,4,2]
def qsz(A:LL)(a:Int)(E:LL)(d e:Int)(F G H:LL)(f g:Int)(C:LL)(b c:Int):St:=
 { env:=envOf 84 [(1,vF 5 A),(2,vP 2),(4,vP 4),(7,vP 7),(8,vI a)],boxes:=[(7,[lO 510000 4 E,lI d,lI e,lO 67 8 F,lO 81 6 G,lO 51 5 H,.v (sn)]),(4,[.v (sn),lI f,lI g,.v (sn),.v (sn),.v (sn),.v (sn)]),(2,[.sl .free 4 C,lI b,lI c])] }
theorem qKT(h:Oo [.b (decide (c<a)) false]):
 Tp (qaa Tryz.f17 2) (qh7 A b c C d e E F G f g H a i) (.exit 4) (qsz A b C d e E F G f g H a i):=
 h.lp [8,2,7,1,4] [7,4,2]
theorem qKU(h:Oo [.b (decide (a<b)) true,.r 125 [.agg (gr E b c),cS 5 A,cI a] [cS 5 S],.r 124 [cS 5 S] [.agg (wk F G H J K L M N)],.a .wr,.g C [(wk F G H J K L M N)] 192,.l [] [9,2,7,8,1,4] [7,4,2] (qaa Tryz.f17 2) (qh7 A a 0 P d e (C++[(wk F G H J K L M N)]) Q R f g E b c) (.exit 4) (qsz A a U i j V W X k l Y m n),.u a]):
 Tp (qaa Tryz.f17 1) (qgL A a P d e C Q R f g E b c) .normal (qgL A (a+1) U i j V W X k l Y m n):=
 h.lp [8,2,7,1,4] [7,4,2]
def qnf(A:LL)(a b:Int)(C E F:LL)(c d:Int):St:=
 { env:=envOf 84 [(4,vP 4),(7,vP 7)],boxes:=[(7,[lO 510000 4 A,lI a,lI b,lO 67 8 C,lO 81 6 E,lO 51 5 F,.v (sn)]),(4,[.v (sn),lI c,lI d,.v (sn),.v (sn),.v (sn),.v (sn)])] }
theorem qKV(h:Oo [.b (decide (a<f)) false]):
 Tp (qaa Tryz.f17 1) (qgL H a A b c C E F d e G f g) (.exit 2) (qnf A b c C E F d e):=
 h.lp [7,4] [7,4]
theorem qKW(h:Oo [.r 121 [.agg (gr C a b)] [cB q],.n q false,.b (decide ((A.length:Int)>20)) false,.l [] [6,1,4,2] [4,2] (qaa Tryz.f17 0) (qdf A 0 0 0 C a b) (.exit 0) (qne A j k E c d),.r 123 [.agg (gr E c d)] [.agg (gr F e f)],.p ((0:Int)≤4),.p ((4:Int)≤4),.p (((↑32:Int)*4:Int)≤281474976710656),.p ((4:Int)≤9223372036854775807),.l [(8000003,67,8),(8000004,81,6)] [8,2,7,1,4] [7,4,2] (qaa Tryz.f17 1) (qgL A 0 F e f [] [] (List.replicate 4 [B false,I 0,I 0,B false,B false]) j k E c d) (.exit 2) (qnf G g i H J K l m)]):
 Rt 17 [.agg (gr C a b),cS 5 A] [.agg (cl G g i H J K []),cB true]:=
 h.of
theorem qKX(h:Oo [.r 144 [.agg (gr A a b)] [cB q],.n q true]):
 Rt 30 [.agg (gr A a b),cS 5 C] [.agg (cl [] 0 0 [] [] [] []),cB false]:=
 h.of
theorem qKY(h:Oo [.r 144 [.agg (gr A a b)] [cB q],.n q false,.b (decide ((C.length:Int)>20)) true]):
 Rt 30 [.agg (gr A a b),cS 5 C] [.agg (cl [] 0 0 [] [] [] []),cB false]:=
 h.of
def qdg(A:LL)(a b c:Int)(C:LL)(d e:Int):St:=
 { env:=envOf 102 [(1,vF 5 A),(2,vP 2),(4,vP 4),(24,vF 5 A),(25,vI (A.length:Int)),(26,vI a)],boxes:=[(4,[.v (sn),lI b,lI c,.v (sn),.v (sn),.v (sn),.v (sn)]),(2,[.sl .free 4 C,lI d,lI e])] }
def qgM(q:Bool)(a b:Int):St:=
 { env:=envOf 102 [(4,vP 4),(5,.al (.one (.sb q)))],boxes:=[(4,[.v (sn),lI a,lI b,.v (sn),.v (sn),.v (sn),.v (sn)])] }
def y3O(A:LL)(a b c d e f:Int)(q:Bool)(l:List O):List O:=.i A a (ri b c d e f)::.r 145 [.agg (ri b c d e f)] [cB q]::l
theorem qKZ(h:Oo (y3O A f a b c d e q [.n q true])):
 Tp (qaa Tryz.f30 0) (qdg A f i j C k g) .ret (qgM false 0 0):=
 h.lp [4,5] [4]
theorem qK0(h:Oo (y3O A f a b c d e q [.n q false,.b (a != 0) true])):
 Tp (qaa Tryz.f30 0) (qdg A f i j C k g) .ret (qgM false 0 0):=
 h.lp [4,5] [4]
theorem qK1(h:Oo (y3O A f a c b d e q [.n q false,.b (a != 0) false,.b (b != 0) true])):
 Tp (qaa Tryz.f30 0) (qdg A f i j C k g) .ret (qgM false 0 0):=
 h.lp [4,5] [4]
theorem qK2(h:Oo (y3O A a b e c f g q [.n q false,.b (b != 0) false,.b (c != 0) false,.u a])):
 Tp (qaa Tryz.f30 0) (qdg A a i j C k d) .normal (qdg A (a+1) i j C k d):=
 h.lp [26,25,24,4,2,1] [4,2]
def qng(A:LL)(a b:Int)(C:LL)(c d:Int):St:=
 { env:=envOf 102 [(1,vF 5 A),(2,vP 2),(4,vP 4)],boxes:=[(4,[.v (sn),lI a,lI b,.v (sn),.v (sn),.v (sn),.v (sn)]),(2,[.sl .free 4 C,lI c,lI d])] }
theorem qK3(h:Oo [.f A b false]):
 Tp (qaa Tryz.f30 0) (qdg A b c d C e a) (.exit 0) (qng A c d C e a):=
 h.lp [2,1,4] [4,2]
theorem qK4(h:Oo [.r 144 [.agg (gr A a b)] [cB q],.n q false,.b (decide ((C.length:Int)>20)) false,.l [] [26,25,24,4,2,1] [4,2] (qaa Tryz.f30 0) (qdg C 0 0 0 A a b) .ret (qgM r c d)]):
 Rt 30 [.agg (gr A a b),cS 5 C] [.agg (cl [] c d [] [] [] []),cB r]:=
 h.of
def qgN(A:LL)(a:Int)(E:LL)(d e:Int)(F G H:LL)(f g:Int)(C:LL)(b c:Int):St:=
 { env:=envOf 102 [(1,vF 5 A),(2,vP 2),(4,vP 4),(8,vP 8),(9,vI a)],boxes:=[(8,[lO 480000 4 E,lI d,lI e,lO 85 8 F,lO 99 6 G,lO 48 5 H,.v (sn)]),(4,[.v (sn),lI f,lI g,.v (sn),.v (sn),.v (sn),.v (sn)]),(2,[.sl .free 4 C,lI b,lI c])] }
def qgO(A:LL)(a f:Int)(E F:LL)(g i:Int)(G H J:LL)(b c:Int)(C:LL)(d e:Int):St:=
 { env:=envOf 102 [(1,vF 5 A),(2,vP 2),(4,vP 4),(8,vP 8),(9,vI a),(10,PV.al (AL.one (lO 78 5 E))),(11,vI f)],boxes:=[(8,[lO 480000 4 F,lI g,lI i,lO 85 8 G,lO 99 6 H,lO 48 5 J,.v (sn)]),(4,[.v (sn),lI b,lI c,.v (sn),.v (sn),.v (sn),.v (sn)]),(2,[.sl .free 4 C,lI d,lI e])] }
def qfK(C:LL)(a f:Int)(A:LL)(g:Int)(H J:LL)(i j:Int)(K E F:LL)(b c:Int)(G:LL)(d e:Int):St:=
 { env:=envOf 102 [(1,vF 5 C),(2,vP 2),(4,vP 4),(8,vP 8),(9,vI a),(10,PV.al (AL.one (lO 78 5 H))),(11,vI f),(62,PV.al (AL.one (lO 630000 5 A))),(63,vI (A.length:Int)),(64,vI g)],boxes:=[(8,[lO 480000 4 J,lI i,lI j,lO 85 8 K,lO 99 6 E,lO 48 5 F,.v (sn)]),(4,[.v (sn),lI b,lI c,.v (sn),.v (sn),.v (sn),.v (sn)]),(2,[.sl .free 4 G,lI d,lI e])] }
theorem qK5(h:Oo [.i A b (ri c d e a f),.r 148 [cI a,cI i] [cI p],.b (p==g) true,.g C [(ri c d e a f)] 40,.h [(ri c d e a f)],.u b]):
 Tp (qaa Tryz.f30 3) (qfK E g j A b C F k l G H J m n K i o) .normal (qfK E g j A (b+1) (C++[(ri c d e a f)]) F k l G H J m n K i o):=
 h.lp [64,63,62,2,9,10,11,1,8,4] [8,4,2]
theorem qK6(h:Oo [.i A a (ri m n o k p),.r 148 [cI k,cI c] [cI l],.b (l==b) false,.u a]):
 Tp (qaa Tryz.f30 3) (qfK C b d A a E F e f G H J g i K c j) .normal (qfK C b d A (a+1) E F e f G H J g i K c j):=
 h.lp [64,63,62,2,9,10,11,1,8,4] [8,4,2]
def qsA(A:LL)(a f:Int)(E F:LL)(g i:Int)(G H J:LL)(b c:Int)(C:LL)(d e:Int):St:=
 { env:=envOf 102 [(1,vF 5 A),(2,vP 2),(4,vP 4),(8,vP 8),(9,vI a),(10,PV.al (AL.one (lO 78 5 E))),(11,vI f)],boxes:=[(8,[lO 480000 4 F,lI g,lI i,lO 85 8 G,lO 99 6 H,lO 48 5 J,.v (sn)]),(4,[.v (sn),lI b,lI c,.v (sn),.v (sn),.v (sn),.v (sn)]),(2,[.sl .free 4 C,lI d,lI e])] }
theorem qK7(h:Oo [.f C c false]):
 Tp (qaa Tryz.f30 3) (qfK A a b C c E F d e G H J f g K i j) (.exit 6) (qsA A a b E F d e G H J f g K i j):=
 h.lp [11,1,2,9,10,8,4] [8,4,2]
theorem qK8(h:Oo [.b (decide (a≤3)) true,.r 147 [cS 5 A,cI a] [cS 5 K],.l [] [64,63,62,2,9,10,11,1,8,4] [8,4,2] (qaa Tryz.f30 3) (qfK A b a K 0 C E c d F G H e f J g i) (.exit 6) (qsA A b a L M j k N P Q l m R n o),.u a]):
 Tp (qaa Tryz.f30 2) (qgO A b a C E c d F G H e f J g i) .normal (qgO A b (a+1) L M j k N P Q l m R n o):=
 h.lp [11,1,2,9,10,8,4] [8,4,2]
def qnh(A:LL)(a:Int)(E F:LL)(e f:Int)(G H J:LL)(g b:Int)(C:LL)(c d:Int):St:=
 { env:=envOf 102 [(1,vF 5 A),(2,vP 2),(4,vP 4),(8,vP 8),(9,vI a),(10,PV.al (AL.one (lO 78 5 E)))],boxes:=[(8,[lO 480000 4 F,lI e,lI f,lO 85 8 G,lO 99 6 H,lO 48 5 J,.v (sn)]),(4,[.v (sn),lI g,lI b,.v (sn),.v (sn),.v (sn),.v (sn)]),(2,[.sl .free 4 C,lI c,lI d])] }
theorem qK9(h:Oo [.b (decide (b≤3)) false]):
 Tp (qaa Tryz.f30 2) (qgO E a b A C c d F G H e f J g i) (.exit 4) (qnh E a A C c d F G H e f J g i):=
 h.lp [8,10,2,9,1,4] [8,4,2]
def qh8(A:LL)(a e:Int)(E:LL)(f g:Int)(F G H:LL)(i b:Int)(C:LL)(c d:Int):St:=
 { env:=envOf 102 [(1,vF 5 A),(2,vP 2),(4,vP 4),(8,vP 8),(9,vI a),(14,vI e)],boxes:=[(8,[lO 480000 4 E,lI f,lI g,lO 85 8 F,lO 99 6 G,lO 48 5 H,.v (sn)]),(4,[.v (sn),lI i,lI b,.v (sn),.v (sn),.v (sn),.v (sn)]),(2,[.sl .free 4 C,lI c,lI d])] }
theorem qLa(h:Oo [.b (decide (a<b)) true,.r 150 [cI c] [.agg (lk d C e f g i)],.a .wr,.g A [(lk d C e f g i)] 64,.u a]):
 Tp (qaa Tryz.f30 4) (qh8 E j a F k l G A H m n J b c) .normal (qh8 E j (a+1) F k l G (A++[(lk d C e f g i)]) H m n J b c):=
 h.lp [14,2,8,9,1,4] [8,4,2]
def qsB(A:LL)(a:Int)(E:LL)(d e:Int)(F G H:LL)(f g:Int)(C:LL)(b c:Int):St:=
 { env:=envOf 102 [(1,vF 5 A),(2,vP 2),(4,vP 4),(8,vP 8),(9,vI a)],boxes:=[(8,[lO 480000 4 E,lI d,lI e,lO 85 8 F,lO 99 6 G,lO 48 5 H,.v (sn)]),(4,[.v (sn),lI f,lI g,.v (sn),.v (sn),.v (sn),.v (sn)]),(2,[.sl .free 4 C,lI b,lI c])] }
theorem qLb(h:Oo [.b (decide (c<a)) false]):
 Tp (qaa Tryz.f30 4) (qh8 A b c C d e E F G f g H a i) (.exit 8) (qsB A b C d e E F G f g H a i):=
 h.lp [9,2,1,8,4] [8,4,2]
theorem qLc(h:Oo [.b (decide (a<b)) true,.l [(10,78,5)] [11,1,2,9,10,8,4] [8,4,2] (qaa Tryz.f30 2) (qgO A a 0 [] N c d P Q R e f S b g) (.exit 4) (qnh A a U V i j C W X k l Y m n),.r 149 [cS 5 U] [.agg (wk E F G H J K L M)],.a .wr,.g C [(wk E F G H J K L M)] 192,.l [] [14,2,8,9,1,4] [8,4,2] (qaa Tryz.f30 4) (qh8 A a 0 V i j (C++[(wk E F G H J K L M)]) W X k l Y m n) (.exit 8) (qsB A a Z o p A0 C0 E0 a0 b0 F0 c0 d0),.u a]):
 Tp (qaa Tryz.f30 1) (qgN A a N c d P Q R e f S b g) .normal (qgN A (a+1) Z o p A0 C0 E0 a0 b0 F0 c0 d0):=
 h.lp [9,2,1,8,4] [8,4,2]
def qni(A:LL)(a b:Int)(C E F:LL)(c d:Int):St:=
 { env:=envOf 102 [(4,vP 4),(8,vP 8)],boxes:=[(8,[lO 480000 4 A,lI a,lI b,lO 85 8 C,lO 99 6 E,lO 48 5 F,.v (sn)]),(4,[.v (sn),lI c,lI d,.v (sn),.v (sn),.v (sn),.v (sn)])] }
theorem qLd(h:Oo [.b (decide (a<f)) false]):
 Tp (qaa Tryz.f30 1) (qgN H a A b c C E F d e G f g) (.exit 2) (qni A b c C E F d e):=
 h.lp [8,4] [8,4]
theorem qLe(h:Oo [.r 144 [.agg (gr C a b)] [cB q],.n q false,.b (decide ((A.length:Int)>20)) false,.l [] [26,25,24,4,2,1] [4,2] (qaa Tryz.f30 0) (qdg A 0 0 0 C a b) (.exit 0) (qng A j k E c d),.r 146 [.agg (gr E c d)] [.agg (gr F e f)],.p ((0:Int)≤4),.p ((4:Int)≤4),.p (((↑32:Int)*4:Int)≤281474976710656),.p ((4:Int)≤9223372036854775807),.l [(9000003,85,8),(9000004,99,6)] [9,2,1,8,4] [8,4,2] (qaa Tryz.f30 1) (qgN A 0 F e f [] [] (List.replicate 4 [B false,I 0,I 0,B false,B false]) j k E c d) (.exit 2) (qni G g i H J K l m)]):
 Rt 30 [.agg (gr C a b),cS 5 A] [.agg (cl G g i H J K []),cB true]:=
 h.of
def qh9(A:LL)(a b:Int)(C:LL)(c d:Int)(E:LL):St:=
 { env:=envOf 49 [(1,vF 5 C),(2,vI c),(3,vP 3),(7,PV.al (AL.one (lO 10 5 E))),(8,vI d)],boxes:=[(3,[.sl .free 4 A,lI a,lI b])] }
def qdY(A:LL)(a b:Int)(C:LL)(c d e:Int)(E:LL):St:=
 { env:=envOf 49 [(1,vF 5 C),(2,vI c),(3,vP 3),(7,PV.al (AL.one (lO 10 5 E))),(8,vI d),(9,vI e)],boxes:=[(3,[.sl .free 4 A,lI a,lI b])] }
theorem qLf(h:Oo [.i A a (ri f0 k o p a0),.b (k==j) true,.x A a (ri b0 c0 d0 l e0),.r 245 [cI l,cI g] [cI m],.b (m==i) true,.x A a (ri b c d e f),.g C [(ri b c d e f)] 40,.h [(ri b c d e f)],.u a]):
 Tp (qaa Tryz.f125 1) (qdY E g n A i j a C) .normal (qdY E g n A i j (a+1) (C++[(ri b c d e f)])):=
 h.lp [9,1,8,3,2,7] [3]
theorem qLg(h:Oo [.i A a (ri a0 e j k l),.b (e==d) true,.x A a (ri m n o f p),.r 245 [cI f,cI b] [cI g],.b (g==c) false,.u a]):
 Tp (qaa Tryz.f125 1) (qdY C b i A c d a E) .normal (qdY C b i A c d (a+1) E):=
 h.lp [9,1,8,3,2,7] [3]
theorem qLh(h:Oo [.i A a (ri k d g i j),.b (d==b) false,.u a]):
 Tp (qaa Tryz.f125 1) (qdY C c e A f b a E) .normal (qdY C c e A f b (a+1) E):=
 h.lp [9,1,8,3,2,7] [3]
def qsC(A:LL)(a b:Int)(C:LL)(c d:Int)(E:LL):St:=
 { env:=envOf 49 [(1,vF 5 C),(2,vI c),(3,vP 3),(7,PV.al (AL.one (lO 10 5 E))),(8,vI d)],boxes:=[(3,[.sl .free 4 A,lI a,lI b])] }
theorem qLi(h:Oo [.f A e false]):
 Tp (qaa Tryz.f125 1) (qdY C a b A c d e E) (.exit 2) (qsC C a b A c d E):=
 h.lp [8,1,3,2,7] [3]
theorem qLj(h:Oo [.b (decide (a≤3)) true,.l [] [9,1,8,3,2,7] [3] (qaa Tryz.f125 1) (qdY A b c C d a 0 E) (.exit 2) (qsC A b c C d a F),.u a]):
 Tp (qaa Tryz.f125 0) (qh9 A b c C d a E) .normal (qh9 A b c C d (a+1) F):=
 h.lp [8,1,3,2,7] [3]
def qsD(A:LL):St:=
 { env:=envOf 49 [(7,PV.al (AL.one (lO 10 5 A)))],boxes:=[] }
theorem qLk(h:Oo [.b (decide (a≤3)) false]):
 Tp (qaa Tryz.f125 0) (qh9 C b c E d a A) (.exit 0) (qsD A):=
 h.lp [7] []
theorem qLl(h:Oo [.l [] [8,1,3,2,7] [3] (qaa Tryz.f125 0) (qh9 A a b C c 0 []) (.exit 0) (qsD E)]):
 Rt 125 [.agg (gr A a b),cS 5 C,cI c] [cS 5 E]:=
 h.of
theorem qLm(h:Oo [.r 130 [cI b,cI 1,cI 4] [cI a]]):
 Rt 126 [cI b] [.agg (lk a [] a 0 0 0)]:=
 h.of
theorem qLn(h:Oo [.r 160 [cI b,cI 1,cI 4] [cI a]]):
 Rt 150 [cI b] [.agg (lk a [] a 0 0 0)]:=
 h.of
theorem qLo(h:Oo [.g ([]:LL) A 40,.h A,.p ((0:Int)≤4),.p ((4:Int)≤4),.p (((↑8:Int)*4:Int)≤281474976710656),.p ((4:Int)≤9223372036854775807),.p ((0:Int)≤4),.p ((4:Int)≤4),.p (((↑1:Int)*4:Int)≤281474976710656),.p ((4:Int)≤9223372036854775807),.p ((0:Int)≤4),.p ((4:Int)≤4),.p (((↑1:Int)*4:Int)≤281474976710656),.p ((4:Int)≤9223372036854775807)]):
 Rt 124 [cS 5 A] [.agg (wk [] [] ([]++A) [] (List.replicate 4 [I 0]) (List.replicate 4 [B false]) (List.replicate 4 [B false]) [])]:=
 h.of
theorem qLp(h:Oo [.r 239 [cS 5 A] [cS 5 C],.p ((0:Int)≤4),.p ((4:Int)≤4),.p (((↑8:Int)*4:Int)≤281474976710656),.p ((4:Int)≤9223372036854775807),.p ((0:Int)≤4),.p ((4:Int)≤4),.p (((↑1:Int)*4:Int)≤281474976710656),.p ((4:Int)≤9223372036854775807),.p ((0:Int)≤4),.p ((4:Int)≤4),.p (((↑1:Int)*4:Int)≤281474976710656),.p ((4:Int)≤9223372036854775807)]):
 Rt 149 [cS 5 A] [.agg (wk [] [] C [] (List.replicate 4 [I 0]) (List.replicate 4 [B false]) (List.replicate 4 [B false]) [])]:=
 h.of
end Go.Proofs.YtdkobdhckkjmeaaGreat
