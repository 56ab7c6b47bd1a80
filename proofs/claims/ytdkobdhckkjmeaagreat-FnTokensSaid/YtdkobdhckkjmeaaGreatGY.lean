import Derived.Test.YtdkobdhckkjmeaaGreatRows
import Derived.Test.YtdkobdhckkjmeaaGreatGE
set_option linter.unusedVariables false
set_option linter.unusedSimpArgs false
namespace Go.Proofs.YtdkobdhckkjmeaaGreat
open Go.Sx Go.RowKit
variable {a b c d e f g i j k l m n o p a0 b0 c0 d0 e0 f0 : Int} {A C E F G H J K L M N P Q R S U V W X Y : LL} {q r : Bool}
theorem qLh(h:Oo [.r 121 [.agg (gr A a b)] [cB q],.n q true]):
 Rt 17 [.agg (gr A a b),cS 5 C] [.agg (cl [] 0 0 [] [] [] []),cB false]:=
 h.of
theorem qLi(h:Oo [.r 121 [.agg (gr A a b)] [cB q],.n q false,.b (decide ((C.length:Int)>20)) true]):
 Rt 17 [.agg (gr A a b),cS 5 C] [.agg (cl [] 0 0 [] [] [] []),cB false]:=
 h.of
def qde(A:LL)(a b c:Int)(C:LL)(d e:Int):St:=
 { env:=envOf 84 [(1,vF 5 A),(2,vP 2),(4,vP 4),(6,vI a)],boxes:=[(4,[.v (sn),lI b,lI c,.v (sn),.v (sn),.v (sn),.v (sn)]),(2,[.sl .free 4 C,lI d,lI e])] }
def qgK(q:Bool)(a b:Int):St:=
 { env:=envOf 84 [(4,vP 4),(5,.al (.one (.sb q)))],boxes:=[(4,[.v (sn),lI a,lI b,.v (sn),.v (sn),.v (sn),.v (sn)])] }
def y3O(A:LL)(a b c d e f:Int)(q:Bool)(l:List O):List O:=.i A a (ri b c d e f)::.r 122 [.agg (ri b c d e f)] [cB q]::l
theorem qLj(h:Oo (y3O A f a b c d e q [.n q true])):
 Tp (qaa Tryz.f17 0) (qde A f i j C k g) .ret (qgK false 0 0):=
 h.lp [4,5] [4]
theorem qLk(h:Oo (y3O A a b c d e f q [.n q false,.x A a (ri g j k l m),.b (g != 0) true])):
 Tp (qaa Tryz.f17 0) (qde A a n o C p i) .ret (qgK false 0 0):=
 h.lp [4,5] [4]
theorem qLl(h:Oo (y3O A a b c d e f q [.n q false,.x A a (ri g k l m n),.b (g != 0) false,.x A a (ri o p i a0 b0),.b (i != 0) true])):
 Tp (qaa Tryz.f17 0) (qde A a c0 d0 C e0 j) .ret (qgK false 0 0):=
 h.lp [4,5] [4]
theorem qLm(h:Oo (y3O A a c d e f g q [.n q false,.x A a (ri i n o p a0),.b (i != 0) false,.x A a (ri b0 c0 j d0 e0),.b (j != 0) false,.u a])):
 Tp (qaa Tryz.f17 0) (qde A a k l C m b) .normal (qde A (a+1) k l C m b):=
 h.lp [6,1,4,2] [4,2]
def qnh(A:LL)(a b:Int)(C:LL)(c d:Int):St:=
 { env:=envOf 84 [(1,vF 5 A),(2,vP 2),(4,vP 4)],boxes:=[(4,[.v (sn),lI a,lI b,.v (sn),.v (sn),.v (sn),.v (sn)]),(2,[.sl .free 4 C,lI c,lI d])] }
theorem qLn(h:Oo [.f A b false]):
 Tp (qaa Tryz.f17 0) (qde A b c d C e a) (.exit 0) (qnh A c d C e a):=
 h.lp [2,1,4] [4,2]
theorem qLo(h:Oo [.r 121 [.agg (gr A a b)] [cB q],.n q false,.b (decide ((C.length:Int)>20)) false,.l [] [6,1,4,2] [4,2] (qaa Tryz.f17 0) (qde C 0 0 0 A a b) .ret (qgK r c d)]):
 Rt 17 [.agg (gr A a b),cS 5 C] [.agg (cl [] c d [] [] [] []),cB r]:=
 h.of
def qgL(A:LL)(a:Int)(E:LL)(d e:Int)(F G H:LL)(f g:Int)(C:LL)(b c:Int):St:=
 { env:=envOf 84 [(1,vF 5 A),(2,vP 2),(4,vP 4),(7,vP 7),(8,vI a)],boxes:=[(7,[lO 510000 4 E,lI d,lI e,lO 67 8 F,lO 81 6 G,lO 51 5 H,.v (sn)]),(4,[.v (sn),lI f,lI g,.v (sn),.v (sn),.v (sn),.v (sn)]),(2,[.sl .free 4 C,lI b,lI c])] }
def qh5(A:LL)(a e:Int)(E:LL)(f g:Int)(F G H:LL)(i b:Int)(C:LL)(c d:Int):St:=
 { env:=envOf 84 [(1,vF 5 A),(2,vP 2),(4,vP 4),(7,vP 7),(8,vI a),(9,vI e)],boxes:=[(7,[lO 510000 4 E,lI f,lI g,lO 67 8 F,lO 81 6 G,lO 51 5 H,.v (sn)]),(4,[.v (sn),lI i,lI b,.v (sn),.v (sn),.v (sn),.v (sn)]),(2,[.sl .free 4 C,lI c,lI d])] }
theorem qLp(h:Oo [.b (decide (a<b)) true,.r 126 [cI c] [.agg (lk d C e f g i)],.a .wr,.g A [(lk d C e f g i)] 64,.u a]):
 Tp (qaa Tryz.f17 2) (qh5 E j a F k l G A H m n J b c) .normal (qh5 E j (a+1) F k l G (A++[(lk d C e f g i)]) H m n J b c):=
 h.lp [9,2,7,8,1,4] [7,4,2]
def qsJ(A:LL)(a:Int)(E:LL)(d e:Int)(F G H:LL)(f g:Int)(C:LL)(b c:Int):St:=
 { env:=envOf 84 [(1,vF 5 A),(2,vP 2),(4,vP 4),(7,vP 7),(8,vI a)],boxes:=[(7,[lO 510000 4 E,lI d,lI e,lO 67 8 F,lO 81 6 G,lO 51 5 H,.v (sn)]),(4,[.v (sn),lI f,lI g,.v (sn),.v (sn),.v (sn),.v (sn)]),(2,[.sl .free 4 C,lI b,lI c])] }
theorem qLq(h:Oo [.b (decide (c<a)) false]):
 Tp (qaa Tryz.f17 2) (qh5 A b c C d e E F G f g H a i) (.exit 4) (qsJ A b C d e E F G f g H a i):=
 h.lp [8,2,7,1,4] [7,4,2]
theorem qLr(h:Oo [.b (decide (a<b)) true,.r 125 [.agg (gr E b c),cS 5 A,cI a] [cS 5 S],.r 124 [cS 5 S] [.agg (wk F G H J K L M N)],.a .wr,.g C [(wk F G H J K L M N)] 192,.l [] [9,2,7,8,1,4] [7,4,2] (qaa Tryz.f17 2) (qh5 A a 0 P d e (C++[(wk F G H J K L M N)]) Q R f g E b c) (.exit 4) (qsJ A a U i j V W X k l Y m n),.u a]):
 Tp (qaa Tryz.f17 1) (qgL A a P d e C Q R f g E b c) .normal (qgL A (a+1) U i j V W X k l Y m n):=
 h.lp [8,2,7,1,4] [7,4,2]
def qni(A:LL)(a b:Int)(C E F:LL)(c d:Int):St:=
 { env:=envOf 84 [(4,vP 4),(7,vP 7)],boxes:=[(7,[lO 510000 4 A,lI a,lI b,lO 67 8 C,lO 81 6 E,lO 51 5 F,.v (sn)]),(4,[.v (sn),lI c,lI d,.v (sn),.v (sn),.v (sn),.v (sn)])] }
theorem qLs(h:Oo [.b (decide (a<f)) false]):
 Tp (qaa Tryz.f17 1) (qgL H a A b c C E F d e G f g) (.exit 2) (qni A b c C E F d e):=
 h.lp [7,4] [7,4]
theorem qLt(h:Oo [.r 121 [.agg (gr C a b)] [cB q],.n q false,.b (decide ((A.length:Int)>20)) false,.l [] [6,1,4,2] [4,2] (qaa Tryz.f17 0) (qde A 0 0 0 C a b) (.exit 0) (qnh A j k E c d),.r 123 [.agg (gr E c d)] [.agg (gr F e f)],.p ((0:Int)≤4),.p ((4:Int)≤4),.p (((↑32:Int)*4:Int)≤281474976710656),.p ((4:Int)≤9223372036854775807),.l [(8000003,67,8),(8000004,81,6)] [8,2,7,1,4] [7,4,2] (qaa Tryz.f17 1) (qgL A 0 F e f [] [] (List.replicate 4 [B false,I 0,I 0,B false,B false]) j k E c d) (.exit 2) (qni G g i H J K l m)]):
 Rt 17 [.agg (gr C a b),cS 5 A] [.agg (cl G g i H J K []),cB true]:=
 h.of
def qh7(A:LL)(a b:Int)(C:LL)(c d:Int)(E:LL):St:=
 { env:=envOf 49 [(1,vF 5 C),(2,vI c),(3,vP 3),(7,PV.al (AL.one (lO 10 5 E))),(8,vI d)],boxes:=[(3,[.sl .free 4 A,lI a,lI b])] }
def qdY(A:LL)(a b:Int)(C:LL)(c d e:Int)(E:LL):St:=
 { env:=envOf 49 [(1,vF 5 C),(2,vI c),(3,vP 3),(7,PV.al (AL.one (lO 10 5 E))),(8,vI d),(9,vI e)],boxes:=[(3,[.sl .free 4 A,lI a,lI b])] }
theorem qLM(h:Oo [.i A a (ri f0 k o p a0),.b (k==j) true,.x A a (ri b0 c0 d0 l e0),.r 245 [cI l,cI g] [cI m],.b (m==i) true,.x A a (ri b c d e f),.g C [(ri b c d e f)] 40,.h [(ri b c d e f)],.u a]):
 Tp (qaa Tryz.f125 1) (qdY E g n A i j a C) .normal (qdY E g n A i j (a+1) (C++[(ri b c d e f)])):=
 h.lp [9,1,8,3,2,7] [3]
theorem qLN(h:Oo [.i A a (ri a0 e j k l),.b (e==d) true,.x A a (ri m n o f p),.r 245 [cI f,cI b] [cI g],.b (g==c) false,.u a]):
 Tp (qaa Tryz.f125 1) (qdY C b i A c d a E) .normal (qdY C b i A c d (a+1) E):=
 h.lp [9,1,8,3,2,7] [3]
theorem qLO(h:Oo [.i A a (ri k d g i j),.b (d==b) false,.u a]):
 Tp (qaa Tryz.f125 1) (qdY C c e A f b a E) .normal (qdY C c e A f b (a+1) E):=
 h.lp [9,1,8,3,2,7] [3]
def qsM(A:LL)(a b:Int)(C:LL)(c d:Int)(E:LL):St:=
 { env:=envOf 49 [(1,vF 5 C),(2,vI c),(3,vP 3),(7,PV.al (AL.one (lO 10 5 E))),(8,vI d)],boxes:=[(3,[.sl .free 4 A,lI a,lI b])] }
theorem qLP(h:Oo [.f A e false]):
 Tp (qaa Tryz.f125 1) (qdY C a b A c d e E) (.exit 2) (qsM C a b A c d E):=
 h.lp [8,1,3,2,7] [3]
theorem qLQ(h:Oo [.b (decide (a≤3)) true,.l [] [9,1,8,3,2,7] [3] (qaa Tryz.f125 1) (qdY A b c C d a 0 E) (.exit 2) (qsM A b c C d a F),.u a]):
 Tp (qaa Tryz.f125 0) (qh7 A b c C d a E) .normal (qh7 A b c C d (a+1) F):=
 h.lp [8,1,3,2,7] [3]
def qsN(A:LL):St:=
 { env:=envOf 49 [(7,PV.al (AL.one (lO 10 5 A)))],boxes:=[] }
theorem qLR(h:Oo [.b (decide (a≤3)) false]):
 Tp (qaa Tryz.f125 0) (qh7 C b c E d a A) (.exit 0) (qsN A):=
 h.lp [7] []
theorem qLS(h:Oo [.l [] [8,1,3,2,7] [3] (qaa Tryz.f125 0) (qh7 A a b C c 0 []) (.exit 0) (qsN E)]):
 Rt 125 [.agg (gr A a b),cS 5 C,cI c] [cS 5 E]:=
 h.of
theorem qLT(h:Oo [.r 130 [cI b,cI 1,cI 4] [cI a]]):
 Rt 126 [cI b] [.agg (lk a [] a 0 0 0)]:=
 h.of
theorem qLV(h:Oo [.g ([]:LL) A 40,.h A,.p ((0:Int)≤4),.p ((4:Int)≤4),.p (((↑8:Int)*4:Int)≤281474976710656),.p ((4:Int)≤9223372036854775807),.p ((0:Int)≤4),.p ((4:Int)≤4),.p (((↑1:Int)*4:Int)≤281474976710656),.p ((4:Int)≤9223372036854775807),.p ((0:Int)≤4),.p ((4:Int)≤4),.p (((↑1:Int)*4:Int)≤281474976710656),.p ((4:Int)≤9223372036854775807)]):
 Rt 124 [cS 5 A] [.agg (wk [] [] ([]++A) [] (List.replicate 4 [I 0]) (List.replicate 4 [B false]) (List.replicate 4 [B false]) [])]:=
 h.of
