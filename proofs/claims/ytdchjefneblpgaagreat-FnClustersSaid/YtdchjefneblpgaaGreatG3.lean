import Derived.Test.YtdchjefneblpgaaGreatGE
set_option linter.unusedVariables false
set_option linter.unusedSimpArgs false
namespace Go.Proofs.YtdchjefneblpgaaGreat
open Go.Sx Go.RowKit Go.Proofs.Tryz
variable {a b c d e f g i j k l m n o p a0 ej b9 de d0 bM f0 g0 i0 j0 dC gh m0 Jv A1 iF : Int} {A C E F G H au K L M N Q R S bz V X Y Z fw : ah} {q r s : Bool}
def uQ(A:ah)(a c d e:Int)(C:ah)(f g i j b:Int):aF:=bf 55 [(0,aT 1000000000),(2,aT 2),(3,aT 3),(4,a1 a)] [(3,[ay c,ay d,ay e,aD 52 1 C]),(2,[ay f,ay g,ay i,.v (aO)]),(1000000000,[.dx 1000000100 1 A,ay j,ay b])]
def Xd(A:ah)(a d e f:Int)(C:ah)(g i j k c b:Int):aF:=bf 55 [(0,aT 1000000000),(2,aT 2),(3,aT 3),(4,a1 a),(37,a1 a),(38,aT 1000000000),(39,a1 b),(40,.aI (.one (.bc (decide (a<b)))))] [(3,[ay d,ay e,ay f,aD 52 1 C]),(2,[ay g,ay i,ay j,.v (aO)]),(1000000000,[.dx 1000000100 1 A,ay k,ay c])]
def MA(C:ah)(a f g i:Int)(A:ah)(j k l c d e b:Int):aF:=bf 55 [(0,aT 1000000000),(2,aT 2),(3,aT 3),(4,a1 a),(37,a1 a),(38,aT 1000000000),(39,a1 c),(40,.aI (.one (.bc (decide (a<c))))),(43,.aI (.one (.ptr 3 3))),(44,.aI (.one (.J (Tag.ro 52) 1 A))),(45,a1 a),(46,a1 (a*2)),(47,a1 (1+a*2)),(48,aT 1000000000),(49,a1 b),(50,a1 (1+a*2+b)),(51,.aI (.one (.J (.own 51) 1 [[I (1+a*2+b)]]))),(52,aJ.aI (bC.one (aD 52 1 (A++[[I (1+a*2+b)]])))),(53,.aI (.one (.ptr 3 3)))] [(3,[ay f,ay g,ay i,aD 52 1 (A++[[I (1+a*2+b)]])]),(2,[ay j,ay k,ay l,.v (aO)]),(1000000000,[.dx 1000000100 1 C,ay d,ay e])]
theorem aoB{A:ah}{a g i j:Int}{C:ah}{k l m e f n c d b:Int}
  (h:cO [aG .i64 (a*2),aG .i64 (1+a*2),bZ prog 138 [aN.cur [D.J 1 A,I e,I f] [D.J 1 A,I c,I d],aN.ro (ao 2)] (aV.vals [ao b]),aG .i64 (1+a*2+b),(C.length+[[I (1+a*2+b)]].length)*8<=140737488355328,C.length+[[I (1+a*2+b)]].length<=9223372036854775807,Flat [[I (1+a*2+b)]]]):
  eA prog (cV f319 14) (Xd A a g i j C k l m e f n) (MA A a g i j C k l m n c d b):=
 .of [[],[],[],[],[],[],[.dm [some [D.J 1 A,I c,I d],none] (aV.vals [ao b])],[],[],[],[],[]] [[],[],[],[aG .i64 (a*2)],[aG .i64 (1+a*2)],[],[bZ prog 138 [aN.cur [D.J 1 A,I e,I f] [D.J 1 A,I c,I d],aN.ro (ao 2)] (aV.vals [ao b])],[aG .i64 (1+a*2+b)],[],[(C.length+[[I (1+a*2+b)]].length)*8<=140737488355328,C.length+[[I (1+a*2+b)]].length<=9223372036854775807,Flat [[I (1+a*2+b)]]],[],[]] (by kernel_rfl) (by kernel_rfl) (by kernel_rfl) h
theorem aoC(h:af [.w A j k b,.k A 138 o p j k 3 b,.b (decide (a<b)) true,.a (.iu (MA A a c d e C f g i b l m n)),.p (eA prog (cV f319 14) (Xd A a c d e C f g i j k b) (MA A a c d e C f g i b l m n)),.u a]):
 aY (aq f319 0) (uQ A a c d e C f g i o p) .normal (uQ A (a+1) c d e (C++[[I (1+a*2+n)]]) f g i l m):=
 h.aW [4,0,3,2] [3,2,1000000000]
def zt(A:ah)(a b c:Int)(C:ah)(d e f g i:Int):aF:=bf 55 [(0,aT 1000000000),(2,aT 2),(3,aT 3)] [(3,[ay a,ay b,ay c,aD 52 1 C]),(2,[ay d,ay e,ay f,.v (aO)]),(1000000000,[.dx 1000000100 1 A,ay g,ay i])]
theorem aoD(h:af [.w A a b c,.k A 138 l m a b 3 c,.b (decide (d<c)) false]):
 aY (aq f319 0) (uQ A d e f g C i j k l m) (.exit 1) (zt A e f g C i j k a b):=
 h.aW [3,2,0] [3,2,1000000000]
def Gq(A:ah)(a b c d e:Int)(l:List O):List O:=.w A a b c::.k A 138 d e a b 8 c::l
theorem aoE(h:af (Gq A c d a g n [.v (1+a),.b (1+a==2) true,.w A e f b,.p (bZ prog 140 [aN.cur [D.J 1 A,I c,I d] [D.J 1 A,I e,I f],aN.ro (.one (.J 1 [[I 0],[I 1],[I 3],[I 10],[I 999]]))] (aV.vals [ao b])),.b (1+a != 8) true,.l [(4000003,52,1)] [4,0,3,2] [3,2,1000000000] (aq f319 0) (uQ A 0 (1+a) b 0 [] 0 0 0 e f) (.exit 1) (zt A i j k C o p a0 l m)])):
 cc 319 [aN.cur [D.J 1 A,I g,I n] [D.J 1 A,I l,I m]] (aV.vals [.agg (bn i j k C)]):=
 h.cd
def Gr(A:ah)(a b c d e:Int)(l:List O):List O:=Gq A a b c d e (.v (1+c)::.b (1+c==2) false::l)
theorem aoF(h:af (Gr A f g a k o [.b (1+a==3) true,.w A i j b,.w A c d e,.k A 138 f g i j 4 b,.v (1+b),.k A 138 i j c d (1+b) e,.b (1+a != 8) true,.l [(4000003,52,1)] [4,0,3,2] [3,2,1000000000] (aq f319 0) (uQ A 0 (1+a) (1+b) e [] 0 0 0 c d) (.exit 1) (zt A l m n C b9 de d0 p a0)])):
 cc 319 [aN.cur [D.J 1 A,I k,I o] [D.J 1 A,I p,I a0]] (aV.vals [.agg (bn l m n C)]):=
 h.cd
theorem aoG(h:af (Gr A c d a g n [.b (1+a==3) false,.b (1+a==4) true,.w A e f b,.p (bZ prog 140 [aN.cur [D.J 1 A,I c,I d] [D.J 1 A,I e,I f],aN.ro (.one (.J 1 [[I 0],[I 1],[I 2],[I 3],[I 50],[I 99]]))] (aV.vals [ao b])),.b (1+a != 8) true,.l [(4000003,52,1)] [4,0,3,2] [3,2,1000000000] (aq f319 0) (uQ A 0 (1+a) b 0 [] 0 0 0 e f) (.exit 1) (zt A i j k C o p a0 l m)])):
 cc 319 [aN.cur [D.J 1 A,I g,I n] [D.J 1 A,I l,I m]] (aV.vals [.agg (bn i j k C)]):=
 h.cd
theorem aoH(h:af (Gr A b c a d g [.b (1+a==3) false,.b (1+a==4) false,.b (1+a != 8) true,.l [(4000003,52,1)] [4,0,3,2] [3,2,1000000000] (aq f319 0) (uQ A 0 (1+a) 0 0 [] 0 0 0 b c) (.exit 1) (zt A i j k C l m n e f)])):
 cc 319 [aN.cur [D.J 1 A,I d,I g] [D.J 1 A,I e,I f]] (aV.vals [.agg (bn i j k C)]):=
 h.cd
theorem aoI(h:af (Gr A b c a d e [.b (1+a==3) false,.b (1+a==4) false,.b (1+a != 8) false])):
 cc 319 [aN.cur [D.J 1 A,I d,I e] [D.J 1 A,I b,I c]] (aV.vals [.agg (bn (1+a) 0 0 [])]):=
 h.cd
def CE(A:ah)(a b c d e:Int)(C:ah)(f g i j k:Int)(l:List O):List O:=.a (.dm [some [D.J 1 A,I a,I b]] (aV.vals [.agg (bn c d e C)]))::.w A f g i::.p (bZ prog 319 [aN.cur [D.J 1 A,I j,I k] [D.J 1 A,I a,I b]] (aV.vals [.agg (bn c d e C)]))::.k A 138 a b f g 12 i::l
theorem aoJ(h:af (CE A g i n j k C b c d l m [.b (d==0) true,.w A e f a,.k A 138 b c e f 11 a,.v (a-1)])):
 cc 252 [aN.cur [D.J 1 A,I l,I m] [D.J 1 A,I e,I f]] (aV.vals [.agg (bn (a-1) j k C)]):=
 h.cd
theorem aoK(h:af (CE A g i j n k C b c a l m [.b (a==0) false,.b (a==1) true,.w A d e f,.p (bZ prog 140 [aN.cur [D.J 1 A,I b,I c] [D.J 1 A,I d,I e],aN.ro (.one (.J 1 [[I (-1)],[I 0],[I 1000],[I 100],[I 11]]))] (aV.vals [ao f]))])):
 cc 252 [aN.cur [D.J 1 A,I l,I m] [D.J 1 A,I d,I e]] (aV.vals [.agg (bn j f k C)]):=
 h.cd
theorem aoL(h:af (CE A g i j k n C b c a l m [.b (a==0) false,.b (a==1) false,.b (a==2) true,.w A d e f,.p (bZ prog 140 [aN.cur [D.J 1 A,I b,I c] [D.J 1 A,I d,I e],aN.ro (.one (.J 1 [[I (-1)],[I 1],[I 3]]))] (aV.vals [ao f]))])):
 cc 252 [aN.cur [D.J 1 A,I l,I m] [D.J 1 A,I d,I e]] (aV.vals [.agg (bn j k f C)]):=
 h.cd
def MB(C:ah)(b c d:Int)(A:ah)(e f a:Int):aF:=bf 37 [(0,aT 1000000000),(2,aT 2),(3,aT 3),(4,aT 1000000000),(5,aJ.aI (bC.agg [ay b,ay c,ay d,aD 60003 1 A])),(6,aT 1000000000),(7,a1 a),(8,.aI (.one (.bc (a==0)))),(9,.aI (.one (.bc (a==0)))),(14,.aI (.one (.bc (a==1)))),(15,.aI (.one (.bc (a==1)))),(20,.aI (.one (.bc (a==2)))),(21,.aI (.one (.bc (a==2)))),(26,.aI (.one (.bc (a==3)))),(27,.aI (.one (.bc (a==3))))] [(3,[ay b,ay c,ay d,aD 60003 1 A]),(2,[ay 0,ay 0,ay 0,.v (aO)]),(1000000000,[.dx 1000000100 1 C,ay e,ay f])]
def MC(P:Program)(W:Array Oper)(A:ah)(g i j:Int)(C:ah)(a b c d e f:Int):aF:=
 mS P W [[],[],[],[],[.dm [some [D.J 1 A,I d,I e],none] (aV.vals [ao f])],[],[],[],[]] (MB A g i j C a b c)
theorem aoM{A:ah}{g i j:Int}{C:ah}{b c d e f a:Int}
  (h:cO [bZ prog 140 [aN.cur [D.J 1 A,I b,I c] [D.J 1 A,I e,I f],aN.ro (.one (.J 1 [[I 1],[I 7],[I 8],[I (-1)]]))] (aV.vals [ao a]),(C.length+[[I a]].length)*8<=140737488355328,C.length+[[I a]].length<=9223372036854775807,Flat [[I a]]]):
  eA prog (cV f252 10) (MB A g i j C b c d) (MC prog (cV f252 10) A g i j C b c d e f a):=
 .nK [0,0,0,0,1,0,3,0,0] h
theorem aoN(h:af (CE A k l b c d C e f a m n [.b (a==0) false,.b (a==1) false,.b (a==2) false,.b (a==3) true,.a (.iu (MC prog (cV f252 10) A b c d C e f a g i j)),.p (eA prog (cV f252 10) (MB A b c d C e f a) (MC prog (cV f252 10) A b c d C e f a g i j))])):
 cc 252 [aN.cur [D.J 1 A,I m,I n] [D.J 1 A,I g,I i]] (aV.vals [.agg (bn b c d (C++[[I j]]))]):=
 h.cd
theorem aoO(h:af (CE A d e f g i C b c a j k [.b (a==0) false,.b (a==1) false,.b (a==2) false,.b (a==3) false])):
 cc 252 [aN.cur [D.J 1 A,I j,I k] [D.J 1 A,I b,I c]] (aV.vals [.agg (bn f g i C)]):=
 h.cd
def ti(A:ah)(a g:Int)(C:ah)(i j k l m n b c d e f:Int):aF:=bf 40 [(0,aT 1000000000),(2,aT 2),(3,aT 3),(4,a1 a)] [(3,[ay g,aD 900004001 5 C,ay i,ay j,ay k,ay l]),(2,[ay m,.v (aO),ay n,ay b,ay c,ay d]),(1000000000,[.dx 1000000100 1 A,ay e,ay f])]
def N9(A:ah)(a b c d e f g i j:Int)(l:List O):List O:=.w A a b c::.k A 138 d e a b 9 c::.b (decide (f<c)) true::.w A g i j::.k A 138 a b g i 4 j::l
theorem aoP(h:af (N9 A b c d de d0 a e f g [.b (g==0) true,.r 260 [.agg (b5 i C j k l m)] [.agg (b5 bM E f0 g0 i0 j0),.agg (bx dC gh m0 Jv A1),al q],.u a])):
 aY (aq f327 0) (ti A a i C j k l m n o p a0 b9 de d0) .normal (ti A (a+1) bM E f0 g0 i0 j0 n o p a0 b9 e f):=
 h.qp [(4000001,900004001,5)] [4,0,3,2] [3,2,1000000000]
theorem aoQ(h:af (N9 A c d e de d0 a f g b [.b (b==0) false,.b (b==1) true,.r 261 [.agg (b5 i C j k l m)] [.agg (b5 bM E f0 g0 i0 j0),al q],.u a])):
 aY (aq f327 0) (ti A a i C j k l m n o p a0 b9 de d0) .normal (ti A (a+1) bM E f0 g0 i0 j0 n o p a0 b9 f g):=
 h.qp [(4000001,900004001,5)] [4,0,3,2] [3,2,1000000000]
def MD(A:ah)(b j:Int)(C:ah)(k l m n o p d e f c g i a:Int):aF:=bf 40 [(0,aT 1000000000),(2,aT 2),(3,aT 3),(4,a1 b),(9,a1 b),(10,aT 1000000000),(11,a1 c),(12,.aI (.one (.bc (decide (b<c))))),(15,aT 1000000000),(16,a1 a),(24,.aI (.one (.bc (a==0)))),(25,.aI (.one (.bc (a==0)))),(32,.aI (.one (.bc (a==1)))),(33,.aI (.one (.bc (a==1))))] [(3,[ay j,aD 900004001 5 C,ay k,ay l,ay m,ay n]),(2,[ay o,.v (aO),ay p,ay d,ay e,ay f]),(1000000000,[.dx 1000000100 1 A,ay g,ay i])]
def L4(P:Program)(W:Array Oper)(A:ah)(a b:Int)(C:ah)(c d e f g i j k l m n o p a0 b9 de d0 bM f0 g0 i0:Int)(E:ah)(j0 dC gh m0:Int)(q:Bool):aF:=
 mS P W [[],[],[.dm [some [D.J 1 A,I a0,I b9]] (aV.vals [.agg (bx de d0 bM f0 g0)])],[.res [.agg (b5 i0 E j0 dC gh m0),al q]],[],[],[],[]] (MD A a b C c d e f g i j k l m n o p)
theorem aoR{A:ah}{n a:Int}{C:ah}{b c d e o p a0 b9 de d0 f g bM f0 g0 i j k l m i0:Int}{E:ah}{j0 dC gh m0:Int}{q:Bool}
  (h:cO [bZ prog 271 [aN.cur [D.J 1 A,I f,I g] [D.J 1 A,I f0,I g0]] (aV.vals [.agg (bx i j k l m)]),aw 258 [.agg (b5 a C b c d e),.agg (bx i j k l m)] [.agg (b5 i0 E j0 dC gh m0),al q]]):
  eA prog (cV f327 6) (MD A n a C b c d e o p a0 b9 de d0 f g bM) (L4 prog (cV f327 6) A n a C b c d e o p a0 b9 de d0 f g bM f0 g0 i j k l m i0 E j0 dC gh m0 q):=
 .nK [0,0,1,1,0,0,0,0] h
theorem aoS(h:af (N9 A a0 b9 c dC gh a j k b [.b (b==0) false,.b (b==1) false,.a (.iu (L4 prog (cV f327 6) A a l C m n o p d e f g i c j k b de d0 m0 Jv A1 iF ej bM E f0 g0 i0 j0 q)),.p (eA prog (cV f327 6) (MD A a l C m n o p d e f g i c j k b) (L4 prog (cV f327 6) A a l C m n o p d e f g i c j k b de d0 m0 Jv A1 iF ej bM E f0 g0 i0 j0 q)),.u a])):
 aY (aq f327 0) (ti A a l C m n o p d e f g i dC gh) .normal (ti A (a+1) bM E f0 g0 i0 j0 d e f g i de d0):=
 h.qp [(4000001,900004001,5)] [4,0,3,2] [3,2,1000000000]
def L5(A:ah)(a:Int)(C:ah)(f g i j k l m b c d e:Int):aF:=bf 40 [(0,aT 1000000000),(2,aT 2),(3,aT 3)] [(3,[ay a,aD 900004001 5 C,ay f,ay g,ay i,ay j]),(2,[ay k,.v (aO),ay l,ay m,ay b,ay c]),(1000000000,[.dx 1000000100 1 A,ay d,ay e])]
theorem aoT(h:af [.w A a b c,.k A 138 p a0 a b 9 c,.b (decide (d<c)) false]):
 aY (aq f327 0) (ti A d e C f g i j k l m n o p a0) (.exit 0) (L5 A e C f g i j k l m n o a b):=
 h.aW [3,2,0] [3,2,1000000000]
theorem aoU(h:af [.w A b c a,.k A 138 d n b c 4 a,.v (1+a),.r 126 [ao (1+a)] [.agg (b5 a0 E b9 e f g)],.l [(4000001,900004001,5)] [4,0,3,2] [3,2,1000000000] (aq f327 0) (ti A 0 a0 E b9 e f g 0 0 0 0 0 b c) (.exit 0) (L5 A i C j k l m de d0 bM f0 g0 o p)]):
 cc 327 [aN.cur [D.J 1 A,I d,I n] [D.J 1 A,I o,I p]] (aV.vals [.agg (b5 i C j k l m)]):=
 h.cd
def zH(A:ah)(a b c:Int)(C:ah)(d e f g i j k m n:Int)(l:List O):List O:=.a (.dm [some [D.J 1 A,I a,I b]] (aV.vals [.agg (b5 c C d e f g)]))::.w A i j k::.p (bZ prog 327 [aN.cur [D.J 1 A,I m,I n] [D.J 1 A,I a,I b]] (aV.vals [.agg (b5 c C d e f g)]))::.k A 138 a b i j 14 k::l
theorem aoV(h:af (zH A j k l C p m b c d e f n o [.b (f==0) true,.w A g i a,.k A 138 d e g i 6 a,.v (a-1)])):
 cc 278 [aN.cur [D.J 1 A,I n,I o] [D.J 1 A,I g,I i]] (aV.vals [.agg (b5 l C (a-1) m b c)]):=
 h.cd
theorem aoW(h:af (zH A j k l C m p c d e f a n o [.b (a==0) false,.b (a==1) true,.w A g i b,.k A 138 e f g i 6 b,.v (b-1)])):
 cc 278 [aN.cur [D.J 1 A,I n,I o] [D.J 1 A,I g,I i]] (aV.vals [.agg (b5 l C m (b-1) c d)]):=
 h.cd
theorem an7(h:af (zH A i j k C l m o b c d a n p [.b (a==0) false,.b (a==1) false,.b (a==2) true,.w A e f g,.p (bZ prog 140 [aN.cur [D.J 1 A,I c,I d] [D.J 1 A,I e,I f],aN.ro (.one (.J 1 [[I (-1)],[I 0],[I 1000000000],[I 1000000001]]))] (aV.vals [ao g]))])):
 cc 278 [aN.cur [D.J 1 A,I n,I p] [D.J 1 A,I e,I f]] (aV.vals [.agg (b5 k C l m g b)]):=
 h.cd
def L6(C:ah)(b:Int)(A:ah)(c d e f g i a:Int):aF:=bf 44 [(0,aT 1000000000),(2,aT 2),(3,aT 3),(4,aT 1000000000),(5,aJ.aI (bC.agg [ay b,aD 60001 5 A,ay c,ay d,ay e,ay f])),(6,aT 1000000000),(7,a1 a),(8,.aI (.one (.bc (a==0)))),(9,.aI (.one (.bc (a==0)))),(14,.aI (.one (.bc (a==1)))),(15,.aI (.one (.bc (a==1)))),(20,.aI (.one (.bc (a==2)))),(21,.aI (.one (.bc (a==2)))),(26,.aI (.one (.bc (a==3)))),(27,.aI (.one (.bc (a==3))))] [(3,[ay b,aD 60001 5 A,ay c,ay d,ay e,ay f]),(2,[ay 0,.v (aO),ay 0,ay 0,ay 0,ay 0]),(1000000000,[.dx 1000000100 1 C,ay g,ay i])]
def L7(P:Program)(W:Array Oper)(A:ah)(n:Int)(C:ah)(o p a b c d e f g i j k l m:Int):aF:=
 mS P W [[],[],[],[.dm [some [D.J 1 A,I f,I g]] (aV.vals [.agg (bx i j k l m)])],[],[],[],[]] (L6 A n C o p a b c d e)
theorem an8{A:ah}{n:Int}{C:ah}{o p i j f g k l m a b c d e:Int}
  (h:cO [bZ prog 178 [aN.cur [D.J 1 A,I f,I g] [D.J 1 A,I l,I m]] (aV.vals [.agg (bx a b c d e)]),(C.length+[(bx a b c d e)].length)*40<=140737488355328,C.length+[(bx a b c d e)].length<=9223372036854775807,Flat [(bx a b c d e)]]):
  eA prog (cV f278 10) (L6 A n C o p i j f g k) (L7 prog (cV f278 10) A n C o p i j f g k l m a b c d e):=
 .nK [0,0,0,1,0,3,0,0] h
theorem an9(h:af (zH A a0 b9 d C e f b c g i a de d0 [.b (a==0) false,.b (a==1) false,.b (a==2) false,.b (a==3) true,.a (.iu (L7 prog (cV f278 10) A d C e f b c g i a j k l m n o p)),.p (eA prog (cV f278 10) (L6 A d C e f b c g i a) (L7 prog (cV f278 10) A d C e f b c g i a j k l m n o p))])):
 cc 278 [aN.cur [D.J 1 A,I de,I d0] [D.J 1 A,I j,I k]] (aV.vals [.agg (b5 d (C++[(bx l m n o p)]) e f b c)]):=
 h.cd
theorem aoa(h:af (zH A d e f C g i k l b c a j m [.b (a==0) false,.b (a==1) false,.b (a==2) false,.b (a==3) false,.b (a==4) true,.v (1000000000-(C.length:Int))])):
 cc 278 [aN.cur [D.J 1 A,I j,I m] [D.J 1 A,I b,I c]] (aV.vals [.agg (b5 f C g i 1000000000 (1000000000-(C.length:Int)))]):=
 h.cd
theorem aob(h:af (zH A f g i C j k b c d e a l m [.b (a==0) false,.b (a==1) false,.b (a==2) false,.b (a==3) false,.b (a==4) false])):
 cc 278 [aN.cur [D.J 1 A,I l,I m] [D.J 1 A,I d,I e]] (aV.vals [.agg (b5 i C j k b c)]):=
 h.cd
def Gt(A:ah)(a b c d e f g i j:Int)(l:List O):List O:=.a (.dm [some [D.J 1 A,I a,I b]] (aV.vals [.agg (bx c d e f g)]))::.p (bZ prog 271 [aN.cur [D.J 1 A,I i,I j] [D.J 1 A,I a,I b]] (aV.vals [.agg (bx c d e f g)]))::l
theorem aoc(h:af (Gt A m n b9 b p c d o a0 [.b (decide ((C.length:Int)>0)) true,.w A e f g,.y A i j q,.k A 138 m n e f (C.length:Int) g,.m A 136 e f i j 4 q,.b q true,.w A k l a,.k A 138 i j k l 2 a,.v (5+a)])):
 cc 350 [aN.cur [D.J 1 A,I o,I a0] [D.J 1 A,I k,I l],aN.ro (.agg (bt C de d0))] (aV.vals [.agg (bx g b (5+a) c d)]):=
 h.cd
theorem aod(h:af (Gt A k l o a b c d m n [.b (decide ((C.length:Int)>0)) true,.w A e f g,.y A i j q,.k A 138 k l e f (C.length:Int) g,.m A 136 e f i j 4 q,.b q false])):
 cc 350 [aN.cur [D.J 1 A,I m,I n] [D.J 1 A,I i,I j],aN.ro (.agg (bt C p a0))] (aV.vals [.agg (bx g a b c d)]):=
 h.cd
theorem aoe(h:af (Gt A j k l b n c d m o [.b (decide ((C.length:Int)>0)) false,.y A e f q,.m A 136 j k e f 4 q,.b q true,.w A g i a,.k A 138 e f g i 2 a,.v (5+a)])):
 cc 350 [aN.cur [D.J 1 A,I m,I o] [D.J 1 A,I g,I i],aN.ro (.agg (bt C p a0))] (aV.vals [.agg (bx l b (5+a) c d)]):=
 h.cd
theorem aof(h:af (Gt A g i j a b c d k l [.b (decide ((C.length:Int)>0)) false,.y A e f q,.m A 136 g i e f 4 q,.b q false])):
 cc 350 [aN.cur [D.J 1 A,I k,I l] [D.J 1 A,I e,I f],aN.ro (.agg (bt C m n))] (aV.vals [.agg (bx j a b c d)]):=
 h.cd
def qN(A:ah)(a:Int)(E F G H au K L M C:ah)(b c d e:Int):aF:=bf 48 [(0,aT 1000000000),(3,aT 3),(4,aT 4),(5,aT 5),(6,a1 a)] [(5,[aD 900006000 5 E,aD 900006001 5 F,aD 900006002 5 G,aD 900006003 4 H,aD 900006004 1 au,aD 900006005 1 K,aD 900006006 1 L,aD 900006007 2 M]),(4,[.v (aO),.v (aO),.v (aO),.v (aO),.v (aO),.v (aO),.v (aO),.v (aO)]),(3,[.J .free 4 C,ay b,ay c]),(1000000000,[.dx 1000000100 1 A,ay d,ay e])]
def Gs(A:ah)(a b c d e f g i j:Int)(l:List O):List O:=Gq A a b c d e (.b (decide (f<c)) true::.w A g i j::.k A 138 a b g i 5 j::l)
theorem aog(h:af (Gs A d e f k l a g i j [.b (j==0) true,.r 348 [.agg (bt C b c),.agg (bj E F G H au K L M)] [.agg (bj N Q R S bz V X Y),al q],.u a])):
 aY (aq f326 0) (qN A a E F G H au K L M C b c k l) .normal (qN A (a+1) N Q R S bz V X Y C b c g i):=
 h.qp [(6000000,900006000,5),(6000001,900006001,5),(6000002,900006002,5),(6000003,900006003,4),(6000004,900006004,1),(6000005,900006005,1),(6000006,900006006,1),(6000007,900006007,2)] [6,0,3,5,4] [5,4,3,1000000000]
def L8(A:ah)(b:Int)(E F G H au K L M C:ah)(d e c f g a:Int):aF:=bf 48 [(0,aT 1000000000),(3,aT 3),(4,aT 4),(5,aT 5),(6,a1 b),(10,a1 b),(11,aT 1000000000),(12,a1 c),(13,.aI (.one (.bc (decide (b<c))))),(16,aT 1000000000),(17,a1 a),(24,.aI (.one (.bc (a==0)))),(25,.aI (.one (.bc (a==0)))),(32,.aI (.one (.bc (a==1)))),(33,.aI (.one (.bc (a==1))))] [(5,[aD 900006000 5 E,aD 900006001 5 F,aD 900006002 5 G,aD 900006003 4 H,aD 900006004 1 au,aD 900006005 1 K,aD 900006006 1 L,aD 900006007 2 M]),(4,[.v (aO),.v (aO),.v (aO),.v (aO),.v (aO),.v (aO),.v (aO),.v (aO)]),(3,[.J .free 4 C,ay d,ay e]),(1000000000,[.dx 1000000100 1 A,ay f,ay g])]
def L9(P:Program)(W:Array Oper)(A:ah)(a:Int)(C E F G H au K L M:ah)(b c d e f g i j k l m n o:Int)(N Q R S bz V X Y:ah):aF:=
 mS P W [[],[],[],[.dm [some [D.J 1 A,I i,I j],none] (aV.vals [.agg (bx k l m n o)])],[.res [.agg (bj N Q R S bz V X Y)]],[]] (L8 A a C E F G H au K L M b c d e f g)
theorem aoh{A:ah}{k:Int}{C E F G H au K L M:ah}{a b l c d m n o e f g i j:Int}{N Q R S bz V X Y:ah}
  (h:cO [bZ prog 350 [aN.cur [D.J 1 A,I c,I d] [D.J 1 A,I n,I o],aN.ro (.agg (bt M a b))] (aV.vals [.agg (bx e f g i j)]),aw 349 [.agg (bj C E F G H au K L),.agg (bx e f g i j)] [.agg (bj N Q R S bz V X Y)]]):
  eA prog (cV f326 10) (L8 A k C E F G H au K L M a b l c d m) (L9 prog (cV f326 10) A k C E F G H au K L M a b l c d m n o e f g i j N Q R S bz V X Y):=
 .nK [0,0,0,1,1,0] h
theorem aoi(h:af (Gs A i j c m n a f g b [.b (b==0) false,.b (b==1) true,.a (.iu (L9 prog (cV f326 10) A a E F G H au K L M C d e c f g b k l o p a0 b9 de N Q R S bz V X Y)),.p (eA prog (cV f326 10) (L8 A a E F G H au K L M C d e c f g b) (L9 prog (cV f326 10) A a E F G H au K L M C d e c f g b k l o p a0 b9 de N Q R S bz V X Y)),.u a])):
 aY (aq f326 0) (qN A a E F G H au K L M C d e m n) .normal (qN A (a+1) N Q R S bz V X Y C d e k l):=
 h.qp [(6000000,900006000,5),(6000001,900006001,5),(6000002,900006002,5),(6000003,900006003,4),(6000004,900006004,1),(6000005,900006005,1),(6000006,900006006,1),(6000007,900006007,2)] [6,0,3,5,4] [5,4,3,1000000000]
theorem Xe(h:af (Gs A c d e k l b f g a [.b (a==0) false,.b (a==1) false,.b (a==2) true,.r 351 [.agg (bj C E F G H au K L)] [.agg (bj N Q R S bz V X Y),.agg (bx m n o p a0),al q],.u b])):
 aY (aq f326 0) (qN A b C E F G H au K L M i j k l) .normal (qN A (b+1) N Q R S bz V X Y M i j f g):=
 h.qp [(6000000,900006000,5),(6000001,900006001,5),(6000002,900006002,5),(6000003,900006003,4),(6000004,900006004,1),(6000005,900006005,1),(6000006,900006006,1),(6000007,900006007,2)] [6,0,3,5,4] [5,4,3,1000000000]
theorem aoj(h:af (Gs A e f g k l b i j a [.b (a==0) false,.b (a==1) false,.b (a==2) false,.r 48 [.agg (bt C c d),.agg (bj E F G H au K L M)] [.agg (bj N Q R S bz V X Y),al q],.u b])):
 aY (aq f326 0) (qN A b E F G H au K L M C c d k l) .normal (qN A (b+1) N Q R S bz V X Y C c d i j):=
 h.qp [(6000000,900006000,5),(6000001,900006001,5),(6000002,900006002,5),(6000003,900006003,4),(6000004,900006004,1),(6000005,900006005,1),(6000006,900006006,1),(6000007,900006007,2)] [6,0,3,5,4] [5,4,3,1000000000]
def Ma(A C E F G H au K L:ah)(b a:Int):aF:=bf 48 [(0,aT 1000000000),(4,aT 4),(5,aT 5)] [(5,[aD 900006000 5 C,aD 900006001 5 E,aD 900006002 5 F,aD 900006003 4 G,aD 900006004 1 H,aD 900006005 1 au,aD 900006006 1 K,aD 900006007 2 L]),(4,[.v (aO),.v (aO),.v (aO),.v (aO),.v (aO),.v (aO),.v (aO),.v (aO)]),(1000000000,[.dx 1000000100 1 A,ay b,ay a])]
theorem aok(h:af (Gq A a b c e f [.b (decide (d<c)) false])):
 aY (aq f326 0) (qN A d C E F G H au K L M g i e f) (.exit 0) (Ma A C E F G H au K L a b):=
 h.aW [5,4,0] [5,4,1000000000]
theorem aol(h:af [.a (.dm [some [D.J 1 A,I a,I b]] (aV.vals [aM 5 C])),.p (bZ prog 119 [aN.cur [D.J 1 A,I c,I d] [D.J 1 A,I a,I b]] (aV.vals [aM 5 C])),.r 124 [aM 5 C] [.agg (bj E F G H au K L M)],.l [(6000000,900006000,5),(6000001,900006001,5),(6000002,900006002,5),(6000003,900006003,4),(6000004,900006004,1),(6000005,900006005,1),(6000006,900006006,1),(6000007,900006007,2)] [6,0,3,5,4] [5,4,3,1000000000] (aq f326 0) (qN A 0 E F G H au K L M Z g i a b) (.exit 0) (Ma A N Q R S bz V X Y e f)]):
 cc 326 [aN.cur [D.J 1 A,I c,I d] [D.J 1 A,I e,I f],aN.ro (.agg (bt Z g i))] (aV.vals [.agg (bj N Q R S bz V X Y)]):=
 h.cd
def Mb(M A:ah)(b c:Int)(F G H au K L C E:ah)(d e a:Int):aF:=bf 80 [(0,aT 1000000000),(1,aJ.aI (bC.agg [.J .free 4 A,ay b,ay c])),(3,aT 3),(4,aT 4),(5,aT 5),(6,aT 1000000000),(7,aJ.aI (bC.agg [.J .free 4 A,ay b,ay c])),(8,aJ.aI (bC.agg [aD 90000 5 F,aD 90001 5 G,aD 90002 5 H,aD 90003 4 au,aD 90004 1 K,aD 90005 1 L,aD 90006 1 C,aD 90007 2 E])),(9,aT 1000000000),(10,a1 a),(11,.aI (.one (.bc (a==0)))),(12,.aI (.one (.bc (a==0))))] [(5,[aD 90000 5 F,aD 90001 5 G,aD 90002 5 H,aD 90003 4 au,aD 90004 1 K,aD 90005 1 L,aD 90006 1 C,aD 90007 2 E]),(4,[.v (aO),.v (aO),.v (aO),.v (aO),.v (aO),.v (aO),.v (aO),.v (aO)]),(3,[.J .free 4 A,ay b,ay c]),(1000000000,[.dx 1000000100 1 M,ay d,ay e])]
def Mc(P:Program)(W:Array Oper)(A L:ah)(l m:Int)(M C E F G H au K:ah)(a b c d e f g i j k:Int):aF:=
 mS P W [[],[],[],[.dm [some [D.J 1 A,I d,I e]] (aV.vals [.agg (bx f g i j k)])],[],[],[],[]] (Mb A L l m M C E F G H au K a b c)
theorem aom{A M:ah}{l m:Int}{C E F G H au K L:ah}{f g i j k a b c d e:Int}
  (h:cO [bZ prog 178 [aN.cur [D.J 1 A,I f,I g] [D.J 1 A,I j,I k]] (aV.vals [.agg (bx a b c d e)]),(C.length+[(bx a b c d e)].length)*40<=140737488355328,C.length+[(bx a b c d e)].length<=9223372036854775807,Flat [(bx a b c d e)]]):
  eA prog (cV f277 4) (Mb A M l m C E F G H au K L f g i) (Mc prog (cV f277 4) A M l m C E F G H au K L f g i j k a b c d e):=
 .nK [0,0,0,1,0,3,0,0] h
def N'(A:ah)(a b:Int)(C E F G H au K L:ah)(c d e f g:Int)(M:ah)(i j:Int)(l:List O):List O:=.a (.dm [some [D.J 1 A,I a,I b],none] (aV.vals [.agg (bj C E F G H au K L)]))::.w A c d e::.p (bZ prog 326 [aN.cur [D.J 1 A,I f,I g] [D.J 1 A,I a,I b],aN.ro (.agg (bt M i j))] (aV.vals [.agg (bj C E F G H au K L)]))::.k A 138 a b c d 16 e::l
theorem aon(h:af (N' A n o L C E F G H au K b c a p a0 M d e [.b (a==0) true,.a (.iu (Mc prog (cV f277 4) A M d e L C E F G H au K b c a f g i j k l m)),.p (eA prog (cV f277 4) (Mb A M d e L C E F G H au K b c a) (Mc prog (cV f277 4) A M d e L C E F G H au K b c a f g i j k l m))])):
 cc 277 [aN.cur [D.J 1 A,I p,I a0] [D.J 1 A,I f,I g],aN.ro (.agg (bt M d e))] (aV.vals [.agg (bj (L++[(bx i j k l m)]) C E F G H au K)]):=
 h.cd
def Md(M A:ah)(b c:Int)(F G H au K L C E:ah)(d e a:Int):aF:=bf 80 [(0,aT 1000000000),(1,aJ.aI (bC.agg [.J .free 4 A,ay b,ay c])),(3,aT 3),(4,aT 4),(5,aT 5),(6,aT 1000000000),(7,aJ.aI (bC.agg [.J .free 4 A,ay b,ay c])),(8,aJ.aI (bC.agg [aD 90000 5 F,aD 90001 5 G,aD 90002 5 H,aD 90003 4 au,aD 90004 1 K,aD 90005 1 L,aD 90006 1 C,aD 90007 2 E])),(9,aT 1000000000),(10,a1 a),(11,.aI (.one (.bc (a==0)))),(12,.aI (.one (.bc (a==0)))),(20,.aI (.one (.bc (a==1)))),(21,.aI (.one (.bc (a==1))))] [(5,[aD 90000 5 F,aD 90001 5 G,aD 90002 5 H,aD 90003 4 au,aD 90004 1 K,aD 90005 1 L,aD 90006 1 C,aD 90007 2 E]),(4,[.v (aO),.v (aO),.v (aO),.v (aO),.v (aO),.v (aO),.v (aO),.v (aO)]),(3,[.J .free 4 A,ay b,ay c]),(1000000000,[.dx 1000000100 1 M,ay d,ay e])]
def Nj(P:Program)(W:Array Oper)(A L:ah)(l m:Int)(M C E F G H au K:ah)(a b c d e f g i j k:Int):aF:=
 mS P W [[],[],[],[.dm [some [D.J 1 A,I d,I e]] (aV.vals [.agg (bx f g i j k)])],[],[],[],[]] (Md A L l m M C E F G H au K a b c)
theorem aoo{A L:ah}{l m:Int}{M E C F G H au K:ah}{f g i j k a b c d e:Int}
  (h:cO [bZ prog 271 [aN.cur [D.J 1 A,I f,I g] [D.J 1 A,I j,I k]] (aV.vals [.agg (bx a b c d e)]),(C.length+[(bx a b c d e)].length)*40<=140737488355328,C.length+[(bx a b c d e)].length<=9223372036854775807,Flat [(bx a b c d e)]]):
  eA prog (cV f277 6) (Md A L l m M E C F G H au K f g i) (Nj prog (cV f277 6) A L l m M E C F G H au K f g i j k a b c d e):=
 .nK [0,0,0,1,0,3,0,0] h
theorem aop(h:af (N' A n o L C E F G H au K b c a p a0 M d e [.b (a==0) false,.b (a==1) true,.a (.iu (Nj prog (cV f277 6) A M d e L C E F G H au K b c a f g i j k l m)),.p (eA prog (cV f277 6) (Md A M d e L C E F G H au K b c a) (Nj prog (cV f277 6) A M d e L C E F G H au K b c a f g i j k l m))])):
 cc 277 [aN.cur [D.J 1 A,I p,I a0] [D.J 1 A,I f,I g],aN.ro (.agg (bt M d e))] (aV.vals [.agg (bj L C (E++[(bx i j k l m)]) F G H au K)]):=
 h.cd
def Nk(M A:ah)(b c:Int)(F G H au K L C E:ah)(d e a:Int):aF:=bf 80 [(0,aT 1000000000),(1,aJ.aI (bC.agg [.J .free 4 A,ay b,ay c])),(3,aT 3),(4,aT 4),(5,aT 5),(6,aT 1000000000),(7,aJ.aI (bC.agg [.J .free 4 A,ay b,ay c])),(8,aJ.aI (bC.agg [aD 90000 5 F,aD 90001 5 G,aD 90002 5 H,aD 90003 4 au,aD 90004 1 K,aD 90005 1 L,aD 90006 1 C,aD 90007 2 E])),(9,aT 1000000000),(10,a1 a),(11,.aI (.one (.bc (a==0)))),(12,.aI (.one (.bc (a==0)))),(20,.aI (.one (.bc (a==1)))),(21,.aI (.one (.bc (a==1)))),(29,.aI (.one (.bc (a==2)))),(30,.aI (.one (.bc (a==2))))] [(5,[aD 90000 5 F,aD 90001 5 G,aD 90002 5 H,aD 90003 4 au,aD 90004 1 K,aD 90005 1 L,aD 90006 1 C,aD 90007 2 E]),(4,[.v (aO),.v (aO),.v (aO),.v (aO),.v (aO),.v (aO),.v (aO),.v (aO)]),(3,[.J .free 4 A,ay b,ay c]),(1000000000,[.dx 1000000100 1 M,ay d,ay e])]
def Nl(P:Program)(W:Array Oper)(A L:ah)(g i:Int)(M C E F G H au K:ah)(a b c d e f:Int):aF:=
 mS P W [[],[],[],[.dm [some [D.J 1 A,I d,I e],none] (aV.vals [ao f])],[.own],[],[]] (Nk A L g i M C E F G H au K a b c)
theorem aoq{C L:ah}{g i:Int}{M E F G A H au K:ah}{b c d e f a:Int}
  (h:cO [bZ prog 138 [aN.cur [D.J 1 C,I b,I c] [D.J 1 C,I e,I f],aN.ro (ao 4)] (aV.vals [ao a]),(0:Int)<=none.getD 0,none.getD 0<=(some a).getD (A.length:Int),(some a).getD (A.length:Int)<=(A.length:Int)]):
  eA prog (cV f277 8) (Nk C L g i M E F G A H au K b c d) (Nl prog (cV f277 8) C L g i M E F G A H au K b c d e f a):=
 .nK [0,0,0,1,3,0,0] h
def Gu(A:ah)(a b:Int)(C E F G H au K L:ah)(c d e f g:Int)(M:ah)(i j:Int)(l:List O):List O:=N' A a b C E F G H au K L c d e f g M i j (.b (e==0) false::.b (e==1) false::l)
theorem aor(h:af (Gu A j k L E F G C H au K b c a l m M d e [.b (a==2) true,.a (.iu (Nl prog (cV f277 8) A M d e L E F G C H au K b c a f g i)),.p (eA prog (cV f277 8) (Nk A M d e L E F G C H au K b c a) (Nl prog (cV f277 8) A M d e L E F G C H au K b c a f g i))])):
 cc 277 [aN.cur [D.J 1 A,I l,I m] [D.J 1 A,I f,I g],aN.ro (.agg (bt M d e))] (aV.vals [.agg [D.J 5 L,D.J 5 E,D.J 5 F,D.J 4 G,D.J 1 (List.take (((some i).getD (C.length:Int)).toNat-0) (List.drop 0 C)),D.J 1 H,D.J 1 au,D.J 2 K]]):=
 h.cd
def Xf(M A:ah)(b c:Int)(F G H au K L C E:ah)(d e a:Int):aF:=bf 80 [(0,aT 1000000000),(1,aJ.aI (bC.agg [.J .free 4 A,ay b,ay c])),(3,aT 3),(4,aT 4),(5,aT 5),(6,aT 1000000000),(7,aJ.aI (bC.agg [.J .free 4 A,ay b,ay c])),(8,aJ.aI (bC.agg [aD 90000 5 F,aD 90001 5 G,aD 90002 5 H,aD 90003 4 au,aD 90004 1 K,aD 90005 1 L,aD 90006 1 C,aD 90007 2 E])),(9,aT 1000000000),(10,a1 a),(11,.aI (.one (.bc (a==0)))),(12,.aI (.one (.bc (a==0)))),(20,.aI (.one (.bc (a==1)))),(21,.aI (.one (.bc (a==1)))),(29,.aI (.one (.bc (a==2)))),(30,.aI (.one (.bc (a==2)))),(37,.aI (.one (.bc (a==3)))),(38,.aI (.one (.bc (a==3))))] [(5,[aD 90000 5 F,aD 90001 5 G,aD 90002 5 H,aD 90003 4 au,aD 90004 1 K,aD 90005 1 L,aD 90006 1 C,aD 90007 2 E]),(4,[.v (aO),.v (aO),.v (aO),.v (aO),.v (aO),.v (aO),.v (aO),.v (aO)]),(3,[.J .free 4 A,ay b,ay c]),(1000000000,[.dx 1000000100 1 M,ay d,ay e])]
def Nn(M C:ah)(c d:Int)(G H au K A L E F:ah)(a e f b:Int):aF:=bf 80 [(0,aT 1000000000),(1,aJ.aI (bC.agg [.J .free 4 C,ay c,ay d])),(3,aT 3),(4,aT 4),(5,aT 5),(6,aT 1000000000),(7,aJ.aI (bC.agg [.J .free 4 C,ay c,ay d])),(8,aJ.aI (bC.agg [aD 90000 5 G,aD 90001 5 H,aD 90002 5 au,aD 90003 4 K,aD 90004 1 (A.set 0 [I b]),aD 90005 1 L,aD 90006 1 E,aD 90007 2 F])),(9,aT 1000000000),(10,a1 a),(11,.aI (.one (.bc (a==0)))),(12,.aI (.one (.bc (a==0)))),(20,.aI (.one (.bc (a==1)))),(21,.aI (.one (.bc (a==1)))),(29,.aI (.one (.bc (a==2)))),(30,.aI (.one (.bc (a==2)))),(37,.aI (.one (.bc (a==3)))),(38,.aI (.one (.bc (a==3)))),(39,.aI (.one (.ptr 5 4))),(40,aJ.aI (bC.one (aD 90004 1 (A.set 0 [I b])))),(41,aT 1000000000),(42,.aI (.one (.J (.own 42) 1 [[I 1000000],[I 1000001],[I (-1000001)]]))),(43,a1 b),(44,.aI (.one (.ep (Tag.own 90004) 1 (A.set 0 [I b]) 0 0)))] [(5,[aD 90000 5 G,aD 90001 5 H,aD 90002 5 au,aD 90003 4 K,aD 90004 1 (A.set 0 [I b]),aD 90005 1 L,aD 90006 1 E,aD 90007 2 F]),(4,[.v (aO),.v (aO),.v (aO),.v (aO),.v (aO),.v (aO),.v (aO),.v (aO)]),(3,[.J .free 4 C,ay c,ay d]),(1000000000,[.dx 1000000100 1 M,ay e,ay f])]
theorem aos{A L:ah}{g i:Int}{M E F G C H au K:ah}{d e f a b c:Int}{d25:D}
  (h:cO [bZ prog 140 [aN.cur [D.J 1 A,I d,I e] [D.J 1 A,I a,I b],aN.ro (.one (.J 1 [[I 1000000],[I 1000001],[I (-1000001)]]))] (aV.vals [ao c]),(0:Int)<=0,0<(C.length:Int),C[0]?=some [d25]]):
  eA prog (cV f277 10) (Xf A L g i M E F G C H au K d e f) (Nn A L g i M E F G C H au K f a b c):=
 .of [[],[],[],[],[.dm [some [D.J 1 A,I a,I b],none] (aV.vals [ao c])],[],[.el [d25]]] [[],[],[],[],[bZ prog 140 [aN.cur [D.J 1 A,I d,I e] [D.J 1 A,I a,I b],aN.ro (.one (.J 1 [[I 1000000],[I 1000001],[I (-1000001)]]))] (aV.vals [ao c])],[(0:Int)<=0,0<(C.length:Int)],[C[0]?=some [d25]]] (by kernel_rfl) (by kernel_rfl) (by kernel_rfl) h
theorem aot(h:af (Gu A j k L C E F G H au K d e a l m M b c [.b (a==2) false,.b (a==3) true,.a (.iu (Nn A M b c L C E F G H au K a f g i)),.p (eA prog (cV f277 10) (Xf A M b c L C E F G H au K d e a) (Nn A M b c L C E F G H au K a f g i))])):
 cc 277 [aN.cur [D.J 1 A,I l,I m] [D.J 1 A,I f,I g],aN.ro (.agg (bt M b c))] (aV.vals [.agg (bj L C E F (G.set 0 [I i]) H au K)]):=
 h.cd
def No(M A:ah)(b c:Int)(F G H au K L C E:ah)(d e a:Int):aF:=bf 80 [(0,aT 1000000000),(1,aJ.aI (bC.agg [.J .free 4 A,ay b,ay c])),(3,aT 3),(4,aT 4),(5,aT 5),(6,aT 1000000000),(7,aJ.aI (bC.agg [.J .free 4 A,ay b,ay c])),(8,aJ.aI (bC.agg [aD 90000 5 F,aD 90001 5 G,aD 90002 5 H,aD 90003 4 au,aD 90004 1 K,aD 90005 1 L,aD 90006 1 C,aD 90007 2 E])),(9,aT 1000000000),(10,a1 a),(11,.aI (.one (.bc (a==0)))),(12,.aI (.one (.bc (a==0)))),(20,.aI (.one (.bc (a==1)))),(21,.aI (.one (.bc (a==1)))),(29,.aI (.one (.bc (a==2)))),(30,.aI (.one (.bc (a==2)))),(37,.aI (.one (.bc (a==3)))),(38,.aI (.one (.bc (a==3)))),(45,.aI (.one (.bc (a==4)))),(46,.aI (.one (.bc (a==4))))] [(5,[aD 90000 5 F,aD 90001 5 G,aD 90002 5 H,aD 90003 4 au,aD 90004 1 K,aD 90005 1 L,aD 90006 1 C,aD 90007 2 E]),(4,[.v (aO),.v (aO),.v (aO),.v (aO),.v (aO),.v (aO),.v (aO),.v (aO)]),(3,[.J .free 4 A,ay b,ay c]),(1000000000,[.dx 1000000100 1 M,ay d,ay e])]
def Np(P:Program)(W:Array Oper)(A L:ah)(g i:Int)(M C E F G H au K:ah)(a b c d e f:Int):aF:=
 mS P W [[],[],[],[.dm [some [D.J 1 A,I d,I e],none] (aV.vals [ao f])],[],[],[],[],[],[]] (No A L g i M C E F G H au K a b c)
theorem aou{A L:ah}{g i:Int}{M E F G H au K C:ah}{b c d e f a:Int}
  (h:cO [bZ prog 138 [aN.cur [D.J 1 A,I b,I c] [D.J 1 A,I e,I f],aN.ro (ao 6)] (aV.vals [ao a]),aG .i64 (a-1),(C.length+[[I (a-1),B false]].length)*16<=140737488355328,C.length+[[I (a-1),B false]].length<=9223372036854775807,Flat [[I (a-1),B false]]]):
  eA prog (cV f277 12) (No A L g i M E F G H au K C b c d) (Np prog (cV f277 12) A L g i M E F G H au K C b c d e f a):=
 .nK [0,0,0,1,1,0,0,3,0,0] h
theorem aov(h:af (Gu A j k L C E F G H au K b c a l m M d e [.b (a==2) false,.b (a==3) false,.b (a==4) true,.a (.iu (Np prog (cV f277 12) A M d e L C E F G H au K b c a f g i)),.p (eA prog (cV f277 12) (No A M d e L C E F G H au K b c a) (Np prog (cV f277 12) A M d e L C E F G H au K b c a f g i))])):
 cc 277 [aN.cur [D.J 1 A,I l,I m] [D.J 1 A,I f,I g],aN.ro (.agg (bt M d e))] (aV.vals [.agg (bj L C E F G H au (K++[[I (i-1),B false]]))]):=
 h.cd
def Gv(A:ah)(a b:Int)(C E F G H au K L:ah)(c d e f g:Int)(M:ah)(i j:Int)(l:List O):List O:=Gu A a b C E F G H au K L c d e f g M i j (.b (e==2) false::.b (e==3) false::.b (e==4) false::l)
theorem aow(h:af (Gv A g i K C E F G H au L b c a j k M l m [.b (a==5) true,.w A d e f,.k A 138 b c d e 2 f])):
 cc 277 [aN.cur [D.J 1 A,I j,I k] [D.J 1 A,I d,I e],aN.ro (.agg (bt M l m))] (aV.vals [.agg [D.J 5 K,D.J 5 C,D.J 5 E,D.J 4 F,D.J 1 G,D.J 1 H,D.J 1 au,D.J 2 [[I 1,B false],[I f,B true]]]]):=
 h.cd
theorem anX(h:af (Gv A d e L E F G H C au K b c a f g M i j [.b (a==5) false,.b (a==6) true,.g C [[B true]] 1,.h [[B true]]])):
 cc 277 [aN.cur [D.J 1 A,I f,I g] [D.J 1 A,I b,I c],aN.ro (.agg (bt M i j))] (aV.vals [.agg (bj L E F G H (C++[[B true]]) au K)]):=
 h.cd
theorem anY(h:af (Gv A d e L E F C G H au K b c a f g M i j [.b (a==5) false,.b (a==6) false,.b (a==7) true,.g C [[I 0,I 0,I 0,I 0]] 32,.h [[I 0,I 0,I 0,I 0]]])):
 cc 277 [aN.cur [D.J 1 A,I f,I g] [D.J 1 A,I b,I c],aN.ro (.agg (bt M i j))] (aV.vals [.agg (bj L E F (C++[[I 0,I 0,I 0,I 0]]) G H au K)]):=
 h.cd
theorem anZ(h:af (Gv A d e L C E F G H au K b c a f g M i j [.b (a==5) false,.b (a==6) false,.b (a==7) false])):
 cc 277 [aN.cur [D.J 1 A,I f,I g] [D.J 1 A,I b,I c],aN.ro (.agg (bt M i j))] (aV.vals [.agg (bj L C E F G H au K)]):=
 h.cd
def Fu(H au:ah)(c d e f:Int)(K G:ah)(a b:Int)(A C E F:ah)(q:Bool):aF:=bf 30 [(0,aT 1000000000),(2,aT 2),(3,aT 3),(4,.aI (.one (.bc q))),(5,aJ.ga [bC.agg [aD 110000 4 G,ay a,ay b,aD 110003 8 A,aD 110004 6 C,aD 110005 5 E,aD 110006 3 F],bC.one (aH.bc q)]),(6,aT 1000000000),(7,aJ.aI (bC.agg [aD 80000 4 au,ay c,ay d])),(8,aT 1000000000),(9,aJ.aI (bC.one (aD 100000 5 K))),(10,aJ.ga [bC.agg [aD 110000 4 G,ay a,ay b,aD 110003 8 A,aD 110004 6 C,aD 110005 5 E,aD 110006 3 F],bC.one (aH.bc q)]),(11,aJ.aI (bC.agg [aD 110000 4 G,ay a,ay b,aD 110003 8 A,aD 110004 6 C,aD 110005 5 E,aD 110006 3 F])),(12,.aI (.one (.bc q)))] [(3,[aD 110000 4 G,ay a,ay b,aD 110003 8 A,aD 110004 6 C,aD 110005 5 E,aD 110006 3 F]),(2,[.v (aO),ay 0,ay 0,.v (aO),.v (aO),.v (aO),.v (aO)]),(1000000000,[.dx 1000000100 1 H,ay e,ay f])]
def BO(P:Program)(W:Array Oper)(A bz:ah)(j k a b:Int)(C E:ah)(c d:Int)(F G H au:ah)(q:Bool)(e f:Int)(K L:ah)(g i:Int)(M N Q R S:ah):aF:=
 mS P W [[],[],[.dm [some [D.J 1 A,I e,I f],none] (aV.vals [aM 3 K])],[.res [.agg (cl L g i M N Q R),aM 1 S]],[],[],[],[]] (Fu A bz j k a b C E c d F G H au q)
theorem Xg{A bz:ah}{j k a b:Int}{K C:ah}{c d:Int}{E F G H:ah}{q:Bool}{e f:Int}{au L:ah}{g i:Int}{M N Q R S:ah}
  (h:cO [bZ prog 120 [aN.cur [D.J 1 A,I a,I b] [D.J 1 A,I e,I f],aN.ro (ao 40)] (aV.vals [aM 3 au]),aw 15 [.agg (cl C c d E F G H),aM 3 au] [.agg (cl L g i M N Q R),aM 1 S]]):
  eA prog (cV f166 2) (Fu A bz j k a b K C c d E F G H q) (BO prog (cV f166 2) A bz j k a b K C c d E F G H q e f au L g i M N Q R S):=
 .nK [0,0,1,1,0,0,0,0] h
def Nq(Q R:ah)(e i:Int)(bz K:ah)(c d:Int)(L M A C:ah)(q:Bool)(S E:ah)(a b:Int)(F G H au N:ah)(f g:Int)(r:Bool):aF:=bf 30 [(0,aT 1000000000),(2,aT 2),(3,aT 3),(4,.aI (.one (.bc q))),(5,aJ.ga [bC.agg [aD 110000 4 K,ay c,ay d,aD 110003 8 L,aD 110004 6 M,aD 110005 5 A,aD 110006 3 C],bC.one (aH.bc q)]),(6,aT 1000000000),(7,aJ.aI (bC.agg [aD 80000 4 R,ay e,ay i])),(8,aT 1000000000),(9,aJ.aI (bC.one (aD 100000 5 bz))),(10,aJ.ga [bC.agg [aD 110000 4 K,ay c,ay d,aD 110003 8 L,aD 110004 6 M,aD 110005 5 A,aD 110006 3 C],bC.one (aH.bc q)]),(11,aJ.aI (bC.agg [aD 110000 4 K,ay c,ay d,aD 110003 8 L,aD 110004 6 M,aD 110005 5 A,aD 110006 3 C])),(12,.aI (.one (.bc q))),(13,aJ.ga [bC.agg [aD 180000 4 E,ay a,ay b,aD 180003 8 F,aD 180004 6 G,aD 180005 5 H,aD 180006 3 au],bC.one (aD 180100 1 N)]),(14,aJ.aI (bC.agg [aD 110000 4 K,ay c,ay d,aD 110003 8 L,aD 110004 6 M,aD 110005 5 A,aD 110006 3 C])),(15,aT 1000000000),(16,aJ.aI (bC.one (aD 170000 3 S))),(17,aJ.ga [bC.agg [aD 180000 4 E,ay a,ay b,aD 180003 8 F,aD 180004 6 G,aD 180005 5 H,aD 180006 3 au],bC.one (aD 180100 1 N)]),(18,aJ.aI (bC.agg [aD 180000 4 E,ay a,ay b,aD 180003 8 F,aD 180004 6 G,aD 180005 5 H,aD 180006 3 au])),(19,aJ.aI (bC.one (aD 180100 1 N))),(20,aT 1000000000),(21,.aI (.one (.bc r)))] [(3,[aD 180000 4 E,ay a,ay b,aD 180003 8 F,aD 180004 6 G,aD 180005 5 H,aD 180006 3 au]),(2,[.v (aO),ay 0,ay 0,.v (aO),.v (aO),.v (aO),.v (aO)]),(1000000000,[.dx 1000000100 1 Q,ay f,ay g])]
def Nr(P:Program)(W:Array Oper)(A fw:ah)(n o:Int)(C E:ah)(a b:Int)(F G H au:ah)(q:Bool)(K L:ah)(c d:Int)(M N Q R S:ah)(e f:Int)(r:Bool)(g i j:Int)(bz:ah)(k l:Int)(V X Y Z:ah)(m:Int):aF:=
 mS P W [[],[],[.dm [some [D.J 1 A,I g,I i],none] (aV.vals [ao j])],[.res [.agg (cl bz k l V X Y Z),ao m]],[],[],[],[]] (Nq A fw n o C E a b F G H au q K L c d M N Q R S e f r)
theorem an0{A fw:ah}{n o:Int}{au K:ah}{f g:Int}{L M N Q:ah}{q:Bool}{R C:ah}{a b:Int}{E F G H S:ah}{c d:Int}{r:Bool}{i j e:Int}{bz:ah}{k l:Int}{V X Y Z:ah}{m:Int}
  (h:cO [bZ prog 138 [aN.cur [D.J 1 A,I c,I d] [D.J 1 A,I i,I j],aN.ro (ao 12)] (aV.vals [ao e]),aw 16 [.agg (cl C a b E F G H),ao e] [.agg (cl bz k l V X Y Z),ao m]]):
  eA prog (cV f166 4) (Nq A fw n o au K f g L M N Q q R C a b E F G H S c d r) (Nr prog (cV f166 4) A fw n o au K f g L M N Q q R C a b E F G H S c d r i j e bz k l V X Y Z m):=
 .nK [0,0,1,1,0,0,0,0] h
def Yb(A:ah)(a b:Int)(C:ah)(c d e f:Int)(E:ah)(g i:Int)(F:ah)(j k:Int)(G H au K:ah)(q:Bool)(l:List O):List O:=.a (.dm [some [D.J 1 A,I a,I b]] (aV.vals [.agg (bt C c d)]))::.a (.dm [some [D.J 1 A,I e,I f]] (aV.vals [aM 5 E]))::.p (bZ prog 118 [aN.cur [D.J 1 A,I g,I i] [D.J 1 A,I a,I b]] (aV.vals [.agg (bt C c d)]))::.p (bZ prog 119 [aN.cur [D.J 1 A,I a,I b] [D.J 1 A,I e,I f]] (aV.vals [aM 5 E]))::.r 14 [.agg (bt C c d),aM 5 E] [.agg (cl F j k G H au K),al q]::l
theorem an1(h:af (Yb A p de E a b e f C d0 bM F c d G H au K q [.a (.iu (BO prog (cV f166 2) A E a b e f C F c d G H au K q l m L M g i N Q R S bz)),.y A j k r,.p (eA prog (cV f166 2) (Fu A E a b e f C F c d G H au K q) (BO prog (cV f166 2) A E a b e f C F c d G H au K q l m L M g i N Q R S bz)),.m A 136 l m j k 4 r,.b r true,.a (.iu (Nr prog (cV f166 4) A E a b C F c d G H au K q L M g i N Q R S bz j k r n o f0 V a0 b9 X Y Z fw g0)),.p (eA prog (cV f166 4) (Nq A E a b C F c d G H au K q L M g i N Q R S bz j k r) (Nr prog (cV f166 4) A E a b C F c d G H au K q L M g i N Q R S bz j k r n o f0 V a0 b9 X Y Z fw g0))])):
 cc 166 [aN.cur [D.J 1 A,I d0,I bM] [D.J 1 A,I n,I o]] (aV.vals [.agg (cl V a0 b9 X Y Z fw)]):=
 h.cd
theorem an2(h:af (Yb A n o E a b c d C p a0 F e f G H au K q [.a (.iu (BO prog (cV f166 2) A E a b c d C F e f G H au K q g i S L j k M N Q R bz)),.y A l m r,.p (eA prog (cV f166 2) (Fu A E a b c d C F e f G H au K q) (BO prog (cV f166 2) A E a b c d C F e f G H au K q g i S L j k M N Q R bz)),.m A 136 g i l m 4 r,.b r false])):
 cc 166 [aN.cur [D.J 1 A,I p,I a0] [D.J 1 A,I l,I m]] (aV.vals [.agg (cl L j k M N Q R)]):=
 h.cd
def Xh(H C:ah)(b c:Int)(A E F G:ah)(d f e a:Int):aF:=bf 82 [(0,aT 1000000000),(2,aT 2),(3,aT 3),(4,a1 d),(5,aT 1000000000),(6,aJ.aI (bC.agg [aD 70000 4 C,ay b,ay c,aD 70003 8 A,aD 70004 6 E,aD 70005 5 F,aD 70006 3 G])),(7,aT 1000000000),(8,.aI (.one (.ptr 3 3))),(9,aJ.aI (bC.one (aD 70003 8 A))),(10,a1 (A.length:Int)),(11,a1 d),(12,aT 1000000000),(13,a1 a),(14,.aI (.one (.bc (a==0)))),(15,.aI (.one (.bc (a==0))))] [(3,[aD 70000 4 C,ay b,ay c,aD 70003 8 A,aD 70004 6 E,aD 70005 5 F,aD 70006 3 G]),(2,[.v (aO),ay 0,ay 0,.v (aO),.v (aO),.v (aO),.v (aO)]),(1000000000,[.dx 1000000100 1 H,ay f,ay e])]
def Ns(S M:ah)(b c:Int)(A N Q R:ah)(a d e f:Int)(C E F G H au K L:ah):aF:=bf 82 [(0,aT 1000000000),(2,aT 2),(3,aT 3),(4,a1 a),(5,aT 1000000000),(6,aJ.aI (bC.agg [aD 70000 4 M,ay b,ay c,aD 70003 8 (A.set a.toNat (bj C E F G H au K L)),aD 70004 6 N,aD 70005 5 Q,aD 70006 3 R])),(7,aT 1000000000),(8,.aI (.one (.ptr 3 3))),(9,aJ.aI (bC.one (aD 70003 8 (A.set a.toNat (bj C E F G H au K L))))),(10,a1 (A.length:Int)),(11,a1 a),(12,aT 1000000000),(13,a1 d),(14,.aI (.one (.bc (d==0)))),(15,.aI (.one (.bc (d==0)))),(16,.aI (.one (.ptr 3 3))),(17,aJ.aI (bC.one (aD 70003 8 (A.set a.toNat (bj C E F G H au K L))))),(18,a1 a),(19,aT 1000000000),(20,aT 3),(21,aJ.aI (bC.agg [aD 70000 4 M,ay b,ay c])),(22,aJ.aI (bC.agg [.cq,.cq,.cq,.cq,.cq,.cq,.cq,.cq])),(23,.aI (.one (.ep (Tag.own 70003) 8 (A.set a.toNat (bj C E F G H au K L)) a.toNat 0)))] [(3,[aD 70000 4 M,ay b,ay c,aD 70003 8 (A.set a.toNat (bj C E F G H au K L)),aD 70004 6 N,aD 70005 5 Q,aD 70006 3 R]),(2,[.v (aO),ay 0,ay 0,.v (aO),.v (aO),.v (aO),.v (aO)]),(1000000000,[.dx 1000000100 1 S,ay e,ay f])]
theorem an3{A N:ah}{d e:Int}{C Q R S:ah}{a f g i b c:Int}{E F G H au K L M:ah}{d32 d33 d34 d35 d36 d37 d38 d39:D}
  (h:cO [bZ prog 277 [aN.cur [D.J 1 A,I f,I g] [D.J 1 A,I b,I c],aN.ro (.agg (bt N d e))] (aV.vals [.agg (bj E F G H au K L M)]),0<=a,a<(C.length:Int),C[a.toNat]?=some [d32,d33,d34,d35,d36,d37,d38,d39]]):
  eA prog (cV f185 5) (Xh A N d e C Q R S a f g i) (Ns A N d e C Q R S a i b c E F G H au K L M):=
 .of [[],[],[],[],[],[],[.dm [some [D.J 1 A,I b,I c],none] (aV.vals [.agg (bj E F G H au K L M)])],[],[.el [d32,d33,d34,d35,d36,d37,d38,d39]]] [[],[],[],[],[],[],[bZ prog 277 [aN.cur [D.J 1 A,I f,I g] [D.J 1 A,I b,I c],aN.ro (.agg (bt N d e))] (aV.vals [.agg (bj E F G H au K L M)])],[0<=a,a<(C.length:Int)],[C[a.toNat]?=some [d32,d33,d34,d35,d36,d37,d38,d39]]] (by kernel_rfl) (by kernel_rfl) (by kernel_rfl) h
def Oa(A:ah)(a b:Int)(C:ah)(c d:Int)(E F G H:ah)(e f g i j k m n:Int)(l:List O):List O:=.a (.dm [some [D.J 1 A,I a,I b]] (aV.vals [.agg (cl C c d E F G H)]))::.w A e f g::.w A i j k::.p (bZ prog 166 [aN.cur [D.J 1 A,I m,I n] [D.J 1 A,I a,I b]] (aV.vals [.agg (cl C c d E F G H)]))::.k A 138 a b e f (E.length:Int) g::.k A 138 e f i j 20 k::l
theorem an4(h:af (Oa A l m H c d C E F G e f a g i b n o [.b (b==0) true,.a (.iu (Ns A H c d C E F G a b j k au K L M N Q R S)),.p (eA prog (cV f185 5) (Xh A H c d C E F G a g i b) (Ns A H c d C E F G a b j k au K L M N Q R S))])):
 cc 185 [aN.cur [D.J 1 A,I n,I o] [D.J 1 A,I j,I k]] (aV.vals [.agg (cl H c d (C.set a.toNat (bj au K L M N Q R S)) E F G)]):=
 h.cd
def Xi(H C:ah)(b c:Int)(A E F G:ah)(d f e a:Int):aF:=bf 82 [(0,aT 1000000000),(2,aT 2),(3,aT 3),(4,a1 d),(5,aT 1000000000),(6,aJ.aI (bC.agg [aD 70000 4 C,ay b,ay c,aD 70003 8 A,aD 70004 6 E,aD 70005 5 F,aD 70006 3 G])),(7,aT 1000000000),(8,.aI (.one (.ptr 3 3))),(9,aJ.aI (bC.one (aD 70003 8 A))),(10,a1 (A.length:Int)),(11,a1 d),(12,aT 1000000000),(13,a1 a),(14,.aI (.one (.bc (a==0)))),(15,.aI (.one (.bc (a==0)))),(24,.aI (.one (.bc (a==1)))),(25,.aI (.one (.bc (a==1))))] [(3,[aD 70000 4 C,ay b,ay c,aD 70003 8 A,aD 70004 6 E,aD 70005 5 F,aD 70006 3 G]),(2,[.v (aO),ay 0,ay 0,.v (aO),.v (aO),.v (aO),.v (aO)]),(1000000000,[.dx 1000000100 1 H,ay f,ay e])]
def Nt(au F:ah)(i j:Int)(E A G H:ah)(k g a l m b:Int)(C:ah)(c d e f:Int):aF:=bf 82 [(0,aT 1000000000),(2,aT 2),(3,aT 3),(4,a1 k),(5,aT 1000000000),(6,aJ.aI (bC.agg [aD 70000 4 F,ay i,ay j,aD 70003 8 E,aD 70004 6 (A.set a.toNat (b5 b C c d e f)),aD 70005 5 G,aD 70006 3 H])),(7,aT 1000000000),(8,.aI (.one (.ptr 3 3))),(9,aJ.aI (bC.one (aD 70003 8 E))),(10,a1 (E.length:Int)),(11,a1 k),(12,aT 1000000000),(13,a1 g),(14,.aI (.one (.bc (g==0)))),(15,.aI (.one (.bc (g==0)))),(24,.aI (.one (.bc (g==1)))),(25,.aI (.one (.bc (g==1)))),(26,.aI (.one (.ptr 3 4))),(27,aJ.aI (bC.one (aD 70004 6 (A.set a.toNat (b5 b C c d e f))))),(28,aT 1000000000),(29,.aI (.one (.ptr 3 4))),(30,aJ.aI (bC.one (aD 70004 6 (A.set a.toNat (b5 b C c d e f))))),(31,a1 (A.length:Int)),(32,a1 a),(33,aT 1000000000),(34,aJ.aI (bC.agg [ay b,.cq,ay c,ay d,ay e,ay f])),(35,.aI (.one (.ep (Tag.own 70004) 6 (A.set a.toNat (b5 b C c d e f)) a.toNat 0)))] [(3,[aD 70000 4 F,ay i,ay j,aD 70003 8 E,aD 70004 6 (A.set a.toNat (b5 b C c d e f)),aD 70005 5 G,aD 70006 3 H]),(2,[.v (aO),ay 0,ay 0,.v (aO),.v (aO),.v (aO),.v (aO)]),(1000000000,[.dx 1000000100 1 au,ay l,ay m])]
theorem an5{A H:ah}{p a0:Int}{au C F G:ah}{n l m o b c a d e f:Int}{E:ah}{g i j k:Int}{d34 d35 d36 d37 d38 d39:D}
  (h:cO [bZ prog 138 [aN.cur [D.J 1 A,I l,I m] [D.J 1 A,I b,I c],aN.ro (ao (C.length:Int))] (aV.vals [ao a]),bZ prog 278 [aN.cur [D.J 1 A,I b,I c] [D.J 1 A,I d,I e]] (aV.vals [.agg (b5 f E g i j k)]),0<=a,a<(C.length:Int),C[a.toNat]?=some [d34,d35,d36,d37,d38,d39]]):
  eA prog (cV f185 7) (Xi A H p a0 au C F G n l m o) (Nt A H p a0 au C F G n o a d e f E g i j k):=
 .of [[],[],[],[],[],[],[.dm [some [D.J 1 A,I b,I c],none] (aV.vals [ao a])],[],[.dm [some [D.J 1 A,I d,I e]] (aV.vals [.agg (b5 f E g i j k)])],[],[.el [d34,d35,d36,d37,d38,d39]]] [[],[],[],[],[],[],[bZ prog 138 [aN.cur [D.J 1 A,I l,I m] [D.J 1 A,I b,I c],aN.ro (ao (C.length:Int))] (aV.vals [ao a])],[],[bZ prog 278 [aN.cur [D.J 1 A,I b,I c] [D.J 1 A,I d,I e]] (aV.vals [.agg (b5 f E g i j k)])],[0<=a,a<(C.length:Int)],[C[a.toNat]?=some [d34,d35,d36,d37,d38,d39]]] (by kernel_rfl) (by kernel_rfl) (by kernel_rfl) h
theorem an6(h:af (Oa A b9 de H b c C E F G e f d g i a d0 bM [.b (a==0) false,.b (a==1) true,.a (.iu (Nt A H b c C E F G d a j k l m au n o p a0)),.p (eA prog (cV f185 7) (Xi A H b c C E F G d g i a) (Nt A H b c C E F G d a j k l m au n o p a0))])):
 cc 185 [aN.cur [D.J 1 A,I d0,I bM] [D.J 1 A,I k,I l]] (aV.vals [.agg (cl H b c C (E.set j.toNat (b5 m au n o p a0)) F G)]):=
 h.cd
def Xj(H C:ah)(b c:Int)(A E F G:ah)(d f e a:Int):aF:=bf 82 [(0,aT 1000000000),(2,aT 2),(3,aT 3),(4,a1 d),(5,aT 1000000000),(6,aJ.aI (bC.agg [aD 70000 4 C,ay b,ay c,aD 70003 8 A,aD 70004 6 E,aD 70005 5 F,aD 70006 3 G])),(7,aT 1000000000),(8,.aI (.one (.ptr 3 3))),(9,aJ.aI (bC.one (aD 70003 8 A))),(10,a1 (A.length:Int)),(11,a1 d),(12,aT 1000000000),(13,a1 a),(14,.aI (.one (.bc (a==0)))),(15,.aI (.one (.bc (a==0)))),(24,.aI (.one (.bc (a==1)))),(25,.aI (.one (.bc (a==1)))),(36,.aI (.one (.bc (a==2)))),(37,.aI (.one (.bc (a==2))))] [(3,[aD 70000 4 C,ay b,ay c,aD 70003 8 A,aD 70004 6 E,aD 70005 5 F,aD 70006 3 G]),(2,[.v (aO),ay 0,ay 0,.v (aO),.v (aO),.v (aO),.v (aO)]),(1000000000,[.dx 1000000100 1 H,ay f,ay e])]
def Nu(H E:ah)(d e:Int)(C F A G:ah)(f c a g i b:Int)(d14 d15 d16 d17:D):aF:=bf 82 [(0,aT 1000000000),(2,aT 2),(3,aT 3),(4,a1 f),(5,aT 1000000000),(6,aJ.aI (bC.agg [aD 70000 4 E,ay d,ay e,aD 70003 8 C,aD 70004 6 F,aD 70005 5 (A.set a.toNat [d14,I (b-1),d15,d16,d17]),aD 70006 3 G])),(7,aT 1000000000),(8,.aI (.one (.ptr 3 3))),(9,aJ.aI (bC.one (aD 70003 8 C))),(10,a1 (C.length:Int)),(11,a1 f),(12,aT 1000000000),(13,a1 c),(14,.aI (.one (.bc (c==0)))),(15,.aI (.one (.bc (c==0)))),(24,.aI (.one (.bc (c==1)))),(25,.aI (.one (.bc (c==1)))),(36,.aI (.one (.bc (c==2)))),(37,.aI (.one (.bc (c==2)))),(38,.aI (.one (.ptr 3 5))),(39,aJ.aI (bC.one (aD 70005 5 (A.set a.toNat [d14,I (b-1),d15,d16,d17])))),(40,aT 1000000000),(41,a1 a),(42,aT 1000000000),(43,a1 b),(44,a1 (b-1)),(45,.aI (.one (.ep (Tag.own 70005) 5 (A.set a.toNat [d14,I (b-1),d15,d16,d17]) a.toNat 0))),(46,.aI (.one (.ep (Tag.own 70005) 5 (A.set a.toNat [d14,I (b-1),d15,d16,d17]) a.toNat 1)))] [(3,[aD 70000 4 E,ay d,ay e,aD 70003 8 C,aD 70004 6 F,aD 70005 5 (A.set a.toNat [d14,I (b-1),d15,d16,d17]),aD 70006 3 G]),(2,[.v (aO),ay 0,ay 0,.v (aO),.v (aO),.v (aO),.v (aO)]),(1000000000,[.dx 1000000100 1 H,ay g,ay i])]
theorem apy{A G:ah}{l m:Int}{H E C F:ah}{j g i k c d a e f b:Int}{d29 d30 d31 d32 d33:D}
  (h:cO [bZ prog 138 [aN.cur [D.J 1 A,I g,I i] [D.J 1 A,I c,I d],aN.ro (ao 4)] (aV.vals [ao a]),bZ prog 138 [aN.cur [D.J 1 A,I c,I d] [D.J 1 A,I e,I f],aN.ro (ao 6)] (aV.vals [ao b]),aG .i64 (b-1),0<=a,a<(C.length:Int),C[a.toNat]?=some [d29,d30,d31,d32,d33]]):
  eA prog (cV f185 9) (Xj A G l m H E C F j g i k) (Nu A G l m H E C F j k a e f b d29 d31 d32 d33):=
 .of [[],[],[],[.dm [some [D.J 1 A,I c,I d],none] (aV.vals [ao a])],[],[.dm [some [D.J 1 A,I e,I f],none] (aV.vals [ao b])],[],[],[],[.el [d29,d30,d31,d32,d33]]] [[],[],[],[bZ prog 138 [aN.cur [D.J 1 A,I g,I i] [D.J 1 A,I c,I d],aN.ro (ao 4)] (aV.vals [ao a])],[],[bZ prog 138 [aN.cur [D.J 1 A,I c,I d] [D.J 1 A,I e,I f],aN.ro (ao 6)] (aV.vals [ao b])],[aG .i64 (b-1)],[0<=a,a<(C.length:Int)],[],[C[a.toNat]?=some [d29,d30,d31,d32,d33]]] (by kernel_rfl) (by kernel_rfl) (by kernel_rfl) h
def zI(A:ah)(a b:Int)(C:ah)(c d:Int)(E F G H:ah)(e f g i j k m n:Int)(l:List O):List O:=Oa A a b C c d E F G H e f g i j k m n (.b (k==0) false::.b (k==1) false::l)
theorem apz{A:ah}{p a0 n o:Int}{H:ah}{b c:Int}{C E F G:ah}{e f d g i a j k l m:Int}{d29 d31 d32 d33:D}(h:af (zI A n o H b c C E F G e f d g i a p a0 [.b (a==2) true,.a (.iu (Nu A H b c C E F G d a j k l m d29 d31 d32 d33)),.p (eA prog (cV f185 9) (Xj A H b c C E F G d g i a) (Nu A H b c C E F G d a j k l m d29 d31 d32 d33))])):
 cc 185 [aN.cur [D.J 1 A,I p,I a0] [D.J 1 A,I k,I l]] (aV.vals [.agg (cl H b c C E (F.set j.toNat [d29,I (m-1),d31,d32,d33]) G)]):=
 h.cd
def Xk(H C:ah)(b c:Int)(A E F G:ah)(d f e a:Int):aF:=bf 82 [(0,aT 1000000000),(2,aT 2),(3,aT 3),(4,a1 d),(5,aT 1000000000),(6,aJ.aI (bC.agg [aD 70000 4 C,ay b,ay c,aD 70003 8 A,aD 70004 6 E,aD 70005 5 F,aD 70006 3 G])),(7,aT 1000000000),(8,.aI (.one (.ptr 3 3))),(9,aJ.aI (bC.one (aD 70003 8 A))),(10,a1 (A.length:Int)),(11,a1 d),(12,aT 1000000000),(13,a1 a),(14,.aI (.one (.bc (a==0)))),(15,.aI (.one (.bc (a==0)))),(24,.aI (.one (.bc (a==1)))),(25,.aI (.one (.bc (a==1)))),(36,.aI (.one (.bc (a==2)))),(37,.aI (.one (.bc (a==2)))),(47,.aI (.one (.bc (a==3)))),(48,.aI (.one (.bc (a==3))))] [(3,[aD 70000 4 C,ay b,ay c,aD 70003 8 A,aD 70004 6 E,aD 70005 5 F,aD 70006 3 G]),(2,[.v (aO),ay 0,ay 0,.v (aO),.v (aO),.v (aO),.v (aO)]),(1000000000,[.dx 1000000100 1 H,ay f,ay e])]
def Nv(H E:ah)(c d:Int)(C F A G:ah)(e a f g b:Int)(d13 d14 d15 d16:D):aF:=bf 82 [(0,aT 1000000000),(2,aT 2),(3,aT 3),(4,a1 e),(5,aT 1000000000),(6,aJ.aI (bC.agg [aD 70000 4 E,ay c,ay d,aD 70003 8 C,aD 70004 6 F,aD 70005 5 (A.set 0 [d13,d14,I b,d15,d16]),aD 70006 3 G])),(7,aT 1000000000),(8,.aI (.one (.ptr 3 3))),(9,aJ.aI (bC.one (aD 70003 8 C))),(10,a1 (C.length:Int)),(11,a1 e),(12,aT 1000000000),(13,a1 a),(14,.aI (.one (.bc (a==0)))),(15,.aI (.one (.bc (a==0)))),(24,.aI (.one (.bc (a==1)))),(25,.aI (.one (.bc (a==1)))),(36,.aI (.one (.bc (a==2)))),(37,.aI (.one (.bc (a==2)))),(47,.aI (.one (.bc (a==3)))),(48,.aI (.one (.bc (a==3)))),(49,.aI (.one (.ptr 3 5))),(50,aJ.aI (bC.one (aD 70005 5 (A.set 0 [d13,d14,I b,d15,d16])))),(51,aT 1000000000),(52,.aI (.one (.J (.own 52) 1 [[I 1000000],[I 1000001],[I (-1000001)],[I 3]]))),(53,a1 b),(54,.aI (.one (.ep (Tag.own 70005) 5 (A.set 0 [d13,d14,I b,d15,d16]) 0 0))),(55,.aI (.one (.ep (Tag.own 70005) 5 (A.set 0 [d13,d14,I b,d15,d16]) 0 2)))] [(3,[aD 70000 4 E,ay c,ay d,aD 70003 8 C,aD 70004 6 F,aD 70005 5 (A.set 0 [d13,d14,I b,d15,d16]),aD 70006 3 G]),(2,[.v (aO),ay 0,ay 0,.v (aO),.v (aO),.v (aO),.v (aO)]),(1000000000,[.dx 1000000100 1 H,ay f,ay g])]
theorem apA{A G:ah}{i j:Int}{H E C F:ah}{f d e g a b c:Int}{d25 d26 d27 d28 d29:D}
  (h:cO [bZ prog 140 [aN.cur [D.J 1 A,I d,I e] [D.J 1 A,I a,I b],aN.ro (.one (.J 1 [[I 1000000],[I 1000001],[I (-1000001)],[I 3]]))] (aV.vals [ao c]),(0:Int)<=0,0<(C.length:Int),C[0]?=some [d25,d26,d27,d28,d29]]):
  eA prog (cV f185 11) (Xk A G i j H E C F f d e g) (Nv A G i j H E C F f g a b c d25 d26 d28 d29):=
 .of [[],[],[],[],[.dm [some [D.J 1 A,I a,I b],none] (aV.vals [ao c])],[],[],[.el [d25,d26,d27,d28,d29]]] [[],[],[],[],[bZ prog 140 [aN.cur [D.J 1 A,I d,I e] [D.J 1 A,I a,I b],aN.ro (.one (.J 1 [[I 1000000],[I 1000001],[I (-1000001)],[I 3]]))] (aV.vals [ao c])],[(0:Int)<=0,0<(C.length:Int)],[],[C[0]?=some [d25,d26,d27,d28,d29]]] (by kernel_rfl) (by kernel_rfl) (by kernel_rfl) h
theorem apB{A:ah}{o p m n:Int}{H:ah}{b c:Int}{C E F G:ah}{e f d g i a j k l:Int}{d25 d26 d28 d29:D}(h:af (zI A m n H b c C E F G e f d g i a o p [.b (a==2) false,.b (a==3) true,.a (.iu (Nv A H b c C E F G d a j k l d25 d26 d28 d29)),.p (eA prog (cV f185 11) (Xk A H b c C E F G d g i a) (Nv A H b c C E F G d a j k l d25 d26 d28 d29))])):
 cc 185 [aN.cur [D.J 1 A,I o,I p] [D.J 1 A,I j,I k]] (aV.vals [.agg (cl H b c C E (F.set 0 [d25,d26,I l,d28,d29]) G)]):=
 h.cd
def Xl(H C:ah)(b c:Int)(A E F G:ah)(d f e a:Int):aF:=bf 82 [(0,aT 1000000000),(2,aT 2),(3,aT 3),(4,a1 d),(5,aT 1000000000),(6,aJ.aI (bC.agg [aD 70000 4 C,ay b,ay c,aD 70003 8 A,aD 70004 6 E,aD 70005 5 F,aD 70006 3 G])),(7,aT 1000000000),(8,.aI (.one (.ptr 3 3))),(9,aJ.aI (bC.one (aD 70003 8 A))),(10,a1 (A.length:Int)),(11,a1 d),(12,aT 1000000000),(13,a1 a),(14,.aI (.one (.bc (a==0)))),(15,.aI (.one (.bc (a==0)))),(24,.aI (.one (.bc (a==1)))),(25,.aI (.one (.bc (a==1)))),(36,.aI (.one (.bc (a==2)))),(37,.aI (.one (.bc (a==2)))),(47,.aI (.one (.bc (a==3)))),(48,.aI (.one (.bc (a==3)))),(56,.aI (.one (.bc (a==4)))),(57,.aI (.one (.bc (a==4))))] [(3,[aD 70000 4 C,ay b,ay c,aD 70003 8 A,aD 70004 6 E,aD 70005 5 F,aD 70006 3 G]),(2,[.v (aO),ay 0,ay 0,.v (aO),.v (aO),.v (aO),.v (aO)]),(1000000000,[.dx 1000000100 1 H,ay f,ay e])]
def Nw(H E:ah)(d e:Int)(A F G C:ah)(f a b g i c:Int):aF:=bf 82 [(0,aT 1000000000),(2,aT 2),(3,aT 3),(4,a1 f),(5,aT 1000000000),(6,aJ.aI (bC.agg [aD 70000 4 E,ay d,ay e,aD 70003 8 A,aD 70004 6 F,aD 70005 5 G,.J (Tag.ro 70006) 3 C])),(7,aT 1000000000),(8,.aI (.one (.ptr 3 3))),(9,aJ.aI (bC.one (aD 70003 8 A))),(10,a1 (A.length:Int)),(11,a1 f),(12,aT 1000000000),(13,a1 a),(14,.aI (.one (.bc (a==0)))),(15,.aI (.one (.bc (a==0)))),(24,.aI (.one (.bc (a==1)))),(25,.aI (.one (.bc (a==1)))),(36,.aI (.one (.bc (a==2)))),(37,.aI (.one (.bc (a==2)))),(47,.aI (.one (.bc (a==3)))),(48,.aI (.one (.bc (a==3)))),(56,.aI (.one (.bc (a==4)))),(57,.aI (.one (.bc (a==4)))),(58,.aI (.one (.ptr 3 6))),(59,.aI (.one (.J (Tag.ro 70006) 3 C))),(60,aT 1000000000),(61,a1 b),(62,a1 (b-1)),(63,aT 1000000000),(64,a1 c),(65,a1 (c-1)),(66,aJ.aI (bC.agg [ay (b-1),ay (c-1),.v (Value.bool false)])),(67,.aI (.one (.J (.own 67) 3 [[I (b-1),I (c-1),B false]]))),(68,aJ.aI (bC.one (aD 70006 3 (C++[[I (b-1),I (c-1),B false]])))),(69,.aI (.one (.ptr 3 6)))] [(3,[aD 70000 4 E,ay d,ay e,aD 70003 8 A,aD 70004 6 F,aD 70005 5 G,aD 70006 3 (C++[[I (b-1),I (c-1),B false]])]),(2,[.v (aO),ay 0,ay 0,.v (aO),.v (aO),.v (aO),.v (aO)]),(1000000000,[.dx 1000000100 1 H,ay g,ay i])]
theorem apC{A G:ah}{l m:Int}{H E F C:ah}{j g i k c d a e f b:Int}
  (h:cO [bZ prog 138 [aN.cur [D.J 1 A,I g,I i] [D.J 1 A,I c,I d],aN.ro (ao 6)] (aV.vals [ao a]),aG .i64 (a-1),bZ prog 138 [aN.cur [D.J 1 A,I c,I d] [D.J 1 A,I e,I f],aN.ro (ao 6)] (aV.vals [ao b]),aG .i64 (b-1),(C.length+[[I (a-1),I (b-1),B false]].length)*24<=140737488355328,C.length+[[I (a-1),I (b-1),B false]].length<=9223372036854775807,Flat [[I (a-1),I (b-1),B false]]]):
  eA prog (cV f185 13) (Xl A G l m H E F C j g i k) (Nw A G l m H E F C j k a e f b):=
 .of [[],[],[],[.dm [some [D.J 1 A,I c,I d],none] (aV.vals [ao a])],[],[],[.dm [some [D.J 1 A,I e,I f],none] (aV.vals [ao b])],[],[],[],[],[],[]] [[],[],[],[bZ prog 138 [aN.cur [D.J 1 A,I g,I i] [D.J 1 A,I c,I d],aN.ro (ao 6)] (aV.vals [ao a])],[aG .i64 (a-1)],[],[bZ prog 138 [aN.cur [D.J 1 A,I c,I d] [D.J 1 A,I e,I f],aN.ro (ao 6)] (aV.vals [ao b])],[aG .i64 (b-1)],[],[],[(C.length+[[I (a-1),I (b-1),B false]].length)*24<=140737488355328,C.length+[[I (a-1),I (b-1),B false]].length<=9223372036854775807,Flat [[I (a-1),I (b-1),B false]]],[],[]] (by kernel_rfl) (by kernel_rfl) (by kernel_rfl) h
theorem apD(h:af (zI A n o H b c C E F G e f d g i a p a0 [.b (a==2) false,.b (a==3) false,.b (a==4) true,.a (.iu (Nw A H b c C E F G d a j k l m)),.p (eA prog (cV f185 13) (Xl A H b c C E F G d g i a) (Nw A H b c C E F G d a j k l m))])):
 cc 185 [aN.cur [D.J 1 A,I p,I a0] [D.J 1 A,I k,I l]] (aV.vals [.agg (cl H b c C E F (G++[[I (j-1),I (m-1),B false]]))]):=
 h.cd
theorem apE(h:af (zI A k l au p a0 C E F G b c n d e a m o [.b (a==2) false,.b (a==3) false,.b (a==4) false,.b (a==5) true,.a (.dm [some [D.J 1 A,I f,I g]] (aV.vals [.agg (bt H i j)])),.p (bZ prog 137 [aN.cur [D.J 1 A,I d,I e] [D.J 1 A,I f,I g]] (aV.vals [.agg (bt H i j)]))])):
 cc 185 [aN.cur [D.J 1 A,I m,I o] [D.J 1 A,I f,I g]] (aV.vals [.agg (cl H i j C E F G)]):=
 h.cd
theorem apF(h:af (zI A f g H i j E F C G b c l d e a k m [.b (a==2) false,.b (a==3) false,.b (a==4) false,.b (a==5) false,.b (a==6) true,.a .own,.p ((0:Int)<=none.getD 0),.p (none.getD 0<=(some (3:Int)).getD (C.length:Int)),.p ((some (3:Int)).getD (C.length:Int)<=(C.length:Int))])):
 cc 185 [aN.cur [D.J 1 A,I k,I m] [D.J 1 A,I d,I e]] (aV.vals [.agg (cl H i j E F (List.take (3-0) (List.drop 0 C)) G)]):=
 h.cd
theorem apG(h:af (zI A f g H i j C E F G b c l d e a k m [.b (a==2) false,.b (a==3) false,.b (a==4) false,.b (a==5) false,.b (a==6) false])):
 cc 185 [aN.cur [D.J 1 A,I k,I m] [D.J 1 A,I d,I e]] (aV.vals [.agg (cl H i j C E F G)]):=
 h.cd
def uR(A C:ah)(a b c d:Int):aF:=bf 37 [(2,aT 2),(4,aT 7),(5,aJ.aI (bC.one (aD 100000 5 A)))] [(7,[.J .free 1 C,ay a,ay b]),(2,[.v (aO),ay c,ay d])]
theorem apH(h:af [.w A b c a,.k A 138 d e b c 2 a,.v (20+a),.b (decide ((C.length:Int)<20+a)) true,.g C [(bx 0 0 0 0 0)] 40,.h [(bx 0 0 0 0 0)]]):
 aY (aq f49 0) (uR C A d e f g) .normal (uR (C++[(bx 0 0 0 0 0)]) A b c f g):=
 h.aW [5,4,2] [7,2]
def zu(A C:ah)(a b c d:Int):aF:=bf 37 [(2,aT 2),(4,aT 7),(5,aJ.aI (bC.one (aD 100000 5 A)))] [(7,[.J .free 1 C,ay a,ay b]),(2,[.v (aO),ay c,ay d])]
theorem apI(h:af [.w A b c a,.k A 138 d e b c 2 a,.v (20+a),.b (decide ((C.length:Int)<20+a)) false]):
 aY (aq f49 0) (uR C A d e f g) (.exit 0) (zu C A b c f g):=
 h.aW [4,5,2] [7,2]
def Ob(A:ah)(a b:Int)(l:List O):List O:=.a (.dm [none] (aV.hX [some 0,none,none] [D.J 1 A,I a,I b]))::l
def Yc(A:ah)(a b c d:Int)(C:ah)(e f:Int)(q:Bool)(l:List O):List O:=Ob A a b (.a (.dm [some [D.J 1 A,I c,I d]] (aV.vals [aM 5 C]))::.y A e f q::.p (bZ prog 117 [aN.ro (aM 1 A)] (aV.hX [some 0,none,none] [D.J 1 A,I a,I b]))::.p (bZ prog 119 [aN.cur [D.J 1 A,I a,I b] [D.J 1 A,I c,I d]] (aV.vals [aM 5 C]))::.m A 136 c d e f 6 q::l)
def Gw(A:ah)(a b c d:Int)(C:ah)(e f:Int)(q:Bool)(g i j k m n o p ej:Int)(r:Bool)(l:List O):List O:=Yc A a b c d C e f q (.b q true::.a (.dm [some [D.J 1 A,I g,I i]] (aV.vals [.agg (bx j k m n o)]))::.y A p ej r::.p (bZ prog 178 [aN.cur [D.J 1 A,I e,I f] [D.J 1 A,I g,I i]] (aV.vals [.agg (bx j k m n o)]))::.g C [(bx j k m n o)] 40::.h [(bx j k m n o)]::.m A 136 g i p ej 20 r::l)
theorem apJ(h:af (Gw A j m b9 de E d0 f q g i a b c d e k l r [.b r true,.l [] [5,4,2] [7,2] (aq f49 0) (uR (E++[(bx a b c d e)]) A k l 0 0) (.exit 0) (zu G C bM f0 j0 dC),.y C n o s,.m C 136 bM f0 n o 6 s,.b s true,.a (.dm [some [D.J 1 C,I g0,I i0]] (aV.vals [.agg (bt F p a0)])),.p (bZ prog 137 [aN.cur [D.J 1 C,I n,I o] [D.J 1 C,I g0,I i0]] (aV.vals [.agg (bt F p a0)]))])):
 aw 49 [aM 1 A] [.agg (bt F p a0),aM 5 G]:=
 h.of
theorem apK(h:af (Gw A j m b9 de E d0 f q g i a b c d e k l r [.b r true,.l [] [5,4,2] [7,2] (aq f49 0) (uR (E++[(bx a b c d e)]) A k l 0 0) (.exit 0) (zu G C bM f0 j0 dC),.y C n o s,.m C 136 bM f0 n o 6 s,.b s false,.a (.dm [some [D.J 1 C,I g0,I i0]] (aV.vals [.agg (bt F p a0)])),.p (bZ prog 118 [aN.cur [D.J 1 C,I n,I o] [D.J 1 C,I g0,I i0]] (aV.vals [.agg (bt F p a0)]))])):
 aw 49 [aM 1 A] [.agg (bt F p a0),aM 5 G]:=
 h.of
theorem apL(h:af (Gw A j o b9 de C d0 f q g i a b c d e k l r [.b r false,.y A m n s,.m A 136 k l m n 6 s,.b s true,.a (.dm [some [D.J 1 A,I bM,I f0]] (aV.vals [.agg (bt E p a0)])),.p (bZ prog 137 [aN.cur [D.J 1 A,I m,I n] [D.J 1 A,I bM,I f0]] (aV.vals [.agg (bt E p a0)]))])):
 aw 49 [aM 1 A] [.agg (bt E p a0),aM 5 (C++[(bx a b c d e)])]:=
 h.of
theorem apM(h:af (Gw A j o b9 de C d0 f q g i a b c d e k l r [.b r false,.y A m n s,.m A 136 k l m n 6 s,.b s false,.a (.dm [some [D.J 1 A,I bM,I f0]] (aV.vals [.agg (bt E p a0)])),.p (bZ prog 118 [aN.cur [D.J 1 A,I m,I n] [D.J 1 A,I bM,I f0]] (aV.vals [.agg (bt E p a0)]))])):
 aw 49 [aM 1 A] [.agg (bt E p a0),aM 5 (C++[(bx a b c d e)])]:=
 h.of
def Gl(A:ah)(a b c d:Int)(C:ah)(e f:Int)(q:Bool)(g i:Int)(r:Bool)(l:List O):List O:=Yc A a b c d C e f q (.b q false::.y A g i r::.m A 136 e f g i 20 r::l)
theorem apN(h:af (Gl A d g k l F m a q b c r [.b r true,.l [] [5,4,2] [7,2] (aq f49 0) (uR F A b c 0 0) (.exit 0) (zu G C n o b9 de),.y C e f s,.m C 136 n o e f 6 s,.b s true,.a (.dm [some [D.J 1 C,I p,I a0]] (aV.vals [.agg (bt E i j)])),.p (bZ prog 137 [aN.cur [D.J 1 C,I e,I f] [D.J 1 C,I p,I a0]] (aV.vals [.agg (bt E i j)]))])):
 aw 49 [aM 1 A] [.agg (bt E i j),aM 5 G]:=
 h.of
theorem apO(h:af (Gl A d g k l F m a q b c r [.b r true,.l [] [5,4,2] [7,2] (aq f49 0) (uR F A b c 0 0) (.exit 0) (zu G C n o b9 de),.y C e f s,.m C 136 n o e f 6 s,.b s false,.a (.dm [some [D.J 1 C,I p,I a0]] (aV.vals [.agg (bt E i j)])),.p (bZ prog 118 [aN.cur [D.J 1 C,I e,I f] [D.J 1 C,I p,I a0]] (aV.vals [.agg (bt E i j)]))])):
 aw 49 [aM 1 A] [.agg (bt E i j),aM 5 G]:=
 h.of
theorem apP(h:af (Gl A f j k l E m a q b c r [.b r false,.y A d e s,.m A 136 b c d e 6 s,.b s true,.a (.dm [some [D.J 1 A,I n,I o]] (aV.vals [.agg (bt C g i)])),.p (bZ prog 137 [aN.cur [D.J 1 A,I d,I e] [D.J 1 A,I n,I o]] (aV.vals [.agg (bt C g i)]))])):
 aw 49 [aM 1 A] [.agg (bt C g i),aM 5 E]:=
 h.of
theorem apQ(h:af (Gl A f j k l E m a q b c r [.b r false,.y A d e s,.m A 136 b c d e 6 s,.b s false,.a (.dm [some [D.J 1 A,I n,I o]] (aV.vals [.agg (bt C g i)])),.p (bZ prog 118 [aN.cur [D.J 1 A,I d,I e] [D.J 1 A,I n,I o]] (aV.vals [.agg (bt C g i)]))])):
 aw 49 [aM 1 A] [.agg (bt C g i),aM 5 E]:=
 h.of
def NT(A:ah)(a b c d:Int)(C:ah)(e f:Int)(E F G H:ah)(l:List O):List O:=Ob A a b (.a (.dm [some [D.J 1 A,I c,I d]] (aV.vals [.agg (cl C e f E F G H)]))::l)
theorem apR(h:af (NT A a b e f H c d C E F G [.p (bZ prog 117 [aN.ro (aM 1 A)] (aV.hX [some 0,none,none] [D.J 1 A,I a,I b])),.p (bZ prog 185 [aN.cur [D.J 1 A,I a,I b] [D.J 1 A,I e,I f]] (aV.vals [.agg (cl H c d C E F G)]))])):
 aw 51 [aM 1 A] [.agg (cl H c d C E F G)]:=
 h.of
def X3(A:ah)(a b c d:Int)(C:ah)(e f:Int)(E F G H:ah)(g i:Int)(q:Bool)(l:List O):List O:=NT A a b c d C e f E F G H (.y A g i q::.p (bZ prog 117 [aN.ro (aM 1 A)] (aV.hX [some 0,none,none] [D.J 1 A,I a,I b]))::.p (bZ prog 185 [aN.cur [D.J 1 A,I a,I b] [D.J 1 A,I c,I d]] (aV.vals [.agg (cl C e f E F G H)]))::.m A 136 c d g i 2 q::l)
theorem apS(h:af (X3 A c d e f H a b C E F G g i q [.b q true,.r 186 [.agg (cl H a b C E F G)] [.agg (cl au j k K L M N)]])):
 aw 52 [aM 1 A] [.agg (cl H a b C E F G),.agg (cl au j k K L M N)]:=
 h.of
def Nx(A C:ah)(a b:Int)(E F G H:ah)(c d:Int)(q:Bool):aF:=bf 18 [(0,cX 1 A),(2,aT 2),(3,aT 3),(4,aT 7),(5,aT 5),(6,cX 1 A),(7,aT 7),(8,aT 7),(9,aJ.aI (bC.agg [aD 100000 4 C,ay a,ay b,aD 100003 8 E,aD 100004 6 F,aD 100005 5 G,aD 100006 3 H])),(10,aT 7),(11,.aI (.one (.bc q)))] [(5,[aD 100000 4 C,ay a,ay b,aD 100003 8 E,aD 100004 6 F,aD 100005 5 G,aD 100006 3 H]),(7,[.J .free 1 A,ay c,ay d]),(3,[.v (aO),ay 0,ay 0,.v (aO),.v (aO),.v (aO),.v (aO)]),(2,[.v (aO),ay 0,ay 0,.v (aO),.v (aO),.v (aO),.v (aO)])]
def Ny(P:Program)(W:Array Oper)(A N:ah)(g i:Int)(C E F G:ah)(a b:Int)(q:Bool)(c d:Int)(H:ah)(e f:Int)(au K L M:ah):aF:=
 mS P W [[],[],[.dm [some [D.J 1 A,I c,I d]] (aV.vals [.agg (cl H e f au K L M)])],[],[]] (Nx A N g i C E F G a b q)
theorem apT{A N:ah}{g i:Int}{C E F G:ah}{a b:Int}{q:Bool}{c d:Int}{H:ah}{e f:Int}{au K L M:ah}
  (h:cO [bZ prog 185 [aN.cur [D.J 1 A,I a,I b] [D.J 1 A,I c,I d]] (aV.vals [.agg (cl H e f au K L M)])]):
  eA prog (cV f52 5) (Nx A N g i C E F G a b q) (Ny prog (cV f52 5) A N g i C E F G a b q c d H e f au K L M):=
 .nK [0,0,1,0,0] h
theorem apU(h:af (X3 A e i j k H a b C E F G c d q [.b q false,.a (.iu (Ny prog (cV f52 5) A H a b C E F G c d q l m au f g K L M N)),.p (eA prog (cV f52 5) (Nx A H a b C E F G c d q) (Ny prog (cV f52 5) A H a b C E F G c d q l m au f g K L M N))])):
 aw 52 [aM 1 A] [.agg (cl H a b C E F G),.agg (cl au f g K L M N)]:=
 h.of
theorem apV(h:af (NT A b c d e H f g C E F G [.w A i j a,.p (bZ prog 117 [aN.ro (aM 1 A)] (aV.hX [some 0,none,none] [D.J 1 A,I b,I c])),.p (bZ prog 185 [aN.cur [D.J 1 A,I b,I c] [D.J 1 A,I d,I e]] (aV.vals [.agg (cl H f g C E F G)])),.k A 138 d e i j 6 a,.v (a-1)])):
 aw 53 [aM 1 A] [.agg (cl H f g C E F G),ao (a-1)]:=
 h.of
theorem apW(h:af (Ob A e f [.a (.dm [some [D.J 1 A,I g,I i]] (aV.vals [.agg (bt C j k)])),.w A c d a,.w A l m b,.p (bZ prog 117 [aN.ro (aM 1 A)] (aV.hX [some 0,none,none] [D.J 1 A,I e,I f])),.p (bZ prog 137 [aN.cur [D.J 1 A,I e,I f] [D.J 1 A,I g,I i]] (aV.vals [.agg (bt C j k)])),.k A 138 g i c d 6 a,.v (a-1),.k A 138 c d l m 6 b,.v (b-1)])):
 aw 54 [aM 1 A] [.agg (bt C j k),ao (a-1),ao (b-1)]:=
 h.of
