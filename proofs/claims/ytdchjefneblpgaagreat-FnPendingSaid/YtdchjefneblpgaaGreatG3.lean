import Derived.Test.YtdchjefneblpgaaGreatGE
set_option linter.unusedVariables false
set_option linter.unusedSimpArgs false
namespace Go.Proofs.YtdchjefneblpgaaGreat
open Go.Sx Go.RowKit Go.Proofs.Tryz
variable {a b c d e f g i j k l m n o p a0 ff cf dg d0 bE f0 g0 i0 j0 dp ej m0 HR Aq iI : Int} {A C E F G H aw K L M N Q R S bO V X Y Z fu : ai} {q r : Bool}
def uM(A:ai)(a c d e:Int)(C:ai)(f g i j b:Int):aE:=bi 55 [(0,aS 1000000000),(2,aS 2),(3,aS 3),(4,aZ a)] [(3,[aq c,aq d,aq e,ay 52 1 C]),(2,[aq f,aq g,aq i,.v (aO)]),(1000000000,[.db 1000000100 1 A,aq j,aq b])]
def Un(A:ai)(a d e f:Int)(C:ai)(g i j k c b:Int):aE:=bi 55 [(0,aS 1000000000),(2,aS 2),(3,aS 3),(4,aZ a),(37,aZ a),(38,aS 1000000000),(39,aZ b),(40,.aD (.one (.bg (decide (a<b)))))] [(3,[aq d,aq e,aq f,ay 52 1 C]),(2,[aq g,aq i,aq j,.v (aO)]),(1000000000,[.db 1000000100 1 A,aq k,aq c])]
def LD(C:ai)(a f g i:Int)(A:ai)(j k l c d e b:Int):aE:=bi 55 [(0,aS 1000000000),(2,aS 2),(3,aS 3),(4,aZ a),(37,aZ a),(38,aS 1000000000),(39,aZ c),(40,.aD (.one (.bg (decide (a<c))))),(43,.aD (.one (.ptr 3 3))),(44,.aD (.one (.J (Tag.ro 52) 1 A))),(45,aZ a),(46,aZ (a*2)),(47,aZ (1+a*2)),(48,aS 1000000000),(49,aZ b),(50,aZ (1+a*2+b)),(51,.aD (.one (.J (.own 51) 1 [[I (1+a*2+b)]]))),(52,aB.aD (bd.one (ay 52 1 (A++[[I (1+a*2+b)]])))),(53,.aD (.one (.ptr 3 3)))] [(3,[aq f,aq g,aq i,ay 52 1 (A++[[I (1+a*2+b)]])]),(2,[aq j,aq k,aq l,.v (aO)]),(1000000000,[.db 1000000100 1 C,aq d,aq e])]
theorem agr{A:ai}{a g i j:Int}{C:ai}{k l m e f n c d b:Int}
  (h:cB [bf .i64 (a*2),bf .i64 (1+a*2),bU prog 138 [aJ.cur [D.J 1 A,I e,I f] [D.J 1 A,I c,I d],aJ.ro (al 2)] (aT.vals [al b]),bf .i64 (1+a*2+b),(C.length+[[I (1+a*2+b)]].length)*8<=140737488355328,C.length+[[I (1+a*2+b)]].length<=9223372036854775807,Flat [[I (1+a*2+b)]]]):
  dY prog (cG f319 14) (Un A a g i j C k l m e f n) (LD A a g i j C k l m n c d b):=
 .of [[],[],[],[],[],[],[.dq [some [D.J 1 A,I c,I d],none] (aT.vals [al b])],[],[],[],[],[]] [[],[],[],[bf .i64 (a*2)],[bf .i64 (1+a*2)],[],[bU prog 138 [aJ.cur [D.J 1 A,I e,I f] [D.J 1 A,I c,I d],aJ.ro (al 2)] (aT.vals [al b])],[bf .i64 (1+a*2+b)],[],[(C.length+[[I (1+a*2+b)]].length)*8<=140737488355328,C.length+[[I (1+a*2+b)]].length<=9223372036854775807,Flat [[I (1+a*2+b)]]],[],[]] (by kernel_rfl) (by kernel_rfl) (by kernel_rfl) h
theorem ags(h:ak [.w A j k b,.k A 138 o p j k 3 b,.b (decide (a<b)) true,.a (.h7 (LD A a c d e C f g i b l m n)),.p (dY prog (cG f319 14) (Un A a c d e C f g i j k b) (LD A a c d e C f g i b l m n)),.u a]):
 bb (az f319 0) (uM A a c d e C f g i o p) .normal (uM A (a+1) c d e (C++[[I (1+a*2+n)]]) f g i l m):=
 h.a' [4,0,3,2] [3,2,1000000000]
def yX(A:ai)(a b c:Int)(C:ai)(d e f g i:Int):aE:=bi 55 [(0,aS 1000000000),(2,aS 2),(3,aS 3)] [(3,[aq a,aq b,aq c,ay 52 1 C]),(2,[aq d,aq e,aq f,.v (aO)]),(1000000000,[.db 1000000100 1 A,aq g,aq i])]
theorem agt(h:ak [.w A a b c,.k A 138 l m a b 3 c,.b (decide (d<c)) false]):
 bb (az f319 0) (uM A d e f g C i j k l m) (.exit 1) (yX A e f g C i j k a b):=
 h.a' [3,2,0] [3,2,1000000000]
def Ft(A:ai)(a b c d e:Int)(l:List O):List O:=.w A a b c::.k A 138 d e a b 8 c::l
theorem agu(h:ak (Ft A c d a g n [.v (1+a),.b (1+a==2) true,.w A e f b,.p (bU prog 140 [aJ.cur [D.J 1 A,I c,I d] [D.J 1 A,I e,I f],aJ.ro (.one (.J 1 [[I 0],[I 1],[I 3],[I 10],[I 999]]))] (aT.vals [al b])),.b (1+a != 8) true,.l [(4000003,52,1)] [4,0,3,2] [3,2,1000000000] (az f319 0) (uM A 0 (1+a) b 0 [] 0 0 0 e f) (.exit 1) (yX A i j k C o p a0 l m)])):
 bZ 319 [aJ.cur [D.J 1 A,I g,I n] [D.J 1 A,I l,I m]] (aT.vals [.agg (cz i j k C)]):=
 h.b0
def Fu(A:ai)(a b c d e:Int)(l:List O):List O:=Ft A a b c d e (.v (1+c)::.b (1+c==2) false::l)
theorem agv(h:ak (Fu A f g a k o [.b (1+a==3) true,.w A i j b,.w A c d e,.k A 138 f g i j 4 b,.v (1+b),.k A 138 i j c d (1+b) e,.b (1+a != 8) true,.l [(4000003,52,1)] [4,0,3,2] [3,2,1000000000] (az f319 0) (uM A 0 (1+a) (1+b) e [] 0 0 0 c d) (.exit 1) (yX A l m n C cf dg d0 p a0)])):
 bZ 319 [aJ.cur [D.J 1 A,I k,I o] [D.J 1 A,I p,I a0]] (aT.vals [.agg (cz l m n C)]):=
 h.b0
theorem agw(h:ak (Fu A c d a g n [.b (1+a==3) false,.b (1+a==4) true,.w A e f b,.p (bU prog 140 [aJ.cur [D.J 1 A,I c,I d] [D.J 1 A,I e,I f],aJ.ro (.one (.J 1 [[I 0],[I 1],[I 2],[I 3],[I 50],[I 99]]))] (aT.vals [al b])),.b (1+a != 8) true,.l [(4000003,52,1)] [4,0,3,2] [3,2,1000000000] (az f319 0) (uM A 0 (1+a) b 0 [] 0 0 0 e f) (.exit 1) (yX A i j k C o p a0 l m)])):
 bZ 319 [aJ.cur [D.J 1 A,I g,I n] [D.J 1 A,I l,I m]] (aT.vals [.agg (cz i j k C)]):=
 h.b0
theorem agx(h:ak (Fu A b c a d g [.b (1+a==3) false,.b (1+a==4) false,.b (1+a != 8) true,.l [(4000003,52,1)] [4,0,3,2] [3,2,1000000000] (az f319 0) (uM A 0 (1+a) 0 0 [] 0 0 0 b c) (.exit 1) (yX A i j k C l m n e f)])):
 bZ 319 [aJ.cur [D.J 1 A,I d,I g] [D.J 1 A,I e,I f]] (aT.vals [.agg (cz i j k C)]):=
 h.b0
theorem agy(h:ak (Fu A b c a d e [.b (1+a==3) false,.b (1+a==4) false,.b (1+a != 8) false])):
 bZ 319 [aJ.cur [D.J 1 A,I d,I e] [D.J 1 A,I b,I c]] (aT.vals [.agg (cz (1+a) 0 0 [])]):=
 h.b0
def BW(A:ai)(a b c d e:Int)(C:ai)(f g i j k:Int)(l:List O):List O:=.a (.dq [some [D.J 1 A,I a,I b]] (aT.vals [.agg (cz c d e C)]))::.w A f g i::.p (bU prog 319 [aJ.cur [D.J 1 A,I j,I k] [D.J 1 A,I a,I b]] (aT.vals [.agg (cz c d e C)]))::.k A 138 a b f g 12 i::l
theorem agz(h:ak (BW A g i n j k C b c d l m [.b (d==0) true,.w A e f a,.k A 138 b c e f 11 a,.v (a-1)])):
 bZ 252 [aJ.cur [D.J 1 A,I l,I m] [D.J 1 A,I e,I f]] (aT.vals [.agg (cz (a-1) j k C)]):=
 h.b0
theorem agA(h:ak (BW A g i j n k C b c a l m [.b (a==0) false,.b (a==1) true,.w A d e f,.p (bU prog 140 [aJ.cur [D.J 1 A,I b,I c] [D.J 1 A,I d,I e],aJ.ro (.one (.J 1 [[I (-1)],[I 0],[I 1000],[I 100],[I 11]]))] (aT.vals [al f]))])):
 bZ 252 [aJ.cur [D.J 1 A,I l,I m] [D.J 1 A,I d,I e]] (aT.vals [.agg (cz j f k C)]):=
 h.b0
theorem agB(h:ak (BW A g i j k n C b c a l m [.b (a==0) false,.b (a==1) false,.b (a==2) true,.w A d e f,.p (bU prog 140 [aJ.cur [D.J 1 A,I b,I c] [D.J 1 A,I d,I e],aJ.ro (.one (.J 1 [[I (-1)],[I 1],[I 3]]))] (aT.vals [al f]))])):
 bZ 252 [aJ.cur [D.J 1 A,I l,I m] [D.J 1 A,I d,I e]] (aT.vals [.agg (cz j k f C)]):=
 h.b0
def LF(C:ai)(b c d:Int)(A:ai)(e f a:Int):aE:=bi 37 [(0,aS 1000000000),(2,aS 2),(3,aS 3),(4,aS 1000000000),(5,aB.aD (bd.agg [aq b,aq c,aq d,ay 60003 1 A])),(6,aS 1000000000),(7,aZ a),(8,.aD (.one (.bg (a==0)))),(9,.aD (.one (.bg (a==0)))),(14,.aD (.one (.bg (a==1)))),(15,.aD (.one (.bg (a==1)))),(20,.aD (.one (.bg (a==2)))),(21,.aD (.one (.bg (a==2)))),(26,.aD (.one (.bg (a==3)))),(27,.aD (.one (.bg (a==3))))] [(3,[aq b,aq c,aq d,ay 60003 1 A]),(2,[aq 0,aq 0,aq 0,.v (aO)]),(1000000000,[.db 1000000100 1 C,aq e,aq f])]
def LG(P:Program)(W:Array Oper)(A:ai)(g i j:Int)(C:ai)(a b c d e f:Int):aE:=
 mf P W [[],[],[],[],[.dq [some [D.J 1 A,I d,I e],none] (aT.vals [al f])],[],[],[],[]] (LF A g i j C a b c)
theorem agC{A:ai}{g i j:Int}{C:ai}{b c d e f a:Int}
  (h:cB [bU prog 140 [aJ.cur [D.J 1 A,I b,I c] [D.J 1 A,I e,I f],aJ.ro (.one (.J 1 [[I 1],[I 7],[I 8],[I (-1)]]))] (aT.vals [al a]),(C.length+[[I a]].length)*8<=140737488355328,C.length+[[I a]].length<=9223372036854775807,Flat [[I a]]]):
  dY prog (cG f252 10) (LF A g i j C b c d) (LG prog (cG f252 10) A g i j C b c d e f a):=
 .mS [0,0,0,0,1,0,3,0,0] h
theorem afM(h:ak (BW A k l b c d C e f a m n [.b (a==0) false,.b (a==1) false,.b (a==2) false,.b (a==3) true,.a (.h7 (LG prog (cG f252 10) A b c d C e f a g i j)),.p (dY prog (cG f252 10) (LF A b c d C e f a) (LG prog (cG f252 10) A b c d C e f a g i j))])):
 bZ 252 [aJ.cur [D.J 1 A,I m,I n] [D.J 1 A,I g,I i]] (aT.vals [.agg (cz b c d (C++[[I j]]))]):=
 h.b0
theorem afN(h:ak (BW A d e f g i C b c a j k [.b (a==0) false,.b (a==1) false,.b (a==2) false,.b (a==3) false])):
 bZ 252 [aJ.cur [D.J 1 A,I j,I k] [D.J 1 A,I b,I c]] (aT.vals [.agg (cz f g i C)]):=
 h.b0
def s6(A:ai)(a g:Int)(C:ai)(i j k l m n b c d e f:Int):aE:=bi 40 [(0,aS 1000000000),(2,aS 2),(3,aS 3),(4,aZ a)] [(3,[aq g,ay 900004001 5 C,aq i,aq j,aq k,aq l]),(2,[aq m,.v (aO),aq n,aq b,aq c,aq d]),(1000000000,[.db 1000000100 1 A,aq e,aq f])]
def L4(A:ai)(a b c d e f g i j:Int)(l:List O):List O:=.w A a b c::.k A 138 d e a b 9 c::.b (decide (f<c)) true::.w A g i j::.k A 138 a b g i 4 j::l
theorem afO(h:ak (L4 A b c d dg d0 a e f g [.b (g==0) true,.r 260 [.agg (cI i C j k l m)] [.agg (cI bE E f0 g0 i0 j0),.agg (bu dp ej m0 HR Aq),aI q],.u a])):
 bb (az f327 0) (s6 A a i C j k l m n o p a0 cf dg d0) .normal (s6 A (a+1) bE E f0 g0 i0 j0 n o p a0 cf e f):=
 h.lu [(4000001,900004001,5)] [4,0,3,2] [3,2,1000000000]
theorem afP(h:ak (L4 A c d e dg d0 a f g b [.b (b==0) false,.b (b==1) true,.r 261 [.agg (cI i C j k l m)] [.agg (cI bE E f0 g0 i0 j0),aI q],.u a])):
 bb (az f327 0) (s6 A a i C j k l m n o p a0 cf dg d0) .normal (s6 A (a+1) bE E f0 g0 i0 j0 n o p a0 cf f g):=
 h.lu [(4000001,900004001,5)] [4,0,3,2] [3,2,1000000000]
def LH(A:ai)(b j:Int)(C:ai)(k l m n o p d e f c g i a:Int):aE:=bi 40 [(0,aS 1000000000),(2,aS 2),(3,aS 3),(4,aZ b),(9,aZ b),(10,aS 1000000000),(11,aZ c),(12,.aD (.one (.bg (decide (b<c))))),(15,aS 1000000000),(16,aZ a),(24,.aD (.one (.bg (a==0)))),(25,.aD (.one (.bg (a==0)))),(32,.aD (.one (.bg (a==1)))),(33,.aD (.one (.bg (a==1))))] [(3,[aq j,ay 900004001 5 C,aq k,aq l,aq m,aq n]),(2,[aq o,.v (aO),aq p,aq d,aq e,aq f]),(1000000000,[.db 1000000100 1 A,aq g,aq i])]
def LI(P:Program)(W:Array Oper)(A:ai)(a b:Int)(C:ai)(c d e f g i j k l m n o p a0 cf dg d0 bE f0 g0 i0:Int)(E:ai)(j0 dp ej m0:Int)(q:Bool):aE:=
 mf P W [[],[],[.dq [some [D.J 1 A,I a0,I cf]] (aT.vals [.agg (bu dg d0 bE f0 g0)])],[.res [.agg (cI i0 E j0 dp ej m0),aI q]],[],[],[],[]] (LH A a b C c d e f g i j k l m n o p)
theorem afQ{A:ai}{n a:Int}{C:ai}{b c d e o p a0 cf dg d0 f g bE f0 g0 i j k l m i0:Int}{E:ai}{j0 dp ej m0:Int}{q:Bool}
  (h:cB [bU prog 271 [aJ.cur [D.J 1 A,I f,I g] [D.J 1 A,I f0,I g0]] (aT.vals [.agg (bu i j k l m)]),aK 258 [.agg (cI a C b c d e),.agg (bu i j k l m)] [.agg (cI i0 E j0 dp ej m0),aI q]]):
  dY prog (cG f327 6) (LH A n a C b c d e o p a0 cf dg d0 f g bE) (LI prog (cG f327 6) A n a C b c d e o p a0 cf dg d0 f g bE f0 g0 i j k l m i0 E j0 dp ej m0 q):=
 .mS [0,0,1,1,0,0,0,0] h
theorem afR(h:ak (L4 A a0 cf c dp ej a j k b [.b (b==0) false,.b (b==1) false,.a (.h7 (LI prog (cG f327 6) A a l C m n o p d e f g i c j k b dg d0 m0 HR Aq iI ff bE E f0 g0 i0 j0 q)),.p (dY prog (cG f327 6) (LH A a l C m n o p d e f g i c j k b) (LI prog (cG f327 6) A a l C m n o p d e f g i c j k b dg d0 m0 HR Aq iI ff bE E f0 g0 i0 j0 q)),.u a])):
 bb (az f327 0) (s6 A a l C m n o p d e f g i dp ej) .normal (s6 A (a+1) bE E f0 g0 i0 j0 d e f g i dg d0):=
 h.lu [(4000001,900004001,5)] [4,0,3,2] [3,2,1000000000]
def LJ(A:ai)(a:Int)(C:ai)(f g i j k l m b c d e:Int):aE:=bi 40 [(0,aS 1000000000),(2,aS 2),(3,aS 3)] [(3,[aq a,ay 900004001 5 C,aq f,aq g,aq i,aq j]),(2,[aq k,.v (aO),aq l,aq m,aq b,aq c]),(1000000000,[.db 1000000100 1 A,aq d,aq e])]
theorem afS(h:ak [.w A a b c,.k A 138 p a0 a b 9 c,.b (decide (d<c)) false]):
 bb (az f327 0) (s6 A d e C f g i j k l m n o p a0) (.exit 0) (LJ A e C f g i j k l m n o a b):=
 h.a' [3,2,0] [3,2,1000000000]
theorem afT(h:ak [.w A b c a,.k A 138 d n b c 4 a,.v (1+a),.r 126 [al (1+a)] [.agg (cI a0 E cf e f g)],.l [(4000001,900004001,5)] [4,0,3,2] [3,2,1000000000] (az f327 0) (s6 A 0 a0 E cf e f g 0 0 0 0 0 b c) (.exit 0) (LJ A i C j k l m dg d0 bE f0 g0 o p)]):
 bZ 327 [aJ.cur [D.J 1 A,I d,I n] [D.J 1 A,I o,I p]] (aT.vals [.agg (cI i C j k l m)]):=
 h.b0
def y'(A:ai)(a b c:Int)(C:ai)(d e f g i j k m n:Int)(l:List O):List O:=.a (.dq [some [D.J 1 A,I a,I b]] (aT.vals [.agg (cI c C d e f g)]))::.w A i j k::.p (bU prog 327 [aJ.cur [D.J 1 A,I m,I n] [D.J 1 A,I a,I b]] (aT.vals [.agg (cI c C d e f g)]))::.k A 138 a b i j 14 k::l
theorem afU(h:ak (y' A j k l C p m b c d e f n o [.b (f==0) true,.w A g i a,.k A 138 d e g i 6 a,.v (a-1)])):
 bZ 278 [aJ.cur [D.J 1 A,I n,I o] [D.J 1 A,I g,I i]] (aT.vals [.agg (cI l C (a-1) m b c)]):=
 h.b0
theorem afV(h:ak (y' A j k l C m p c d e f a n o [.b (a==0) false,.b (a==1) true,.w A g i b,.k A 138 e f g i 6 b,.v (b-1)])):
 bZ 278 [aJ.cur [D.J 1 A,I n,I o] [D.J 1 A,I g,I i]] (aT.vals [.agg (cI l C m (b-1) c d)]):=
 h.b0
theorem afW(h:ak (y' A i j k C l m o b c d a n p [.b (a==0) false,.b (a==1) false,.b (a==2) true,.w A e f g,.p (bU prog 140 [aJ.cur [D.J 1 A,I c,I d] [D.J 1 A,I e,I f],aJ.ro (.one (.J 1 [[I (-1)],[I 0],[I 1000000000],[I 1000000001]]))] (aT.vals [al g]))])):
 bZ 278 [aJ.cur [D.J 1 A,I n,I p] [D.J 1 A,I e,I f]] (aT.vals [.agg (cI k C l m g b)]):=
 h.b0
def LK(C:ai)(b:Int)(A:ai)(c d e f g i a:Int):aE:=bi 44 [(0,aS 1000000000),(2,aS 2),(3,aS 3),(4,aS 1000000000),(5,aB.aD (bd.agg [aq b,ay 60001 5 A,aq c,aq d,aq e,aq f])),(6,aS 1000000000),(7,aZ a),(8,.aD (.one (.bg (a==0)))),(9,.aD (.one (.bg (a==0)))),(14,.aD (.one (.bg (a==1)))),(15,.aD (.one (.bg (a==1)))),(20,.aD (.one (.bg (a==2)))),(21,.aD (.one (.bg (a==2)))),(26,.aD (.one (.bg (a==3)))),(27,.aD (.one (.bg (a==3))))] [(3,[aq b,ay 60001 5 A,aq c,aq d,aq e,aq f]),(2,[aq 0,.v (aO),aq 0,aq 0,aq 0,aq 0]),(1000000000,[.db 1000000100 1 C,aq g,aq i])]
def LL(P:Program)(W:Array Oper)(A:ai)(n:Int)(C:ai)(o p a b c d e f g i j k l m:Int):aE:=
 mf P W [[],[],[],[.dq [some [D.J 1 A,I f,I g]] (aT.vals [.agg (bu i j k l m)])],[],[],[],[]] (LK A n C o p a b c d e)
theorem afX{A:ai}{n:Int}{C:ai}{o p i j f g k l m a b c d e:Int}
  (h:cB [bU prog 178 [aJ.cur [D.J 1 A,I f,I g] [D.J 1 A,I l,I m]] (aT.vals [.agg (bu a b c d e)]),(C.length+[(bu a b c d e)].length)*40<=140737488355328,C.length+[(bu a b c d e)].length<=9223372036854775807,Flat [(bu a b c d e)]]):
  dY prog (cG f278 10) (LK A n C o p i j f g k) (LL prog (cG f278 10) A n C o p i j f g k l m a b c d e):=
 .mS [0,0,0,1,0,3,0,0] h
theorem afY(h:ak (y' A a0 cf d C e f b c g i a dg d0 [.b (a==0) false,.b (a==1) false,.b (a==2) false,.b (a==3) true,.a (.h7 (LL prog (cG f278 10) A d C e f b c g i a j k l m n o p)),.p (dY prog (cG f278 10) (LK A d C e f b c g i a) (LL prog (cG f278 10) A d C e f b c g i a j k l m n o p))])):
 bZ 278 [aJ.cur [D.J 1 A,I dg,I d0] [D.J 1 A,I j,I k]] (aT.vals [.agg (cI d (C++[(bu l m n o p)]) e f b c)]):=
 h.b0
theorem afZ(h:ak (y' A d e f C g i k l b c a j m [.b (a==0) false,.b (a==1) false,.b (a==2) false,.b (a==3) false,.b (a==4) true,.v (1000000000-(C.length:Int))])):
 bZ 278 [aJ.cur [D.J 1 A,I j,I m] [D.J 1 A,I b,I c]] (aT.vals [.agg (cI f C g i 1000000000 (1000000000-(C.length:Int)))]):=
 h.b0
theorem af0(h:ak (y' A f g i C j k b c d e a l m [.b (a==0) false,.b (a==1) false,.b (a==2) false,.b (a==3) false,.b (a==4) false])):
 bZ 278 [aJ.cur [D.J 1 A,I l,I m] [D.J 1 A,I d,I e]] (aT.vals [.agg (cI i C j k b c)]):=
 h.b0
def Fw(A:ai)(a b c d e f g i j:Int)(l:List O):List O:=.a (.dq [some [D.J 1 A,I a,I b]] (aT.vals [.agg (bu c d e f g)]))::.p (bU prog 271 [aJ.cur [D.J 1 A,I i,I j] [D.J 1 A,I a,I b]] (aT.vals [.agg (bu c d e f g)]))::l
theorem af1(h:ak (Fw A m n cf b p c d o a0 [.b (decide ((C.length:Int)>0)) true,.w A e f g,.y A i j q,.k A 138 m n e f (C.length:Int) g,.m A 136 e f i j 4 q,.b q true,.w A k l a,.k A 138 i j k l 2 a,.v (5+a)])):
 bZ 350 [aJ.cur [D.J 1 A,I o,I a0] [D.J 1 A,I k,I l],aJ.ro (.agg (bS C dg d0))] (aT.vals [.agg (bu g b (5+a) c d)]):=
 h.b0
theorem af2(h:ak (Fw A k l o a b c d m n [.b (decide ((C.length:Int)>0)) true,.w A e f g,.y A i j q,.k A 138 k l e f (C.length:Int) g,.m A 136 e f i j 4 q,.b q false])):
 bZ 350 [aJ.cur [D.J 1 A,I m,I n] [D.J 1 A,I i,I j],aJ.ro (.agg (bS C p a0))] (aT.vals [.agg (bu g a b c d)]):=
 h.b0
theorem af3(h:ak (Fw A j k l b n c d m o [.b (decide ((C.length:Int)>0)) false,.y A e f q,.m A 136 j k e f 4 q,.b q true,.w A g i a,.k A 138 e f g i 2 a,.v (5+a)])):
 bZ 350 [aJ.cur [D.J 1 A,I m,I o] [D.J 1 A,I g,I i],aJ.ro (.agg (bS C p a0))] (aT.vals [.agg (bu l b (5+a) c d)]):=
 h.b0
theorem af4(h:ak (Fw A g i j a b c d k l [.b (decide ((C.length:Int)>0)) false,.y A e f q,.m A 136 g i e f 4 q,.b q false])):
 bZ 350 [aJ.cur [D.J 1 A,I k,I l] [D.J 1 A,I e,I f],aJ.ro (.agg (bS C m n))] (aT.vals [.agg (bu j a b c d)]):=
 h.b0
def qn(A:ai)(a:Int)(E F G H aw K L M C:ai)(b c d e:Int):aE:=bi 48 [(0,aS 1000000000),(3,aS 3),(4,aS 4),(5,aS 5),(6,aZ a)] [(5,[ay 900006000 5 E,ay 900006001 5 F,ay 900006002 5 G,ay 900006003 4 H,ay 900006004 1 aw,ay 900006005 1 K,ay 900006006 1 L,ay 900006007 2 M]),(4,[.v (aO),.v (aO),.v (aO),.v (aO),.v (aO),.v (aO),.v (aO),.v (aO)]),(3,[.J .free 4 C,aq b,aq c]),(1000000000,[.db 1000000100 1 A,aq d,aq e])]
def Fv(A:ai)(a b c d e f g i j:Int)(l:List O):List O:=Ft A a b c d e (.b (decide (f<c)) true::.w A g i j::.k A 138 a b g i 5 j::l)
theorem af5(h:ak (Fv A d e f k l a g i j [.b (j==0) true,.r 348 [.agg (bS C b c),.agg (bz E F G H aw K L M)] [.agg (bz N Q R S bO V X Y),aI q],.u a])):
 bb (az f326 0) (qn A a E F G H aw K L M C b c k l) .normal (qn A (a+1) N Q R S bO V X Y C b c g i):=
 h.lu [(6000000,900006000,5),(6000001,900006001,5),(6000002,900006002,5),(6000003,900006003,4),(6000004,900006004,1),(6000005,900006005,1),(6000006,900006006,1),(6000007,900006007,2)] [6,0,3,5,4] [5,4,3,1000000000]
def LM(A:ai)(b:Int)(E F G H aw K L M C:ai)(d e c f g a:Int):aE:=bi 48 [(0,aS 1000000000),(3,aS 3),(4,aS 4),(5,aS 5),(6,aZ b),(10,aZ b),(11,aS 1000000000),(12,aZ c),(13,.aD (.one (.bg (decide (b<c))))),(16,aS 1000000000),(17,aZ a),(24,.aD (.one (.bg (a==0)))),(25,.aD (.one (.bg (a==0)))),(32,.aD (.one (.bg (a==1)))),(33,.aD (.one (.bg (a==1))))] [(5,[ay 900006000 5 E,ay 900006001 5 F,ay 900006002 5 G,ay 900006003 4 H,ay 900006004 1 aw,ay 900006005 1 K,ay 900006006 1 L,ay 900006007 2 M]),(4,[.v (aO),.v (aO),.v (aO),.v (aO),.v (aO),.v (aO),.v (aO),.v (aO)]),(3,[.J .free 4 C,aq d,aq e]),(1000000000,[.db 1000000100 1 A,aq f,aq g])]
def LN(P:Program)(W:Array Oper)(A:ai)(a:Int)(C E F G H aw K L M:ai)(b c d e f g i j k l m n o:Int)(N Q R S bO V X Y:ai):aE:=
 mf P W [[],[],[],[.dq [some [D.J 1 A,I i,I j],none] (aT.vals [.agg (bu k l m n o)])],[.res [.agg (bz N Q R S bO V X Y)]],[]] (LM A a C E F G H aw K L M b c d e f g)
theorem af6{A:ai}{k:Int}{C E F G H aw K L M:ai}{a b l c d m n o e f g i j:Int}{N Q R S bO V X Y:ai}
  (h:cB [bU prog 350 [aJ.cur [D.J 1 A,I c,I d] [D.J 1 A,I n,I o],aJ.ro (.agg (bS M a b))] (aT.vals [.agg (bu e f g i j)]),aK 349 [.agg (bz C E F G H aw K L),.agg (bu e f g i j)] [.agg (bz N Q R S bO V X Y)]]):
  dY prog (cG f326 10) (LM A k C E F G H aw K L M a b l c d m) (LN prog (cG f326 10) A k C E F G H aw K L M a b l c d m n o e f g i j N Q R S bO V X Y):=
 .mS [0,0,0,1,1,0] h
theorem af7(h:ak (Fv A i j c m n a f g b [.b (b==0) false,.b (b==1) true,.a (.h7 (LN prog (cG f326 10) A a E F G H aw K L M C d e c f g b k l o p a0 cf dg N Q R S bO V X Y)),.p (dY prog (cG f326 10) (LM A a E F G H aw K L M C d e c f g b) (LN prog (cG f326 10) A a E F G H aw K L M C d e c f g b k l o p a0 cf dg N Q R S bO V X Y)),.u a])):
 bb (az f326 0) (qn A a E F G H aw K L M C d e m n) .normal (qn A (a+1) N Q R S bO V X Y C d e k l):=
 h.lu [(6000000,900006000,5),(6000001,900006001,5),(6000002,900006002,5),(6000003,900006003,4),(6000004,900006004,1),(6000005,900006005,1),(6000006,900006006,1),(6000007,900006007,2)] [6,0,3,5,4] [5,4,3,1000000000]
theorem Uo(h:ak (Fv A c d e k l b f g a [.b (a==0) false,.b (a==1) false,.b (a==2) true,.r 351 [.agg (bz C E F G H aw K L)] [.agg (bz N Q R S bO V X Y),.agg (bu m n o p a0),aI q],.u b])):
 bb (az f326 0) (qn A b C E F G H aw K L M i j k l) .normal (qn A (b+1) N Q R S bO V X Y M i j f g):=
 h.lu [(6000000,900006000,5),(6000001,900006001,5),(6000002,900006002,5),(6000003,900006003,4),(6000004,900006004,1),(6000005,900006005,1),(6000006,900006006,1),(6000007,900006007,2)] [6,0,3,5,4] [5,4,3,1000000000]
theorem af8(h:ak (Fv A e f g k l b i j a [.b (a==0) false,.b (a==1) false,.b (a==2) false,.r 48 [.agg (bS C c d),.agg (bz E F G H aw K L M)] [.agg (bz N Q R S bO V X Y),aI q],.u b])):
 bb (az f326 0) (qn A b E F G H aw K L M C c d k l) .normal (qn A (b+1) N Q R S bO V X Y C c d i j):=
 h.lu [(6000000,900006000,5),(6000001,900006001,5),(6000002,900006002,5),(6000003,900006003,4),(6000004,900006004,1),(6000005,900006005,1),(6000006,900006006,1),(6000007,900006007,2)] [6,0,3,5,4] [5,4,3,1000000000]
def LO(A C E F G H aw K L:ai)(b a:Int):aE:=bi 48 [(0,aS 1000000000),(4,aS 4),(5,aS 5)] [(5,[ay 900006000 5 C,ay 900006001 5 E,ay 900006002 5 F,ay 900006003 4 G,ay 900006004 1 H,ay 900006005 1 aw,ay 900006006 1 K,ay 900006007 2 L]),(4,[.v (aO),.v (aO),.v (aO),.v (aO),.v (aO),.v (aO),.v (aO),.v (aO)]),(1000000000,[.db 1000000100 1 A,aq b,aq a])]
theorem af9(h:ak (Ft A a b c e f [.b (decide (d<c)) false])):
 bb (az f326 0) (qn A d C E F G H aw K L M g i e f) (.exit 0) (LO A C E F G H aw K L a b):=
 h.a' [5,4,0] [5,4,1000000000]
theorem aga(h:ak [.a (.dq [some [D.J 1 A,I a,I b]] (aT.vals [a7 5 C])),.p (bU prog 119 [aJ.cur [D.J 1 A,I c,I d] [D.J 1 A,I a,I b]] (aT.vals [a7 5 C])),.r 124 [a7 5 C] [.agg (bz E F G H aw K L M)],.l [(6000000,900006000,5),(6000001,900006001,5),(6000002,900006002,5),(6000003,900006003,4),(6000004,900006004,1),(6000005,900006005,1),(6000006,900006006,1),(6000007,900006007,2)] [6,0,3,5,4] [5,4,3,1000000000] (az f326 0) (qn A 0 E F G H aw K L M Z g i a b) (.exit 0) (LO A N Q R S bO V X Y e f)]):
 bZ 326 [aJ.cur [D.J 1 A,I c,I d] [D.J 1 A,I e,I f],aJ.ro (.agg (bS Z g i))] (aT.vals [.agg (bz N Q R S bO V X Y)]):=
 h.b0
def LP(M A:ai)(b c:Int)(F G H aw K L C E:ai)(d e a:Int):aE:=bi 80 [(0,aS 1000000000),(1,aB.aD (bd.agg [.J .free 4 A,aq b,aq c])),(3,aS 3),(4,aS 4),(5,aS 5),(6,aS 1000000000),(7,aB.aD (bd.agg [.J .free 4 A,aq b,aq c])),(8,aB.aD (bd.agg [ay 90000 5 F,ay 90001 5 G,ay 90002 5 H,ay 90003 4 aw,ay 90004 1 K,ay 90005 1 L,ay 90006 1 C,ay 90007 2 E])),(9,aS 1000000000),(10,aZ a),(11,.aD (.one (.bg (a==0)))),(12,.aD (.one (.bg (a==0))))] [(5,[ay 90000 5 F,ay 90001 5 G,ay 90002 5 H,ay 90003 4 aw,ay 90004 1 K,ay 90005 1 L,ay 90006 1 C,ay 90007 2 E]),(4,[.v (aO),.v (aO),.v (aO),.v (aO),.v (aO),.v (aO),.v (aO),.v (aO)]),(3,[.J .free 4 A,aq b,aq c]),(1000000000,[.db 1000000100 1 M,aq d,aq e])]
def LQ(P:Program)(W:Array Oper)(A L:ai)(l m:Int)(M C E F G H aw K:ai)(a b c d e f g i j k:Int):aE:=
 mf P W [[],[],[],[.dq [some [D.J 1 A,I d,I e]] (aT.vals [.agg (bu f g i j k)])],[],[],[],[]] (LP A L l m M C E F G H aw K a b c)
theorem agb{A M:ai}{l m:Int}{C E F G H aw K L:ai}{f g i j k a b c d e:Int}
  (h:cB [bU prog 178 [aJ.cur [D.J 1 A,I f,I g] [D.J 1 A,I j,I k]] (aT.vals [.agg (bu a b c d e)]),(C.length+[(bu a b c d e)].length)*40<=140737488355328,C.length+[(bu a b c d e)].length<=9223372036854775807,Flat [(bu a b c d e)]]):
  dY prog (cG f277 4) (LP A M l m C E F G H aw K L f g i) (LQ prog (cG f277 4) A M l m C E F G H aw K L f g i j k a b c d e):=
 .mS [0,0,0,1,0,3,0,0] h
def L5(A:ai)(a b:Int)(C E F G H aw K L:ai)(c d e f g:Int)(M:ai)(i j:Int)(l:List O):List O:=.a (.dq [some [D.J 1 A,I a,I b],none] (aT.vals [.agg (bz C E F G H aw K L)]))::.w A c d e::.p (bU prog 326 [aJ.cur [D.J 1 A,I f,I g] [D.J 1 A,I a,I b],aJ.ro (.agg (bS M i j))] (aT.vals [.agg (bz C E F G H aw K L)]))::.k A 138 a b c d 16 e::l
theorem afC(h:ak (L5 A n o L C E F G H aw K b c a p a0 M d e [.b (a==0) true,.a (.h7 (LQ prog (cG f277 4) A M d e L C E F G H aw K b c a f g i j k l m)),.p (dY prog (cG f277 4) (LP A M d e L C E F G H aw K b c a) (LQ prog (cG f277 4) A M d e L C E F G H aw K b c a f g i j k l m))])):
 bZ 277 [aJ.cur [D.J 1 A,I p,I a0] [D.J 1 A,I f,I g],aJ.ro (.agg (bS M d e))] (aT.vals [.agg (bz (L++[(bu i j k l m)]) C E F G H aw K)]):=
 h.b0
def LR(M A:ai)(b c:Int)(F G H aw K L C E:ai)(d e a:Int):aE:=bi 80 [(0,aS 1000000000),(1,aB.aD (bd.agg [.J .free 4 A,aq b,aq c])),(3,aS 3),(4,aS 4),(5,aS 5),(6,aS 1000000000),(7,aB.aD (bd.agg [.J .free 4 A,aq b,aq c])),(8,aB.aD (bd.agg [ay 90000 5 F,ay 90001 5 G,ay 90002 5 H,ay 90003 4 aw,ay 90004 1 K,ay 90005 1 L,ay 90006 1 C,ay 90007 2 E])),(9,aS 1000000000),(10,aZ a),(11,.aD (.one (.bg (a==0)))),(12,.aD (.one (.bg (a==0)))),(20,.aD (.one (.bg (a==1)))),(21,.aD (.one (.bg (a==1))))] [(5,[ay 90000 5 F,ay 90001 5 G,ay 90002 5 H,ay 90003 4 aw,ay 90004 1 K,ay 90005 1 L,ay 90006 1 C,ay 90007 2 E]),(4,[.v (aO),.v (aO),.v (aO),.v (aO),.v (aO),.v (aO),.v (aO),.v (aO)]),(3,[.J .free 4 A,aq b,aq c]),(1000000000,[.db 1000000100 1 M,aq d,aq e])]
def LS(P:Program)(W:Array Oper)(A L:ai)(l m:Int)(M C E F G H aw K:ai)(a b c d e f g i j k:Int):aE:=
 mf P W [[],[],[],[.dq [some [D.J 1 A,I d,I e]] (aT.vals [.agg (bu f g i j k)])],[],[],[],[]] (LR A L l m M C E F G H aw K a b c)
theorem afD{A L:ai}{l m:Int}{M E C F G H aw K:ai}{f g i j k a b c d e:Int}
  (h:cB [bU prog 271 [aJ.cur [D.J 1 A,I f,I g] [D.J 1 A,I j,I k]] (aT.vals [.agg (bu a b c d e)]),(C.length+[(bu a b c d e)].length)*40<=140737488355328,C.length+[(bu a b c d e)].length<=9223372036854775807,Flat [(bu a b c d e)]]):
  dY prog (cG f277 6) (LR A L l m M E C F G H aw K f g i) (LS prog (cG f277 6) A L l m M E C F G H aw K f g i j k a b c d e):=
 .mS [0,0,0,1,0,3,0,0] h
theorem afE(h:ak (L5 A n o L C E F G H aw K b c a p a0 M d e [.b (a==0) false,.b (a==1) true,.a (.h7 (LS prog (cG f277 6) A M d e L C E F G H aw K b c a f g i j k l m)),.p (dY prog (cG f277 6) (LR A M d e L C E F G H aw K b c a) (LS prog (cG f277 6) A M d e L C E F G H aw K b c a f g i j k l m))])):
 bZ 277 [aJ.cur [D.J 1 A,I p,I a0] [D.J 1 A,I f,I g],aJ.ro (.agg (bS M d e))] (aT.vals [.agg (bz L C (E++[(bu i j k l m)]) F G H aw K)]):=
 h.b0
def LU(M A:ai)(b c:Int)(F G H aw K L C E:ai)(d e a:Int):aE:=bi 80 [(0,aS 1000000000),(1,aB.aD (bd.agg [.J .free 4 A,aq b,aq c])),(3,aS 3),(4,aS 4),(5,aS 5),(6,aS 1000000000),(7,aB.aD (bd.agg [.J .free 4 A,aq b,aq c])),(8,aB.aD (bd.agg [ay 90000 5 F,ay 90001 5 G,ay 90002 5 H,ay 90003 4 aw,ay 90004 1 K,ay 90005 1 L,ay 90006 1 C,ay 90007 2 E])),(9,aS 1000000000),(10,aZ a),(11,.aD (.one (.bg (a==0)))),(12,.aD (.one (.bg (a==0)))),(20,.aD (.one (.bg (a==1)))),(21,.aD (.one (.bg (a==1)))),(29,.aD (.one (.bg (a==2)))),(30,.aD (.one (.bg (a==2))))] [(5,[ay 90000 5 F,ay 90001 5 G,ay 90002 5 H,ay 90003 4 aw,ay 90004 1 K,ay 90005 1 L,ay 90006 1 C,ay 90007 2 E]),(4,[.v (aO),.v (aO),.v (aO),.v (aO),.v (aO),.v (aO),.v (aO),.v (aO)]),(3,[.J .free 4 A,aq b,aq c]),(1000000000,[.db 1000000100 1 M,aq d,aq e])]
def LV(P:Program)(W:Array Oper)(A L:ai)(g i:Int)(M C E F G H aw K:ai)(a b c d e f:Int):aE:=
 mf P W [[],[],[],[.dq [some [D.J 1 A,I d,I e],none] (aT.vals [al f])],[.own],[],[]] (LU A L g i M C E F G H aw K a b c)
theorem afF{C L:ai}{g i:Int}{M E F G A H aw K:ai}{b c d e f a:Int}
  (h:cB [bU prog 138 [aJ.cur [D.J 1 C,I b,I c] [D.J 1 C,I e,I f],aJ.ro (al 4)] (aT.vals [al a]),(0:Int)<=none.getD 0,none.getD 0<=(some a).getD (A.length:Int),(some a).getD (A.length:Int)<=(A.length:Int)]):
  dY prog (cG f277 8) (LU C L g i M E F G A H aw K b c d) (LV prog (cG f277 8) C L g i M E F G A H aw K b c d e f a):=
 .mS [0,0,0,1,3,0,0] h
def Fx(A:ai)(a b:Int)(C E F G H aw K L:ai)(c d e f g:Int)(M:ai)(i j:Int)(l:List O):List O:=L5 A a b C E F G H aw K L c d e f g M i j (.b (e==0) false::.b (e==1) false::l)
theorem afG(h:ak (Fx A j k L E F G C H aw K b c a l m M d e [.b (a==2) true,.a (.h7 (LV prog (cG f277 8) A M d e L E F G C H aw K b c a f g i)),.p (dY prog (cG f277 8) (LU A M d e L E F G C H aw K b c a) (LV prog (cG f277 8) A M d e L E F G C H aw K b c a f g i))])):
 bZ 277 [aJ.cur [D.J 1 A,I l,I m] [D.J 1 A,I f,I g],aJ.ro (.agg (bS M d e))] (aT.vals [.agg [D.J 5 L,D.J 5 E,D.J 5 F,D.J 4 G,D.J 1 (List.take (((some i).getD (C.length:Int)).toNat-0) (List.drop 0 C)),D.J 1 H,D.J 1 aw,D.J 2 K]]):=
 h.b0
def Up(M A:ai)(b c:Int)(F G H aw K L C E:ai)(d e a:Int):aE:=bi 80 [(0,aS 1000000000),(1,aB.aD (bd.agg [.J .free 4 A,aq b,aq c])),(3,aS 3),(4,aS 4),(5,aS 5),(6,aS 1000000000),(7,aB.aD (bd.agg [.J .free 4 A,aq b,aq c])),(8,aB.aD (bd.agg [ay 90000 5 F,ay 90001 5 G,ay 90002 5 H,ay 90003 4 aw,ay 90004 1 K,ay 90005 1 L,ay 90006 1 C,ay 90007 2 E])),(9,aS 1000000000),(10,aZ a),(11,.aD (.one (.bg (a==0)))),(12,.aD (.one (.bg (a==0)))),(20,.aD (.one (.bg (a==1)))),(21,.aD (.one (.bg (a==1)))),(29,.aD (.one (.bg (a==2)))),(30,.aD (.one (.bg (a==2)))),(37,.aD (.one (.bg (a==3)))),(38,.aD (.one (.bg (a==3))))] [(5,[ay 90000 5 F,ay 90001 5 G,ay 90002 5 H,ay 90003 4 aw,ay 90004 1 K,ay 90005 1 L,ay 90006 1 C,ay 90007 2 E]),(4,[.v (aO),.v (aO),.v (aO),.v (aO),.v (aO),.v (aO),.v (aO),.v (aO)]),(3,[.J .free 4 A,aq b,aq c]),(1000000000,[.db 1000000100 1 M,aq d,aq e])]
def K4(M C:ai)(c d:Int)(G H aw K A L E F:ai)(a e f b:Int):aE:=bi 80 [(0,aS 1000000000),(1,aB.aD (bd.agg [.J .free 4 C,aq c,aq d])),(3,aS 3),(4,aS 4),(5,aS 5),(6,aS 1000000000),(7,aB.aD (bd.agg [.J .free 4 C,aq c,aq d])),(8,aB.aD (bd.agg [ay 90000 5 G,ay 90001 5 H,ay 90002 5 aw,ay 90003 4 K,ay 90004 1 (A.set 0 [I b]),ay 90005 1 L,ay 90006 1 E,ay 90007 2 F])),(9,aS 1000000000),(10,aZ a),(11,.aD (.one (.bg (a==0)))),(12,.aD (.one (.bg (a==0)))),(20,.aD (.one (.bg (a==1)))),(21,.aD (.one (.bg (a==1)))),(29,.aD (.one (.bg (a==2)))),(30,.aD (.one (.bg (a==2)))),(37,.aD (.one (.bg (a==3)))),(38,.aD (.one (.bg (a==3)))),(39,.aD (.one (.ptr 5 4))),(40,aB.aD (bd.one (ay 90004 1 (A.set 0 [I b])))),(41,aS 1000000000),(42,.aD (.one (.J (.own 42) 1 [[I 1000000],[I 1000001],[I (-1000001)]]))),(43,aZ b),(44,.aD (.one (.ep (Tag.own 90004) 1 (A.set 0 [I b]) 0 0)))] [(5,[ay 90000 5 G,ay 90001 5 H,ay 90002 5 aw,ay 90003 4 K,ay 90004 1 (A.set 0 [I b]),ay 90005 1 L,ay 90006 1 E,ay 90007 2 F]),(4,[.v (aO),.v (aO),.v (aO),.v (aO),.v (aO),.v (aO),.v (aO),.v (aO)]),(3,[.J .free 4 C,aq c,aq d]),(1000000000,[.db 1000000100 1 M,aq e,aq f])]
theorem afH{A L:ai}{g i:Int}{M E F G C H aw K:ai}{d e f a b c:Int}{d25:D}
  (h:cB [bU prog 140 [aJ.cur [D.J 1 A,I d,I e] [D.J 1 A,I a,I b],aJ.ro (.one (.J 1 [[I 1000000],[I 1000001],[I (-1000001)]]))] (aT.vals [al c]),(0:Int)<=0,0<(C.length:Int),C[0]?=some [d25]]):
  dY prog (cG f277 10) (Up A L g i M E F G C H aw K d e f) (K4 A L g i M E F G C H aw K f a b c):=
 .of [[],[],[],[],[.dq [some [D.J 1 A,I a,I b],none] (aT.vals [al c])],[],[.el [d25]]] [[],[],[],[],[bU prog 140 [aJ.cur [D.J 1 A,I d,I e] [D.J 1 A,I a,I b],aJ.ro (.one (.J 1 [[I 1000000],[I 1000001],[I (-1000001)]]))] (aT.vals [al c])],[(0:Int)<=0,0<(C.length:Int)],[C[0]?=some [d25]]] (by kernel_rfl) (by kernel_rfl) (by kernel_rfl) h
theorem afI(h:ak (Fx A j k L C E F G H aw K d e a l m M b c [.b (a==2) false,.b (a==3) true,.a (.h7 (K4 A M b c L C E F G H aw K a f g i)),.p (dY prog (cG f277 10) (Up A M b c L C E F G H aw K d e a) (K4 A M b c L C E F G H aw K a f g i))])):
 bZ 277 [aJ.cur [D.J 1 A,I l,I m] [D.J 1 A,I f,I g],aJ.ro (.agg (bS M b c))] (aT.vals [.agg (bz L C E F (G.set 0 [I i]) H aw K)]):=
 h.b0
def K5(M A:ai)(b c:Int)(F G H aw K L C E:ai)(d e a:Int):aE:=bi 80 [(0,aS 1000000000),(1,aB.aD (bd.agg [.J .free 4 A,aq b,aq c])),(3,aS 3),(4,aS 4),(5,aS 5),(6,aS 1000000000),(7,aB.aD (bd.agg [.J .free 4 A,aq b,aq c])),(8,aB.aD (bd.agg [ay 90000 5 F,ay 90001 5 G,ay 90002 5 H,ay 90003 4 aw,ay 90004 1 K,ay 90005 1 L,ay 90006 1 C,ay 90007 2 E])),(9,aS 1000000000),(10,aZ a),(11,.aD (.one (.bg (a==0)))),(12,.aD (.one (.bg (a==0)))),(20,.aD (.one (.bg (a==1)))),(21,.aD (.one (.bg (a==1)))),(29,.aD (.one (.bg (a==2)))),(30,.aD (.one (.bg (a==2)))),(37,.aD (.one (.bg (a==3)))),(38,.aD (.one (.bg (a==3)))),(45,.aD (.one (.bg (a==4)))),(46,.aD (.one (.bg (a==4))))] [(5,[ay 90000 5 F,ay 90001 5 G,ay 90002 5 H,ay 90003 4 aw,ay 90004 1 K,ay 90005 1 L,ay 90006 1 C,ay 90007 2 E]),(4,[.v (aO),.v (aO),.v (aO),.v (aO),.v (aO),.v (aO),.v (aO),.v (aO)]),(3,[.J .free 4 A,aq b,aq c]),(1000000000,[.db 1000000100 1 M,aq d,aq e])]
def K6(P:Program)(W:Array Oper)(A L:ai)(g i:Int)(M C E F G H aw K:ai)(a b c d e f:Int):aE:=
 mf P W [[],[],[],[.dq [some [D.J 1 A,I d,I e],none] (aT.vals [al f])],[],[],[],[],[],[]] (K5 A L g i M C E F G H aw K a b c)
theorem afJ{A L:ai}{g i:Int}{M E F G H aw K C:ai}{b c d e f a:Int}
  (h:cB [bU prog 138 [aJ.cur [D.J 1 A,I b,I c] [D.J 1 A,I e,I f],aJ.ro (al 6)] (aT.vals [al a]),bf .i64 (a-1),(C.length+[[I (a-1),B false]].length)*16<=140737488355328,C.length+[[I (a-1),B false]].length<=9223372036854775807,Flat [[I (a-1),B false]]]):
  dY prog (cG f277 12) (K5 A L g i M E F G H aw K C b c d) (K6 prog (cG f277 12) A L g i M E F G H aw K C b c d e f a):=
 .mS [0,0,0,1,1,0,0,3,0,0] h
theorem afK(h:ak (Fx A j k L C E F G H aw K b c a l m M d e [.b (a==2) false,.b (a==3) false,.b (a==4) true,.a (.h7 (K6 prog (cG f277 12) A M d e L C E F G H aw K b c a f g i)),.p (dY prog (cG f277 12) (K5 A M d e L C E F G H aw K b c a) (K6 prog (cG f277 12) A M d e L C E F G H aw K b c a f g i))])):
 bZ 277 [aJ.cur [D.J 1 A,I l,I m] [D.J 1 A,I f,I g],aJ.ro (.agg (bS M d e))] (aT.vals [.agg (bz L C E F G H aw (K++[[I (i-1),B false]]))]):=
 h.b0
def Fy(A:ai)(a b:Int)(C E F G H aw K L:ai)(c d e f g:Int)(M:ai)(i j:Int)(l:List O):List O:=Fx A a b C E F G H aw K L c d e f g M i j (.b (e==2) false::.b (e==3) false::.b (e==4) false::l)
theorem afL(h:ak (Fy A g i K C E F G H aw L b c a j k M l m [.b (a==5) true,.w A d e f,.k A 138 b c d e 2 f])):
 bZ 277 [aJ.cur [D.J 1 A,I j,I k] [D.J 1 A,I d,I e],aJ.ro (.agg (bS M l m))] (aT.vals [.agg [D.J 5 K,D.J 5 C,D.J 5 E,D.J 4 F,D.J 1 G,D.J 1 H,D.J 1 aw,D.J 2 [[I 1,B false],[I f,B true]]]]):=
 h.b0
theorem ahd(h:ak (Fy A d e L E F G H C aw K b c a f g M i j [.b (a==5) false,.b (a==6) true,.g C [[B true]] 1,.h [[B true]]])):
 bZ 277 [aJ.cur [D.J 1 A,I f,I g] [D.J 1 A,I b,I c],aJ.ro (.agg (bS M i j))] (aT.vals [.agg (bz L E F G H (C++[[B true]]) aw K)]):=
 h.b0
theorem ahe(h:ak (Fy A d e L E F C G H aw K b c a f g M i j [.b (a==5) false,.b (a==6) false,.b (a==7) true,.g C [[I 0,I 0,I 0,I 0]] 32,.h [[I 0,I 0,I 0,I 0]]])):
 bZ 277 [aJ.cur [D.J 1 A,I f,I g] [D.J 1 A,I b,I c],aJ.ro (.agg (bS M i j))] (aT.vals [.agg (bz L E F (C++[[I 0,I 0,I 0,I 0]]) G H aw K)]):=
 h.b0
theorem ahf(h:ak (Fy A d e L C E F G H aw K b c a f g M i j [.b (a==5) false,.b (a==6) false,.b (a==7) false])):
 bZ 277 [aJ.cur [D.J 1 A,I f,I g] [D.J 1 A,I b,I c],aJ.ro (.agg (bS M i j))] (aT.vals [.agg (bz L C E F G H aw K)]):=
 h.b0
def E6(H aw:ai)(c d e f:Int)(K G:ai)(a b:Int)(A C E F:ai)(q:Bool):aE:=bi 30 [(0,aS 1000000000),(2,aS 2),(3,aS 3),(4,.aD (.one (.bg q))),(5,aB.fM [bd.agg [ay 110000 4 G,aq a,aq b,ay 110003 8 A,ay 110004 6 C,ay 110005 5 E,ay 110006 3 F],bd.one (aC.bg q)]),(6,aS 1000000000),(7,aB.aD (bd.agg [ay 80000 4 aw,aq c,aq d])),(8,aS 1000000000),(9,aB.aD (bd.one (ay 100000 5 K))),(10,aB.fM [bd.agg [ay 110000 4 G,aq a,aq b,ay 110003 8 A,ay 110004 6 C,ay 110005 5 E,ay 110006 3 F],bd.one (aC.bg q)]),(11,aB.aD (bd.agg [ay 110000 4 G,aq a,aq b,ay 110003 8 A,ay 110004 6 C,ay 110005 5 E,ay 110006 3 F])),(12,.aD (.one (.bg q)))] [(3,[ay 110000 4 G,aq a,aq b,ay 110003 8 A,ay 110004 6 C,ay 110005 5 E,ay 110006 3 F]),(2,[.v (aO),aq 0,aq 0,.v (aO),.v (aO),.v (aO),.v (aO)]),(1000000000,[.db 1000000100 1 H,aq e,aq f])]
def BG(P:Program)(W:Array Oper)(A bO:ai)(j k a b:Int)(C E:ai)(c d:Int)(F G H aw:ai)(q:Bool)(e f:Int)(K L:ai)(g i:Int)(M N Q R S:ai):aE:=
 mf P W [[],[],[.dq [some [D.J 1 A,I e,I f],none] (aT.vals [a7 3 K])],[.res [.agg (cl L g i M N Q R),a7 1 S]],[],[],[],[]] (E6 A bO j k a b C E c d F G H aw q)
theorem Uq{A bO:ai}{j k a b:Int}{K C:ai}{c d:Int}{E F G H:ai}{q:Bool}{e f:Int}{aw L:ai}{g i:Int}{M N Q R S:ai}
  (h:cB [bU prog 120 [aJ.cur [D.J 1 A,I a,I b] [D.J 1 A,I e,I f],aJ.ro (al 40)] (aT.vals [a7 3 aw]),aK 15 [.agg (cl C c d E F G H),a7 3 aw] [.agg (cl L g i M N Q R),a7 1 S]]):
  dY prog (cG f166 2) (E6 A bO j k a b K C c d E F G H q) (BG prog (cG f166 2) A bO j k a b K C c d E F G H q e f aw L g i M N Q R S):=
 .mS [0,0,1,1,0,0,0,0] h
def K7(Q R:ai)(e i:Int)(bO K:ai)(c d:Int)(L M A C:ai)(q:Bool)(S E:ai)(a b:Int)(F G H aw N:ai)(f g:Int)(r:Bool):aE:=bi 30 [(0,aS 1000000000),(2,aS 2),(3,aS 3),(4,.aD (.one (.bg q))),(5,aB.fM [bd.agg [ay 110000 4 K,aq c,aq d,ay 110003 8 L,ay 110004 6 M,ay 110005 5 A,ay 110006 3 C],bd.one (aC.bg q)]),(6,aS 1000000000),(7,aB.aD (bd.agg [ay 80000 4 R,aq e,aq i])),(8,aS 1000000000),(9,aB.aD (bd.one (ay 100000 5 bO))),(10,aB.fM [bd.agg [ay 110000 4 K,aq c,aq d,ay 110003 8 L,ay 110004 6 M,ay 110005 5 A,ay 110006 3 C],bd.one (aC.bg q)]),(11,aB.aD (bd.agg [ay 110000 4 K,aq c,aq d,ay 110003 8 L,ay 110004 6 M,ay 110005 5 A,ay 110006 3 C])),(12,.aD (.one (.bg q))),(13,aB.fM [bd.agg [ay 180000 4 E,aq a,aq b,ay 180003 8 F,ay 180004 6 G,ay 180005 5 H,ay 180006 3 aw],bd.one (ay 180100 1 N)]),(14,aB.aD (bd.agg [ay 110000 4 K,aq c,aq d,ay 110003 8 L,ay 110004 6 M,ay 110005 5 A,ay 110006 3 C])),(15,aS 1000000000),(16,aB.aD (bd.one (ay 170000 3 S))),(17,aB.fM [bd.agg [ay 180000 4 E,aq a,aq b,ay 180003 8 F,ay 180004 6 G,ay 180005 5 H,ay 180006 3 aw],bd.one (ay 180100 1 N)]),(18,aB.aD (bd.agg [ay 180000 4 E,aq a,aq b,ay 180003 8 F,ay 180004 6 G,ay 180005 5 H,ay 180006 3 aw])),(19,aB.aD (bd.one (ay 180100 1 N))),(20,aS 1000000000),(21,.aD (.one (.bg r)))] [(3,[ay 180000 4 E,aq a,aq b,ay 180003 8 F,ay 180004 6 G,ay 180005 5 H,ay 180006 3 aw]),(2,[.v (aO),aq 0,aq 0,.v (aO),.v (aO),.v (aO),.v (aO)]),(1000000000,[.db 1000000100 1 Q,aq f,aq g])]
def K8(P:Program)(W:Array Oper)(A fu:ai)(n o:Int)(C E:ai)(a b:Int)(F G H aw:ai)(q:Bool)(K L:ai)(c d:Int)(M N Q R S:ai)(e f:Int)(r:Bool)(g i j:Int)(bO:ai)(k l:Int)(V X Y Z:ai)(m:Int):aE:=
 mf P W [[],[],[.dq [some [D.J 1 A,I g,I i],none] (aT.vals [al j])],[.res [.agg (cl bO k l V X Y Z),al m]],[],[],[],[]] (K7 A fu n o C E a b F G H aw q K L c d M N Q R S e f r)
theorem ahg{A fu:ai}{n o:Int}{aw K:ai}{f g:Int}{L M N Q:ai}{q:Bool}{R C:ai}{a b:Int}{E F G H S:ai}{c d:Int}{r:Bool}{i j e:Int}{bO:ai}{k l:Int}{V X Y Z:ai}{m:Int}
  (h:cB [bU prog 138 [aJ.cur [D.J 1 A,I c,I d] [D.J 1 A,I i,I j],aJ.ro (al 12)] (aT.vals [al e]),aK 16 [.agg (cl C a b E F G H),al e] [.agg (cl bO k l V X Y Z),al m]]):
  dY prog (cG f166 4) (K7 A fu n o aw K f g L M N Q q R C a b E F G H S c d r) (K8 prog (cG f166 4) A fu n o aw K f g L M N Q q R C a b E F G H S c d r i j e bO k l V X Y Z m):=
 .mS [0,0,1,1,0,0,0,0] h
def Vq(A:ai)(a b:Int)(C:ai)(c d e f:Int)(E:ai)(g i:Int)(F:ai)(j k:Int)(G H aw K:ai)(q:Bool)(l:List O):List O:=.a (.dq [some [D.J 1 A,I a,I b]] (aT.vals [.agg (bS C c d)]))::.a (.dq [some [D.J 1 A,I e,I f]] (aT.vals [a7 5 E]))::.p (bU prog 118 [aJ.cur [D.J 1 A,I g,I i] [D.J 1 A,I a,I b]] (aT.vals [.agg (bS C c d)]))::.p (bU prog 119 [aJ.cur [D.J 1 A,I a,I b] [D.J 1 A,I e,I f]] (aT.vals [a7 5 E]))::.r 14 [.agg (bS C c d),a7 5 E] [.agg (cl F j k G H aw K),aI q]::l
theorem ahh(h:ak (Vq A p dg E a b e f C d0 bE F c d G H aw K q [.a (.h7 (BG prog (cG f166 2) A E a b e f C F c d G H aw K q l m L M g i N Q R S bO)),.y A j k r,.p (dY prog (cG f166 2) (E6 A E a b e f C F c d G H aw K q) (BG prog (cG f166 2) A E a b e f C F c d G H aw K q l m L M g i N Q R S bO)),.m A 136 l m j k 4 r,.b r true,.a (.h7 (K8 prog (cG f166 4) A E a b C F c d G H aw K q L M g i N Q R S bO j k r n o f0 V a0 cf X Y Z fu g0)),.p (dY prog (cG f166 4) (K7 A E a b C F c d G H aw K q L M g i N Q R S bO j k r) (K8 prog (cG f166 4) A E a b C F c d G H aw K q L M g i N Q R S bO j k r n o f0 V a0 cf X Y Z fu g0))])):
 bZ 166 [aJ.cur [D.J 1 A,I d0,I bE] [D.J 1 A,I n,I o]] (aT.vals [.agg (cl V a0 cf X Y Z fu)]):=
 h.b0
theorem ahi(h:ak (Vq A n o E a b c d C p a0 F e f G H aw K q [.a (.h7 (BG prog (cG f166 2) A E a b c d C F e f G H aw K q g i S L j k M N Q R bO)),.y A l m r,.p (dY prog (cG f166 2) (E6 A E a b c d C F e f G H aw K q) (BG prog (cG f166 2) A E a b c d C F e f G H aw K q g i S L j k M N Q R bO)),.m A 136 g i l m 4 r,.b r false])):
 bZ 166 [aJ.cur [D.J 1 A,I p,I a0] [D.J 1 A,I l,I m]] (aT.vals [.agg (cl L j k M N Q R)]):=
 h.b0
def Ur(H C:ai)(b c:Int)(A E F G:ai)(d f e a:Int):aE:=bi 82 [(0,aS 1000000000),(2,aS 2),(3,aS 3),(4,aZ d),(5,aS 1000000000),(6,aB.aD (bd.agg [ay 70000 4 C,aq b,aq c,ay 70003 8 A,ay 70004 6 E,ay 70005 5 F,ay 70006 3 G])),(7,aS 1000000000),(8,.aD (.one (.ptr 3 3))),(9,aB.aD (bd.one (ay 70003 8 A))),(10,aZ (A.length:Int)),(11,aZ d),(12,aS 1000000000),(13,aZ a),(14,.aD (.one (.bg (a==0)))),(15,.aD (.one (.bg (a==0))))] [(3,[ay 70000 4 C,aq b,aq c,ay 70003 8 A,ay 70004 6 E,ay 70005 5 F,ay 70006 3 G]),(2,[.v (aO),aq 0,aq 0,.v (aO),.v (aO),.v (aO),.v (aO)]),(1000000000,[.db 1000000100 1 H,aq f,aq e])]
def K9(S M:ai)(b c:Int)(A N Q R:ai)(a d e f:Int)(C E F G H aw K L:ai):aE:=bi 82 [(0,aS 1000000000),(2,aS 2),(3,aS 3),(4,aZ a),(5,aS 1000000000),(6,aB.aD (bd.agg [ay 70000 4 M,aq b,aq c,ay 70003 8 (A.set a.toNat (bz C E F G H aw K L)),ay 70004 6 N,ay 70005 5 Q,ay 70006 3 R])),(7,aS 1000000000),(8,.aD (.one (.ptr 3 3))),(9,aB.aD (bd.one (ay 70003 8 (A.set a.toNat (bz C E F G H aw K L))))),(10,aZ (A.length:Int)),(11,aZ a),(12,aS 1000000000),(13,aZ d),(14,.aD (.one (.bg (d==0)))),(15,.aD (.one (.bg (d==0)))),(16,.aD (.one (.ptr 3 3))),(17,aB.aD (bd.one (ay 70003 8 (A.set a.toNat (bz C E F G H aw K L))))),(18,aZ a),(19,aS 1000000000),(20,aS 3),(21,aB.aD (bd.agg [ay 70000 4 M,aq b,aq c])),(22,aB.aD (bd.agg [.cc,.cc,.cc,.cc,.cc,.cc,.cc,.cc])),(23,.aD (.one (.ep (Tag.own 70003) 8 (A.set a.toNat (bz C E F G H aw K L)) a.toNat 0)))] [(3,[ay 70000 4 M,aq b,aq c,ay 70003 8 (A.set a.toNat (bz C E F G H aw K L)),ay 70004 6 N,ay 70005 5 Q,ay 70006 3 R]),(2,[.v (aO),aq 0,aq 0,.v (aO),.v (aO),.v (aO),.v (aO)]),(1000000000,[.db 1000000100 1 S,aq e,aq f])]
theorem ahj{A N:ai}{d e:Int}{C Q R S:ai}{a f g i b c:Int}{E F G H aw K L M:ai}{d32 d33 d34 d35 d36 d37 d38 d39:D}
  (h:cB [bU prog 277 [aJ.cur [D.J 1 A,I f,I g] [D.J 1 A,I b,I c],aJ.ro (.agg (bS N d e))] (aT.vals [.agg (bz E F G H aw K L M)]),0<=a,a<(C.length:Int),C[a.toNat]?=some [d32,d33,d34,d35,d36,d37,d38,d39]]):
  dY prog (cG f185 5) (Ur A N d e C Q R S a f g i) (K9 A N d e C Q R S a i b c E F G H aw K L M):=
 .of [[],[],[],[],[],[],[.dq [some [D.J 1 A,I b,I c],none] (aT.vals [.agg (bz E F G H aw K L M)])],[],[.el [d32,d33,d34,d35,d36,d37,d38,d39]]] [[],[],[],[],[],[],[bU prog 277 [aJ.cur [D.J 1 A,I f,I g] [D.J 1 A,I b,I c],aJ.ro (.agg (bS N d e))] (aT.vals [.agg (bz E F G H aw K L M)])],[0<=a,a<(C.length:Int)],[C[a.toNat]?=some [d32,d33,d34,d35,d36,d37,d38,d39]]] (by kernel_rfl) (by kernel_rfl) (by kernel_rfl) h
def Mg(A:ai)(a b:Int)(C:ai)(c d:Int)(E F G H:ai)(e f g i j k m n:Int)(l:List O):List O:=.a (.dq [some [D.J 1 A,I a,I b]] (aT.vals [.agg (cl C c d E F G H)]))::.w A e f g::.w A i j k::.p (bU prog 166 [aJ.cur [D.J 1 A,I m,I n] [D.J 1 A,I a,I b]] (aT.vals [.agg (cl C c d E F G H)]))::.k A 138 a b e f (E.length:Int) g::.k A 138 e f i j 20 k::l
theorem ahk(h:ak (Mg A l m H c d C E F G e f a g i b n o [.b (b==0) true,.a (.h7 (K9 A H c d C E F G a b j k aw K L M N Q R S)),.p (dY prog (cG f185 5) (Ur A H c d C E F G a g i b) (K9 A H c d C E F G a b j k aw K L M N Q R S))])):
 bZ 185 [aJ.cur [D.J 1 A,I n,I o] [D.J 1 A,I j,I k]] (aT.vals [.agg (cl H c d (C.set a.toNat (bz aw K L M N Q R S)) E F G)]):=
 h.b0
def Us(H C:ai)(b c:Int)(A E F G:ai)(d f e a:Int):aE:=bi 82 [(0,aS 1000000000),(2,aS 2),(3,aS 3),(4,aZ d),(5,aS 1000000000),(6,aB.aD (bd.agg [ay 70000 4 C,aq b,aq c,ay 70003 8 A,ay 70004 6 E,ay 70005 5 F,ay 70006 3 G])),(7,aS 1000000000),(8,.aD (.one (.ptr 3 3))),(9,aB.aD (bd.one (ay 70003 8 A))),(10,aZ (A.length:Int)),(11,aZ d),(12,aS 1000000000),(13,aZ a),(14,.aD (.one (.bg (a==0)))),(15,.aD (.one (.bg (a==0)))),(24,.aD (.one (.bg (a==1)))),(25,.aD (.one (.bg (a==1))))] [(3,[ay 70000 4 C,aq b,aq c,ay 70003 8 A,ay 70004 6 E,ay 70005 5 F,ay 70006 3 G]),(2,[.v (aO),aq 0,aq 0,.v (aO),.v (aO),.v (aO),.v (aO)]),(1000000000,[.db 1000000100 1 H,aq f,aq e])]
def K'(aw F:ai)(i j:Int)(E A G H:ai)(k g a l m b:Int)(C:ai)(c d e f:Int):aE:=bi 82 [(0,aS 1000000000),(2,aS 2),(3,aS 3),(4,aZ k),(5,aS 1000000000),(6,aB.aD (bd.agg [ay 70000 4 F,aq i,aq j,ay 70003 8 E,ay 70004 6 (A.set a.toNat (cI b C c d e f)),ay 70005 5 G,ay 70006 3 H])),(7,aS 1000000000),(8,.aD (.one (.ptr 3 3))),(9,aB.aD (bd.one (ay 70003 8 E))),(10,aZ (E.length:Int)),(11,aZ k),(12,aS 1000000000),(13,aZ g),(14,.aD (.one (.bg (g==0)))),(15,.aD (.one (.bg (g==0)))),(24,.aD (.one (.bg (g==1)))),(25,.aD (.one (.bg (g==1)))),(26,.aD (.one (.ptr 3 4))),(27,aB.aD (bd.one (ay 70004 6 (A.set a.toNat (cI b C c d e f))))),(28,aS 1000000000),(29,.aD (.one (.ptr 3 4))),(30,aB.aD (bd.one (ay 70004 6 (A.set a.toNat (cI b C c d e f))))),(31,aZ (A.length:Int)),(32,aZ a),(33,aS 1000000000),(34,aB.aD (bd.agg [aq b,.cc,aq c,aq d,aq e,aq f])),(35,.aD (.one (.ep (Tag.own 70004) 6 (A.set a.toNat (cI b C c d e f)) a.toNat 0)))] [(3,[ay 70000 4 F,aq i,aq j,ay 70003 8 E,ay 70004 6 (A.set a.toNat (cI b C c d e f)),ay 70005 5 G,ay 70006 3 H]),(2,[.v (aO),aq 0,aq 0,.v (aO),.v (aO),.v (aO),.v (aO)]),(1000000000,[.db 1000000100 1 aw,aq l,aq m])]
theorem ahl{A H:ai}{p a0:Int}{aw C F G:ai}{n l m o b c a d e f:Int}{E:ai}{g i j k:Int}{d34 d35 d36 d37 d38 d39:D}
  (h:cB [bU prog 138 [aJ.cur [D.J 1 A,I l,I m] [D.J 1 A,I b,I c],aJ.ro (al (C.length:Int))] (aT.vals [al a]),bU prog 278 [aJ.cur [D.J 1 A,I b,I c] [D.J 1 A,I d,I e]] (aT.vals [.agg (cI f E g i j k)]),0<=a,a<(C.length:Int),C[a.toNat]?=some [d34,d35,d36,d37,d38,d39]]):
  dY prog (cG f185 7) (Us A H p a0 aw C F G n l m o) (K' A H p a0 aw C F G n o a d e f E g i j k):=
 .of [[],[],[],[],[],[],[.dq [some [D.J 1 A,I b,I c],none] (aT.vals [al a])],[],[.dq [some [D.J 1 A,I d,I e]] (aT.vals [.agg (cI f E g i j k)])],[],[.el [d34,d35,d36,d37,d38,d39]]] [[],[],[],[],[],[],[bU prog 138 [aJ.cur [D.J 1 A,I l,I m] [D.J 1 A,I b,I c],aJ.ro (al (C.length:Int))] (aT.vals [al a])],[],[bU prog 278 [aJ.cur [D.J 1 A,I b,I c] [D.J 1 A,I d,I e]] (aT.vals [.agg (cI f E g i j k)])],[0<=a,a<(C.length:Int)],[C[a.toNat]?=some [d34,d35,d36,d37,d38,d39]]] (by kernel_rfl) (by kernel_rfl) (by kernel_rfl) h
theorem ahm(h:ak (Mg A cf dg H b c C E F G e f d g i a d0 bE [.b (a==0) false,.b (a==1) true,.a (.h7 (K' A H b c C E F G d a j k l m aw n o p a0)),.p (dY prog (cG f185 7) (Us A H b c C E F G d g i a) (K' A H b c C E F G d a j k l m aw n o p a0))])):
 bZ 185 [aJ.cur [D.J 1 A,I d0,I bE] [D.J 1 A,I k,I l]] (aT.vals [.agg (cl H b c C (E.set j.toNat (cI m aw n o p a0)) F G)]):=
 h.b0
def Ut(H C:ai)(b c:Int)(A E F G:ai)(d f e a:Int):aE:=bi 82 [(0,aS 1000000000),(2,aS 2),(3,aS 3),(4,aZ d),(5,aS 1000000000),(6,aB.aD (bd.agg [ay 70000 4 C,aq b,aq c,ay 70003 8 A,ay 70004 6 E,ay 70005 5 F,ay 70006 3 G])),(7,aS 1000000000),(8,.aD (.one (.ptr 3 3))),(9,aB.aD (bd.one (ay 70003 8 A))),(10,aZ (A.length:Int)),(11,aZ d),(12,aS 1000000000),(13,aZ a),(14,.aD (.one (.bg (a==0)))),(15,.aD (.one (.bg (a==0)))),(24,.aD (.one (.bg (a==1)))),(25,.aD (.one (.bg (a==1)))),(36,.aD (.one (.bg (a==2)))),(37,.aD (.one (.bg (a==2))))] [(3,[ay 70000 4 C,aq b,aq c,ay 70003 8 A,ay 70004 6 E,ay 70005 5 F,ay 70006 3 G]),(2,[.v (aO),aq 0,aq 0,.v (aO),.v (aO),.v (aO),.v (aO)]),(1000000000,[.db 1000000100 1 H,aq f,aq e])]
def La(H E:ai)(d e:Int)(C F A G:ai)(f c a g i b:Int)(d14 d15 d16 d17:D):aE:=bi 82 [(0,aS 1000000000),(2,aS 2),(3,aS 3),(4,aZ f),(5,aS 1000000000),(6,aB.aD (bd.agg [ay 70000 4 E,aq d,aq e,ay 70003 8 C,ay 70004 6 F,ay 70005 5 (A.set a.toNat [d14,I (b-1),d15,d16,d17]),ay 70006 3 G])),(7,aS 1000000000),(8,.aD (.one (.ptr 3 3))),(9,aB.aD (bd.one (ay 70003 8 C))),(10,aZ (C.length:Int)),(11,aZ f),(12,aS 1000000000),(13,aZ c),(14,.aD (.one (.bg (c==0)))),(15,.aD (.one (.bg (c==0)))),(24,.aD (.one (.bg (c==1)))),(25,.aD (.one (.bg (c==1)))),(36,.aD (.one (.bg (c==2)))),(37,.aD (.one (.bg (c==2)))),(38,.aD (.one (.ptr 3 5))),(39,aB.aD (bd.one (ay 70005 5 (A.set a.toNat [d14,I (b-1),d15,d16,d17])))),(40,aS 1000000000),(41,aZ a),(42,aS 1000000000),(43,aZ b),(44,aZ (b-1)),(45,.aD (.one (.ep (Tag.own 70005) 5 (A.set a.toNat [d14,I (b-1),d15,d16,d17]) a.toNat 0))),(46,.aD (.one (.ep (Tag.own 70005) 5 (A.set a.toNat [d14,I (b-1),d15,d16,d17]) a.toNat 1)))] [(3,[ay 70000 4 E,aq d,aq e,ay 70003 8 C,ay 70004 6 F,ay 70005 5 (A.set a.toNat [d14,I (b-1),d15,d16,d17]),ay 70006 3 G]),(2,[.v (aO),aq 0,aq 0,.v (aO),.v (aO),.v (aO),.v (aO)]),(1000000000,[.db 1000000100 1 H,aq g,aq i])]
theorem ahn{A G:ai}{l m:Int}{H E C F:ai}{j g i k c d a e f b:Int}{d29 d30 d31 d32 d33:D}
  (h:cB [bU prog 138 [aJ.cur [D.J 1 A,I g,I i] [D.J 1 A,I c,I d],aJ.ro (al 4)] (aT.vals [al a]),bU prog 138 [aJ.cur [D.J 1 A,I c,I d] [D.J 1 A,I e,I f],aJ.ro (al 6)] (aT.vals [al b]),bf .i64 (b-1),0<=a,a<(C.length:Int),C[a.toNat]?=some [d29,d30,d31,d32,d33]]):
  dY prog (cG f185 9) (Ut A G l m H E C F j g i k) (La A G l m H E C F j k a e f b d29 d31 d32 d33):=
 .of [[],[],[],[.dq [some [D.J 1 A,I c,I d],none] (aT.vals [al a])],[],[.dq [some [D.J 1 A,I e,I f],none] (aT.vals [al b])],[],[],[],[.el [d29,d30,d31,d32,d33]]] [[],[],[],[bU prog 138 [aJ.cur [D.J 1 A,I g,I i] [D.J 1 A,I c,I d],aJ.ro (al 4)] (aT.vals [al a])],[],[bU prog 138 [aJ.cur [D.J 1 A,I c,I d] [D.J 1 A,I e,I f],aJ.ro (al 6)] (aT.vals [al b])],[bf .i64 (b-1)],[0<=a,a<(C.length:Int)],[],[C[a.toNat]?=some [d29,d30,d31,d32,d33]]] (by kernel_rfl) (by kernel_rfl) (by kernel_rfl) h
def za(A:ai)(a b:Int)(C:ai)(c d:Int)(E F G H:ai)(e f g i j k m n:Int)(l:List O):List O:=Mg A a b C c d E F G H e f g i j k m n (.b (k==0) false::.b (k==1) false::l)
theorem aho{A:ai}{p a0 n o:Int}{H:ai}{b c:Int}{C E F G:ai}{e f d g i a j k l m:Int}{d29 d31 d32 d33:D}(h:ak (za A n o H b c C E F G e f d g i a p a0 [.b (a==2) true,.a (.h7 (La A H b c C E F G d a j k l m d29 d31 d32 d33)),.p (dY prog (cG f185 9) (Ut A H b c C E F G d g i a) (La A H b c C E F G d a j k l m d29 d31 d32 d33))])):
 bZ 185 [aJ.cur [D.J 1 A,I p,I a0] [D.J 1 A,I k,I l]] (aT.vals [.agg (cl H b c C E (F.set j.toNat [d29,I (m-1),d31,d32,d33]) G)]):=
 h.b0
def Uu(H C:ai)(b c:Int)(A E F G:ai)(d f e a:Int):aE:=bi 82 [(0,aS 1000000000),(2,aS 2),(3,aS 3),(4,aZ d),(5,aS 1000000000),(6,aB.aD (bd.agg [ay 70000 4 C,aq b,aq c,ay 70003 8 A,ay 70004 6 E,ay 70005 5 F,ay 70006 3 G])),(7,aS 1000000000),(8,.aD (.one (.ptr 3 3))),(9,aB.aD (bd.one (ay 70003 8 A))),(10,aZ (A.length:Int)),(11,aZ d),(12,aS 1000000000),(13,aZ a),(14,.aD (.one (.bg (a==0)))),(15,.aD (.one (.bg (a==0)))),(24,.aD (.one (.bg (a==1)))),(25,.aD (.one (.bg (a==1)))),(36,.aD (.one (.bg (a==2)))),(37,.aD (.one (.bg (a==2)))),(47,.aD (.one (.bg (a==3)))),(48,.aD (.one (.bg (a==3))))] [(3,[ay 70000 4 C,aq b,aq c,ay 70003 8 A,ay 70004 6 E,ay 70005 5 F,ay 70006 3 G]),(2,[.v (aO),aq 0,aq 0,.v (aO),.v (aO),.v (aO),.v (aO)]),(1000000000,[.db 1000000100 1 H,aq f,aq e])]
def Lb(H E:ai)(c d:Int)(C F A G:ai)(e a f g b:Int)(d13 d14 d15 d16:D):aE:=bi 82 [(0,aS 1000000000),(2,aS 2),(3,aS 3),(4,aZ e),(5,aS 1000000000),(6,aB.aD (bd.agg [ay 70000 4 E,aq c,aq d,ay 70003 8 C,ay 70004 6 F,ay 70005 5 (A.set 0 [d13,d14,I b,d15,d16]),ay 70006 3 G])),(7,aS 1000000000),(8,.aD (.one (.ptr 3 3))),(9,aB.aD (bd.one (ay 70003 8 C))),(10,aZ (C.length:Int)),(11,aZ e),(12,aS 1000000000),(13,aZ a),(14,.aD (.one (.bg (a==0)))),(15,.aD (.one (.bg (a==0)))),(24,.aD (.one (.bg (a==1)))),(25,.aD (.one (.bg (a==1)))),(36,.aD (.one (.bg (a==2)))),(37,.aD (.one (.bg (a==2)))),(47,.aD (.one (.bg (a==3)))),(48,.aD (.one (.bg (a==3)))),(49,.aD (.one (.ptr 3 5))),(50,aB.aD (bd.one (ay 70005 5 (A.set 0 [d13,d14,I b,d15,d16])))),(51,aS 1000000000),(52,.aD (.one (.J (.own 52) 1 [[I 1000000],[I 1000001],[I (-1000001)],[I 3]]))),(53,aZ b),(54,.aD (.one (.ep (Tag.own 70005) 5 (A.set 0 [d13,d14,I b,d15,d16]) 0 0))),(55,.aD (.one (.ep (Tag.own 70005) 5 (A.set 0 [d13,d14,I b,d15,d16]) 0 2)))] [(3,[ay 70000 4 E,aq c,aq d,ay 70003 8 C,ay 70004 6 F,ay 70005 5 (A.set 0 [d13,d14,I b,d15,d16]),ay 70006 3 G]),(2,[.v (aO),aq 0,aq 0,.v (aO),.v (aO),.v (aO),.v (aO)]),(1000000000,[.db 1000000100 1 H,aq f,aq g])]
theorem ahp{A G:ai}{i j:Int}{H E C F:ai}{f d e g a b c:Int}{d25 d26 d27 d28 d29:D}
  (h:cB [bU prog 140 [aJ.cur [D.J 1 A,I d,I e] [D.J 1 A,I a,I b],aJ.ro (.one (.J 1 [[I 1000000],[I 1000001],[I (-1000001)],[I 3]]))] (aT.vals [al c]),(0:Int)<=0,0<(C.length:Int),C[0]?=some [d25,d26,d27,d28,d29]]):
  dY prog (cG f185 11) (Uu A G i j H E C F f d e g) (Lb A G i j H E C F f g a b c d25 d26 d28 d29):=
 .of [[],[],[],[],[.dq [some [D.J 1 A,I a,I b],none] (aT.vals [al c])],[],[],[.el [d25,d26,d27,d28,d29]]] [[],[],[],[],[bU prog 140 [aJ.cur [D.J 1 A,I d,I e] [D.J 1 A,I a,I b],aJ.ro (.one (.J 1 [[I 1000000],[I 1000001],[I (-1000001)],[I 3]]))] (aT.vals [al c])],[(0:Int)<=0,0<(C.length:Int)],[],[C[0]?=some [d25,d26,d27,d28,d29]]] (by kernel_rfl) (by kernel_rfl) (by kernel_rfl) h
theorem ahq{A:ai}{o p m n:Int}{H:ai}{b c:Int}{C E F G:ai}{e f d g i a j k l:Int}{d25 d26 d28 d29:D}(h:ak (za A m n H b c C E F G e f d g i a o p [.b (a==2) false,.b (a==3) true,.a (.h7 (Lb A H b c C E F G d a j k l d25 d26 d28 d29)),.p (dY prog (cG f185 11) (Uu A H b c C E F G d g i a) (Lb A H b c C E F G d a j k l d25 d26 d28 d29))])):
 bZ 185 [aJ.cur [D.J 1 A,I o,I p] [D.J 1 A,I j,I k]] (aT.vals [.agg (cl H b c C E (F.set 0 [d25,d26,I l,d28,d29]) G)]):=
 h.b0
def Uv(H C:ai)(b c:Int)(A E F G:ai)(d f e a:Int):aE:=bi 82 [(0,aS 1000000000),(2,aS 2),(3,aS 3),(4,aZ d),(5,aS 1000000000),(6,aB.aD (bd.agg [ay 70000 4 C,aq b,aq c,ay 70003 8 A,ay 70004 6 E,ay 70005 5 F,ay 70006 3 G])),(7,aS 1000000000),(8,.aD (.one (.ptr 3 3))),(9,aB.aD (bd.one (ay 70003 8 A))),(10,aZ (A.length:Int)),(11,aZ d),(12,aS 1000000000),(13,aZ a),(14,.aD (.one (.bg (a==0)))),(15,.aD (.one (.bg (a==0)))),(24,.aD (.one (.bg (a==1)))),(25,.aD (.one (.bg (a==1)))),(36,.aD (.one (.bg (a==2)))),(37,.aD (.one (.bg (a==2)))),(47,.aD (.one (.bg (a==3)))),(48,.aD (.one (.bg (a==3)))),(56,.aD (.one (.bg (a==4)))),(57,.aD (.one (.bg (a==4))))] [(3,[ay 70000 4 C,aq b,aq c,ay 70003 8 A,ay 70004 6 E,ay 70005 5 F,ay 70006 3 G]),(2,[.v (aO),aq 0,aq 0,.v (aO),.v (aO),.v (aO),.v (aO)]),(1000000000,[.db 1000000100 1 H,aq f,aq e])]
def Lc(H E:ai)(d e:Int)(A F G C:ai)(f a b g i c:Int):aE:=bi 82 [(0,aS 1000000000),(2,aS 2),(3,aS 3),(4,aZ f),(5,aS 1000000000),(6,aB.aD (bd.agg [ay 70000 4 E,aq d,aq e,ay 70003 8 A,ay 70004 6 F,ay 70005 5 G,.J (Tag.ro 70006) 3 C])),(7,aS 1000000000),(8,.aD (.one (.ptr 3 3))),(9,aB.aD (bd.one (ay 70003 8 A))),(10,aZ (A.length:Int)),(11,aZ f),(12,aS 1000000000),(13,aZ a),(14,.aD (.one (.bg (a==0)))),(15,.aD (.one (.bg (a==0)))),(24,.aD (.one (.bg (a==1)))),(25,.aD (.one (.bg (a==1)))),(36,.aD (.one (.bg (a==2)))),(37,.aD (.one (.bg (a==2)))),(47,.aD (.one (.bg (a==3)))),(48,.aD (.one (.bg (a==3)))),(56,.aD (.one (.bg (a==4)))),(57,.aD (.one (.bg (a==4)))),(58,.aD (.one (.ptr 3 6))),(59,.aD (.one (.J (Tag.ro 70006) 3 C))),(60,aS 1000000000),(61,aZ b),(62,aZ (b-1)),(63,aS 1000000000),(64,aZ c),(65,aZ (c-1)),(66,aB.aD (bd.agg [aq (b-1),aq (c-1),.v (Value.bool false)])),(67,.aD (.one (.J (.own 67) 3 [[I (b-1),I (c-1),B false]]))),(68,aB.aD (bd.one (ay 70006 3 (C++[[I (b-1),I (c-1),B false]])))),(69,.aD (.one (.ptr 3 6)))] [(3,[ay 70000 4 E,aq d,aq e,ay 70003 8 A,ay 70004 6 F,ay 70005 5 G,ay 70006 3 (C++[[I (b-1),I (c-1),B false]])]),(2,[.v (aO),aq 0,aq 0,.v (aO),.v (aO),.v (aO),.v (aO)]),(1000000000,[.db 1000000100 1 H,aq g,aq i])]
theorem ahr{A G:ai}{l m:Int}{H E F C:ai}{j g i k c d a e f b:Int}
  (h:cB [bU prog 138 [aJ.cur [D.J 1 A,I g,I i] [D.J 1 A,I c,I d],aJ.ro (al 6)] (aT.vals [al a]),bf .i64 (a-1),bU prog 138 [aJ.cur [D.J 1 A,I c,I d] [D.J 1 A,I e,I f],aJ.ro (al 6)] (aT.vals [al b]),bf .i64 (b-1),(C.length+[[I (a-1),I (b-1),B false]].length)*24<=140737488355328,C.length+[[I (a-1),I (b-1),B false]].length<=9223372036854775807,Flat [[I (a-1),I (b-1),B false]]]):
  dY prog (cG f185 13) (Uv A G l m H E F C j g i k) (Lc A G l m H E F C j k a e f b):=
 .of [[],[],[],[.dq [some [D.J 1 A,I c,I d],none] (aT.vals [al a])],[],[],[.dq [some [D.J 1 A,I e,I f],none] (aT.vals [al b])],[],[],[],[],[],[]] [[],[],[],[bU prog 138 [aJ.cur [D.J 1 A,I g,I i] [D.J 1 A,I c,I d],aJ.ro (al 6)] (aT.vals [al a])],[bf .i64 (a-1)],[],[bU prog 138 [aJ.cur [D.J 1 A,I c,I d] [D.J 1 A,I e,I f],aJ.ro (al 6)] (aT.vals [al b])],[bf .i64 (b-1)],[],[],[(C.length+[[I (a-1),I (b-1),B false]].length)*24<=140737488355328,C.length+[[I (a-1),I (b-1),B false]].length<=9223372036854775807,Flat [[I (a-1),I (b-1),B false]]],[],[]] (by kernel_rfl) (by kernel_rfl) (by kernel_rfl) h
theorem ahs(h:ak (za A n o H b c C E F G e f d g i a p a0 [.b (a==2) false,.b (a==3) false,.b (a==4) true,.a (.h7 (Lc A H b c C E F G d a j k l m)),.p (dY prog (cG f185 13) (Uv A H b c C E F G d g i a) (Lc A H b c C E F G d a j k l m))])):
 bZ 185 [aJ.cur [D.J 1 A,I p,I a0] [D.J 1 A,I k,I l]] (aT.vals [.agg (cl H b c C E F (G++[[I (j-1),I (m-1),B false]]))]):=
 h.b0
theorem aht(h:ak (za A k l aw p a0 C E F G b c n d e a m o [.b (a==2) false,.b (a==3) false,.b (a==4) false,.b (a==5) true,.a (.dq [some [D.J 1 A,I f,I g]] (aT.vals [.agg (bS H i j)])),.p (bU prog 137 [aJ.cur [D.J 1 A,I d,I e] [D.J 1 A,I f,I g]] (aT.vals [.agg (bS H i j)]))])):
 bZ 185 [aJ.cur [D.J 1 A,I m,I o] [D.J 1 A,I f,I g]] (aT.vals [.agg (cl H i j C E F G)]):=
 h.b0
theorem ahu(h:ak (za A f g H i j E F C G b c l d e a k m [.b (a==2) false,.b (a==3) false,.b (a==4) false,.b (a==5) false,.b (a==6) true,.a .own,.p ((0:Int)<=none.getD 0),.p (none.getD 0<=(some (3:Int)).getD (C.length:Int)),.p ((some (3:Int)).getD (C.length:Int)<=(C.length:Int))])):
 bZ 185 [aJ.cur [D.J 1 A,I k,I m] [D.J 1 A,I d,I e]] (aT.vals [.agg (cl H i j E F (List.take (3-0) (List.drop 0 C)) G)]):=
 h.b0
theorem ahv(h:ak (za A f g H i j C E F G b c l d e a k m [.b (a==2) false,.b (a==3) false,.b (a==4) false,.b (a==5) false,.b (a==6) false])):
 bZ 185 [aJ.cur [D.J 1 A,I k,I m] [D.J 1 A,I d,I e]] (aT.vals [.agg (cl H i j C E F G)]):=
 h.b0
theorem ahw(h:ak [.r 53 [a7 1 A] [.agg (cl C a b E F G H),al c]]):
 aK 207 [a7 1 A] [.agg (cl C a b E F G H),al c]:=
 h.of
def Mh(A:ai)(a b c d:Int)(C:ai)(e f:Int)(E F G H:ai)(l:List O):List O:=.a (.dq [none] (aT.iH [some 0,none,none] [D.J 1 A,I a,I b]))::.a (.dq [some [D.J 1 A,I c,I d]] (aT.vals [.agg (cl C e f E F G H)]))::l
theorem ahx(h:ak (Mh A b c d e H f g C E F G [.w A i j a,.p (bU prog 117 [aJ.ro (a7 1 A)] (aT.iH [some 0,none,none] [D.J 1 A,I b,I c])),.p (bU prog 185 [aJ.cur [D.J 1 A,I b,I c] [D.J 1 A,I d,I e]] (aT.vals [.agg (cl H f g C E F G)])),.k A 138 d e i j 6 a,.v (a-1)])):
 aK 53 [a7 1 A] [.agg (cl H f g C E F G),al (a-1)]:=
 h.of
theorem ahy(h:ak (Mh A a b e f H c d C E F G [.p (bU prog 117 [aJ.ro (a7 1 A)] (aT.iH [some 0,none,none] [D.J 1 A,I a,I b])),.p (bU prog 185 [aJ.cur [D.J 1 A,I a,I b] [D.J 1 A,I e,I f]] (aT.vals [.agg (cl H c d C E F G)]))])):
 aK 102 [a7 1 A] [.agg (cl H c d C E F G)]:=
 h.of
def Ld(H aw:ai)(d e:Int)(K L M N:ai)(f g:Int)(q:Bool)(A:ai)(a b:Int)(C E F G:ai)(c:Int):aE:=bi 21 [(0,dX 1 H),(2,aS 2),(3,aZ 0),(4,aS 7),(5,aS 5),(6,dX 1 H),(7,aS 7),(8,aS 7),(9,aB.aD (bd.agg [ay 100000 4 aw,aq d,aq e,ay 100003 8 K,ay 100004 6 L,ay 100005 5 M,ay 100006 3 N])),(10,aS 7),(11,.aD (.one (.bg q))),(12,aB.fM [bd.agg [ay 150000 4 A,aq a,aq b,ay 150003 8 C,ay 150004 6 E,ay 150005 5 F,ay 150006 3 G],bd.one (aq c)]),(13,aB.aD (bd.agg [ay 100000 4 aw,aq d,aq e,ay 100003 8 K,ay 100004 6 L,ay 100005 5 M,ay 100006 3 N])),(14,aB.fM [bd.agg [ay 150000 4 A,aq a,aq b,ay 150003 8 C,ay 150004 6 E,ay 150005 5 F,ay 150006 3 G],bd.one (aq c)]),(15,aB.aD (bd.agg [ay 150000 4 A,aq a,aq b,ay 150003 8 C,ay 150004 6 E,ay 150005 5 F,ay 150006 3 G])),(16,aZ c)] [(5,[ay 150000 4 A,aq a,aq b,ay 150003 8 C,ay 150004 6 E,ay 150005 5 F,ay 150006 3 G]),(7,[.J .free 1 H,aq f,aq g]),(2,[.v (aO),aq 0,aq 0,.v (aO),.v (aO),.v (aO),.v (aO)])]
def Le(P:Program)(W:Array Oper)(A N:ai)(j k:Int)(C E F G:ai)(a b:Int)(q:Bool)(H:ai)(c d:Int)(aw K L M:ai)(e f g i:Int):aE:=
 mf P W [[],[],[.dq [some [D.J 1 A,I f,I g],none] (aT.vals [al i])],[],[],[]] (Ld A N j k C E F G a b q H c d aw K L M e)
theorem ahz{A N:ai}{j k:Int}{C E F G:ai}{a b:Int}{q:Bool}{H:ai}{d e:Int}{aw K L M:ai}{f g i c:Int}
  (h:cB [bU prog 138 [aJ.cur [D.J 1 A,I a,I b] [D.J 1 A,I g,I i],aJ.ro (al 5)] (aT.vals [al c]),bf .i64 (c-1)]):
  dY prog (cG f112 5) (Ld A N j k C E F G a b q H d e aw K L M f) (Le prog (cG f112 5) A N j k C E F G a b q H d e aw K L M f g i c):=
 .mS [0,0,1,1,0,0] h
def Vr(A:ai)(a b c d:Int)(C:ai)(e f:Int)(E F G H:ai)(g i:Int)(q:Bool)(l:List O):List O:=Mh A a b c d C e f E F G H (.y A g i q::.p (bU prog 117 [aJ.ro (a7 1 A)] (aT.iH [some 0,none,none] [D.J 1 A,I a,I b]))::.p (bU prog 185 [aJ.cur [D.J 1 A,I a,I b] [D.J 1 A,I c,I d]] (aT.vals [.agg (cl C e f E F G H)]))::.m A 136 c d g i 2 q::l)
theorem ahA(h:ak (Vr A i k l m H a b C E F G c d q [.b q true,.r 16 [.agg (cl H a b C E F G),al 100] [.agg (cl aw e f K L M N),al g],.a (.h7 (Le prog (cG f112 5) A H a b C E F G c d q aw e f K L M N g n o j)),.p (dY prog (cG f112 5) (Ld A H a b C E F G c d q aw e f K L M N g) (Le prog (cG f112 5) A H a b C E F G c d q aw e f K L M N g n o j))])):
 aK 112 [a7 1 A] [.agg (cl aw e f K L M N),al (j-1)]:=
 h.of
def Lf(A C:ai)(a b:Int)(E F G H:ai)(c d:Int)(q:Bool):aE:=bi 21 [(0,dX 1 A),(2,aS 2),(3,aZ 0),(4,aS 7),(5,aS 5),(6,dX 1 A),(7,aS 7),(8,aS 7),(9,aB.aD (bd.agg [ay 100000 4 C,aq a,aq b,ay 100003 8 E,ay 100004 6 F,ay 100005 5 G,ay 100006 3 H])),(10,aS 7),(11,.aD (.one (.bg q)))] [(5,[ay 100000 4 C,aq a,aq b,ay 100003 8 E,ay 100004 6 F,ay 100005 5 G,ay 100006 3 H]),(7,[.J .free 1 A,aq c,aq d]),(2,[.v (aO),aq 0,aq 0,.v (aO),.v (aO),.v (aO),.v (aO)])]
def Lg(P:Program)(W:Array Oper)(A H:ai)(f g:Int)(C E F G:ai)(a b:Int)(q:Bool)(c d e:Int):aE:=
 mf P W [[],[],[.dq [some [D.J 1 A,I c,I d],none] (aT.vals [al e])],[],[],[]] (Lf A H f g C E F G a b q)
theorem ahB{A H:ai}{f g:Int}{C E F G:ai}{a b:Int}{q:Bool}{d e c:Int}
  (h:cB [bU prog 138 [aJ.cur [D.J 1 A,I a,I b] [D.J 1 A,I d,I e],aJ.ro (al 5)] (aT.vals [al c]),bf .i64 (c-1)]):
  dY prog (cG f112 5) (Lf A H f g C E F G a b q) (Lg prog (cG f112 5) A H f g C E F G a b q d e c):=
 .mS [0,0,1,1,0,0] h
theorem ahC(h:ak (Vr A e g i j H a b C E F G c d q [.b q false,.a (.h7 (Lg prog (cG f112 5) A H a b C E F G c d q k l f)),.p (dY prog (cG f112 5) (Lf A H a b C E F G c d q) (Lg prog (cG f112 5) A H a b C E F G c d q k l f))])):
 aK 112 [a7 1 A] [.agg (cl H a b C E F G),al (f-1)]:=
 h.of
theorem agN(h:ak [.r 207 [a7 1 A] [.agg (cl C a b E F G H),al c]]):
 aK 113 [a7 1 A] [.agg (cl C a b E F G H),al c]:=
 h.of
