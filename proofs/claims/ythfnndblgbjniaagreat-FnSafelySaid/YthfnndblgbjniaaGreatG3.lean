import Derived.Test.YthfnndblgbjniaaGreatGE
namespace Go.Proofs.YthfnndblgbjniaaGreat
open Go.Sx Go.RowKit Go.Proofs.Tryz
variable {a b c d e f g i j k l m n o p a0 dN b8 e7 c9 d0 bE f0 i0 j0 dw dn m0 mA sY ic : Int} {A C E F G H aj K L M N Q R S bc V X Y Z dz : af} {q r : Bool}
def wa(A:af)(a c d e:Int)(C:af)(f g i j b:Int):aD:=a' 55 [(0,aS 1000000000),(2,aS 2),(3,aS 3),(4,aT a)] [(3,[av c,av d,av e,aB 52 1 C]),(2,[av f,av g,av i,.v (aR)]),(1000000000,[.dC 1000000100 1 A,av j,av b])]
def XO(A:af)(a d e f:Int)(C:af)(g i j k c b:Int):aD:=a' 55 [(0,aS 1000000000),(2,aS 2),(3,aS 3),(4,aT a),(37,aT a),(38,aS 1000000000),(39,aT b),(40,.aF (.one (.bg (decide (a<b)))))] [(3,[av d,av e,av f,aB 52 1 C]),(2,[av g,av i,av j,.v (aR)]),(1000000000,[.dC 1000000100 1 A,av k,av c])]
def OQ(C:af)(a f g i:Int)(A:af)(j k l c d e b:Int):aD:=a' 55 [(0,aS 1000000000),(2,aS 2),(3,aS 3),(4,aT a),(37,aT a),(38,aS 1000000000),(39,aT c),(40,.aF (.one (.bg (decide (a<c))))),(43,.aF (.one (.ptr 3 3))),(44,.aF (.one (.J (Tag.ro 52) 1 A))),(45,aT a),(46,aT (a*2)),(47,aT (1+a*2)),(48,aS 1000000000),(49,aT b),(50,aT (1+a*2+b)),(51,.aF (.one (.J (.own 51) 1 [[I (1+a*2+b)]]))),(52,aI.aF (bp.one (aB 52 1 (A++[[I (1+a*2+b)]])))),(53,.aF (.one (.ptr 3 3)))] [(3,[av f,av g,av i,aB 52 1 (A++[[I (1+a*2+b)]])]),(2,[av j,av k,av l,.v (aR)]),(1000000000,[.dC 1000000100 1 C,av d,av e])]
theorem auC{A:af}{a g i j:Int}{C:af}{k l m e f n c d b:Int}
  (h:cO [aL .i64 (a*2),aL .i64 (1+a*2),b4 prog 61 [aM.cur [D.J 1 A,I e,I f] [D.J 1 A,I c,I d],aM.ro (ae 2)] (a1.vals [ae b]),aL .i64 (1+a*2+b),(C.length+[[I (1+a*2+b)]].length)*8<=140737488355328,C.length+[[I (1+a*2+b)]].length<=9223372036854775807,Flat [[I (1+a*2+b)]]]):
  ey prog (cT f162 14) (XO A a g i j C k l m e f n) (OQ A a g i j C k l m n c d b):=
 .of [[],[],[],[],[],[],[.dL [some [D.J 1 A,I c,I d],none] (a1.vals [ae b])],[],[],[],[],[]] [[],[],[],[aL .i64 (a*2)],[aL .i64 (1+a*2)],[],[b4 prog 61 [aM.cur [D.J 1 A,I e,I f] [D.J 1 A,I c,I d],aM.ro (ae 2)] (a1.vals [ae b])],[aL .i64 (1+a*2+b)],[],[(C.length+[[I (1+a*2+b)]].length)*8<=140737488355328,C.length+[[I (1+a*2+b)]].length<=9223372036854775807,Flat [[I (1+a*2+b)]]],[],[]] (by kernel_rfl) (by kernel_rfl) (by kernel_rfl) h
theorem auD(h:ad [.w A j k b,.k A 61 o p j k 3 b,.b (decide (a<b)) true,.a (.iL (OQ A a c d e C f g i b l m n)),.p (ey prog (cT f162 14) (XO A a c d e C f g i j k b) (OQ A a c d e C f g i b l m n)),.u a]):
 aV (ap f162 0) (wa A a c d e C f g i o p) .normal (wa A (a+1) c d e (C++[[I (1+a*2+n)]]) f g i l m):=
 h.aQ [4,0,3,2] [3,2,1000000000]
def zS(A:af)(a b c:Int)(C:af)(d e f g i:Int):aD:=a' 55 [(0,aS 1000000000),(2,aS 2),(3,aS 3)] [(3,[av a,av b,av c,aB 52 1 C]),(2,[av d,av e,av f,.v (aR)]),(1000000000,[.dC 1000000100 1 A,av g,av i])]
theorem auE(h:ad [.w A a b c,.k A 61 l m a b 3 c,.b (decide (d<c)) false]):
 aV (ap f162 0) (wa A d e f g C i j k l m) (.exit 1) (zS A e f g C i j k a b):=
 h.aQ [3,2,0] [3,2,1000000000]
def Iy(A:af)(a b c d e:Int)(l:List O):List O:=.w A a b c::.k A 61 d e a b 8 c::l
theorem auF(h:ad (Iy A c d a g n [.v (1+a),.b (1+a==2) true,.w A e f b,.p (b4 prog 64 [aM.cur [D.J 1 A,I c,I d] [D.J 1 A,I e,I f],aM.ro (.one (.J 1 [[I 0],[I 1],[I 3],[I 10],[I 999]]))] (a1.vals [ae b])),.b (1+a != 8) true,.l [(4000003,52,1)] [4,0,3,2] [3,2,1000000000] (ap f162 0) (wa A 0 (1+a) b 0 [] 0 0 0 e f) (.exit 1) (zS A i j k C o p a0 l m)])):
 cb 162 [aM.cur [D.J 1 A,I g,I n] [D.J 1 A,I l,I m]] (a1.vals [.agg (br i j k C)]):=
 h.cc
def Iz(A:af)(a b c d e:Int)(l:List O):List O:=Iy A a b c d e (.v (1+c)::.b (1+c==2) false::l)
theorem auG(h:ad (Iz A f g a k o [.b (1+a==3) true,.w A i j b,.w A c d e,.k A 61 f g i j 4 b,.v (1+b),.k A 61 i j c d (1+b) e,.b (1+a != 8) true,.l [(4000003,52,1)] [4,0,3,2] [3,2,1000000000] (ap f162 0) (wa A 0 (1+a) (1+b) e [] 0 0 0 c d) (.exit 1) (zS A l m n C b8 c9 d0 p a0)])):
 cb 162 [aM.cur [D.J 1 A,I k,I o] [D.J 1 A,I p,I a0]] (a1.vals [.agg (br l m n C)]):=
 h.cc
theorem auH(h:ad (Iz A c d a g n [.b (1+a==3) false,.b (1+a==4) true,.w A e f b,.p (b4 prog 64 [aM.cur [D.J 1 A,I c,I d] [D.J 1 A,I e,I f],aM.ro (.one (.J 1 [[I 0],[I 1],[I 2],[I 3],[I 50],[I 99]]))] (a1.vals [ae b])),.b (1+a != 8) true,.l [(4000003,52,1)] [4,0,3,2] [3,2,1000000000] (ap f162 0) (wa A 0 (1+a) b 0 [] 0 0 0 e f) (.exit 1) (zS A i j k C o p a0 l m)])):
 cb 162 [aM.cur [D.J 1 A,I g,I n] [D.J 1 A,I l,I m]] (a1.vals [.agg (br i j k C)]):=
 h.cc
theorem auI(h:ad (Iz A b c a d g [.b (1+a==3) false,.b (1+a==4) false,.b (1+a != 8) true,.l [(4000003,52,1)] [4,0,3,2] [3,2,1000000000] (ap f162 0) (wa A 0 (1+a) 0 0 [] 0 0 0 b c) (.exit 1) (zS A i j k C l m n e f)])):
 cb 162 [aM.cur [D.J 1 A,I d,I g] [D.J 1 A,I e,I f]] (a1.vals [.agg (br i j k C)]):=
 h.cc
theorem auJ(h:ad (Iz A b c a d e [.b (1+a==3) false,.b (1+a==4) false,.b (1+a != 8) false])):
 cb 162 [aM.cur [D.J 1 A,I d,I e] [D.J 1 A,I b,I c]] (a1.vals [.agg (br (1+a) 0 0 [])]):=
 h.cc
def Ed(A:af)(a b c d e:Int)(C:af)(f g i j k:Int)(l:List O):List O:=.a (.dL [some [D.J 1 A,I a,I b]] (a1.vals [.agg (br c d e C)]))::.w A f g i::.p (b4 prog 162 [aM.cur [D.J 1 A,I j,I k] [D.J 1 A,I a,I b]] (a1.vals [.agg (br c d e C)]))::.k A 61 a b f g 12 i::l
theorem auK(h:ad (Ed A g i n j k C b c d l m [.b (d==0) true,.w A e f a,.k A 61 b c e f 11 a,.v (a-1)])):
 cb 111 [aM.cur [D.J 1 A,I l,I m] [D.J 1 A,I e,I f]] (a1.vals [.agg (br (a-1) j k C)]):=
 h.cc
theorem auL(h:ad (Ed A g i j n k C b c a l m [.b (a==0) false,.b (a==1) true,.w A d e f,.p (b4 prog 64 [aM.cur [D.J 1 A,I b,I c] [D.J 1 A,I d,I e],aM.ro (.one (.J 1 [[I (-1)],[I 0],[I 1000],[I 100],[I 11]]))] (a1.vals [ae f]))])):
 cb 111 [aM.cur [D.J 1 A,I l,I m] [D.J 1 A,I d,I e]] (a1.vals [.agg (br j f k C)]):=
 h.cc
theorem qOp(h:ad (Ed A g i j k n C b c a l m [.b (a==0) false,.b (a==1) false,.b (a==2) true,.w A d e f,.p (b4 prog 64 [aM.cur [D.J 1 A,I b,I c] [D.J 1 A,I d,I e],aM.ro (.one (.J 1 [[I (-1)],[I 1],[I 3]]))] (a1.vals [ae f]))])):
 cb 111 [aM.cur [D.J 1 A,I l,I m] [D.J 1 A,I d,I e]] (a1.vals [.agg (br j k f C)]):=
 h.cc
def OR(C:af)(b c d:Int)(A:af)(e f a:Int):aD:=a' 37 [(0,aS 1000000000),(2,aS 2),(3,aS 3),(4,aS 1000000000),(5,aI.aF (bp.agg [av b,av c,av d,aB 60003 1 A])),(6,aS 1000000000),(7,aT a),(8,.aF (.one (.bg (a==0)))),(9,.aF (.one (.bg (a==0)))),(14,.aF (.one (.bg (a==1)))),(15,.aF (.one (.bg (a==1)))),(20,.aF (.one (.bg (a==2)))),(21,.aF (.one (.bg (a==2)))),(26,.aF (.one (.bg (a==3)))),(27,.aF (.one (.bg (a==3))))] [(3,[av b,av c,av d,aB 60003 1 A]),(2,[av 0,av 0,av 0,.v (aR)]),(1000000000,[.dC 1000000100 1 C,av e,av f])]
def OS(P:Program)(W:Array Oper)(A:af)(g i j:Int)(C:af)(a b c d e f:Int):aD:=
 ny P W [[],[],[],[],[.dL [some [D.J 1 A,I d,I e],none] (a1.vals [ae f])],[],[],[],[]] (OR A g i j C a b c)
theorem auM{A:af}{g i j:Int}{C:af}{b c d e f a:Int}
  (h:cO [b4 prog 64 [aM.cur [D.J 1 A,I b,I c] [D.J 1 A,I e,I f],aM.ro (.one (.J 1 [[I 1],[I 7],[I 8],[I (-1)]]))] (a1.vals [ae a]),(C.length+[[I a]].length)*8<=140737488355328,C.length+[[I a]].length<=9223372036854775807,Flat [[I a]]]):
  ey prog (cT f111 10) (OR A g i j C b c d) (OS prog (cT f111 10) A g i j C b c d e f a):=
 .nV [0,0,0,0,1,0,3,0,0] h
theorem auN(h:ad (Ed A k l b c d C e f a m n [.b (a==0) false,.b (a==1) false,.b (a==2) false,.b (a==3) true,.a (.iL (OS prog (cT f111 10) A b c d C e f a g i j)),.p (ey prog (cT f111 10) (OR A b c d C e f a) (OS prog (cT f111 10) A b c d C e f a g i j))])):
 cb 111 [aM.cur [D.J 1 A,I m,I n] [D.J 1 A,I g,I i]] (a1.vals [.agg (br b c d (C++[[I j]]))]):=
 h.cc
theorem auO(h:ad (Ed A d e f g i C b c a j k [.b (a==0) false,.b (a==1) false,.b (a==2) false,.b (a==3) false])):
 cb 111 [aM.cur [D.J 1 A,I j,I k] [D.J 1 A,I b,I c]] (a1.vals [.agg (br f g i C)]):=
 h.cc
def uH(A:af)(a g:Int)(C:af)(i j k l m n b c d e f:Int):aD:=a' 40 [(0,aS 1000000000),(2,aS 2),(3,aS 3),(4,aT a)] [(3,[av g,aB 900004001 5 C,av i,av j,av k,av l]),(2,[av m,.v (aR),av n,av b,av c,av d]),(1000000000,[.dC 1000000100 1 A,av e,av f])]
def Qp(A:af)(a b c d e f g i j:Int)(l:List O):List O:=.w A a b c::.k A 61 d e a b 9 c::.b (decide (f<c)) true::.w A g i j::.k A 61 a b g i 4 j::l
theorem auP(h:ad (Qp A b c d c9 d0 a e f g [.b (g==0) true,.r 159 [.agg (bU i C j k l m)] [.agg (bU bE E f0 i0 j0 dw),.agg (bi dn m0 mA sY ic),ak q],.u a])):
 aV (ap f110 0) (uH A a i C j k l m n o p a0 b8 c9 d0) .normal (uH A (a+1) bE E f0 i0 j0 dw n o p a0 b8 e f):=
 h.rK [(4000001,900004001,5)] [4,0,3,2] [3,2,1000000000]
theorem auQ(h:ad (Qp A c d e c9 d0 a f g b [.b (b==0) false,.b (b==1) true,.r 160 [.agg (bU i C j k l m)] [.agg (bU bE E f0 i0 j0 dw),ak q],.u a])):
 aV (ap f110 0) (uH A a i C j k l m n o p a0 b8 c9 d0) .normal (uH A (a+1) bE E f0 i0 j0 dw n o p a0 b8 f g):=
 h.rK [(4000001,900004001,5)] [4,0,3,2] [3,2,1000000000]
def OT(A:af)(b j:Int)(C:af)(k l m n o p d e f c g i a:Int):aD:=a' 40 [(0,aS 1000000000),(2,aS 2),(3,aS 3),(4,aT b),(9,aT b),(10,aS 1000000000),(11,aT c),(12,.aF (.one (.bg (decide (b<c))))),(15,aS 1000000000),(16,aT a),(24,.aF (.one (.bg (a==0)))),(25,.aF (.one (.bg (a==0)))),(32,.aF (.one (.bg (a==1)))),(33,.aF (.one (.bg (a==1))))] [(3,[av j,aB 900004001 5 C,av k,av l,av m,av n]),(2,[av o,.v (aR),av p,av d,av e,av f]),(1000000000,[.dC 1000000100 1 A,av g,av i])]
def OU(P:Program)(W:Array Oper)(A:af)(a b:Int)(C:af)(c d e f g i j k l m n o p a0 b8 c9 d0 bE f0 i0 j0:Int)(E:af)(dw dn m0 mA:Int)(q:Bool):aD:=
 ny P W [[],[],[.dL [some [D.J 1 A,I a0,I b8]] (a1.vals [.agg (bi c9 d0 bE f0 i0)])],[.res [.agg (bU j0 E dw dn m0 mA),ak q]],[],[],[],[]] (OT A a b C c d e f g i j k l m n o p)
theorem auR{A:af}{n a:Int}{C:af}{b c d e o p a0 b8 c9 d0 f g bE f0 i0 i j k l m j0:Int}{E:af}{dw dn m0 mA:Int}{q:Bool}
  (h:cO [b4 prog 109 [aM.cur [D.J 1 A,I f,I g] [D.J 1 A,I f0,I i0]] (a1.vals [.agg (bi i j k l m)]),ar 161 [.agg (bU a C b c d e),.agg (bi i j k l m)] [.agg (bU j0 E dw dn m0 mA),ak q]]):
  ey prog (cT f110 6) (OT A n a C b c d e o p a0 b8 c9 d0 f g bE) (OU prog (cT f110 6) A n a C b c d e o p a0 b8 c9 d0 f g bE f0 i0 i j k l m j0 E dw dn m0 mA q):=
 .nV [0,0,1,1,0,0,0,0] h
theorem auS(h:ad (Qp A a0 b8 c dn m0 a j k b [.b (b==0) false,.b (b==1) false,.a (.iL (OU prog (cT f110 6) A a l C m n o p d e f g i c j k b c9 d0 mA sY ic dN e7 bE E f0 i0 j0 dw q)),.p (ey prog (cT f110 6) (OT A a l C m n o p d e f g i c j k b) (OU prog (cT f110 6) A a l C m n o p d e f g i c j k b c9 d0 mA sY ic dN e7 bE E f0 i0 j0 dw q)),.u a])):
 aV (ap f110 0) (uH A a l C m n o p d e f g i dn m0) .normal (uH A (a+1) bE E f0 i0 j0 dw d e f g i c9 d0):=
 h.rK [(4000001,900004001,5)] [4,0,3,2] [3,2,1000000000]
def OV(A:af)(a:Int)(C:af)(f g i j k l m b c d e:Int):aD:=a' 40 [(0,aS 1000000000),(2,aS 2),(3,aS 3)] [(3,[av a,aB 900004001 5 C,av f,av g,av i,av j]),(2,[av k,.v (aR),av l,av m,av b,av c]),(1000000000,[.dC 1000000100 1 A,av d,av e])]
theorem auT(h:ad [.w A a b c,.k A 61 p a0 a b 9 c,.b (decide (d<c)) false]):
 aV (ap f110 0) (uH A d e C f g i j k l m n o p a0) (.exit 0) (OV A e C f g i j k l m n o a b):=
 h.aQ [3,2,0] [3,2,1000000000]
theorem auU(h:ad [.w A b c a,.k A 61 d n b c 4 a,.v (1+a),.r 60 [ae (1+a)] [.agg (bU a0 E b8 e f g)],.l [(4000001,900004001,5)] [4,0,3,2] [3,2,1000000000] (ap f110 0) (uH A 0 a0 E b8 e f g 0 0 0 0 0 b c) (.exit 0) (OV A i C j k l m c9 d0 bE f0 i0 o p)]):
 cb 110 [aM.cur [D.J 1 A,I d,I n] [D.J 1 A,I o,I p]] (a1.vals [.agg (bU i C j k l m)]):=
 h.cc
def A6(A:af)(a b c:Int)(C:af)(d e f g i j k m n:Int)(l:List O):List O:=.a (.dL [some [D.J 1 A,I a,I b]] (a1.vals [.agg (bU c C d e f g)]))::.w A i j k::.p (b4 prog 110 [aM.cur [D.J 1 A,I m,I n] [D.J 1 A,I a,I b]] (a1.vals [.agg (bU c C d e f g)]))::.k A 61 a b i j 14 k::l
theorem auV(h:ad (A6 A j k l C p m b c d e f n o [.b (f==0) true,.w A g i a,.k A 61 d e g i 6 a,.v (a-1)])):
 cb 63 [aM.cur [D.J 1 A,I n,I o] [D.J 1 A,I g,I i]] (a1.vals [.agg (bU l C (a-1) m b c)]):=
 h.cc
theorem at6(h:ad (A6 A j k l C m p c d e f a n o [.b (a==0) false,.b (a==1) true,.w A g i b,.k A 61 e f g i 6 b,.v (b-1)])):
 cb 63 [aM.cur [D.J 1 A,I n,I o] [D.J 1 A,I g,I i]] (a1.vals [.agg (bU l C m (b-1) c d)]):=
 h.cc
theorem at7(h:ad (A6 A i j k C l m o b c d a n p [.b (a==0) false,.b (a==1) false,.b (a==2) true,.w A e f g,.p (b4 prog 64 [aM.cur [D.J 1 A,I c,I d] [D.J 1 A,I e,I f],aM.ro (.one (.J 1 [[I (-1)],[I 0],[I 1000000000],[I 1000000001]]))] (a1.vals [ae g]))])):
 cb 63 [aM.cur [D.J 1 A,I n,I p] [D.J 1 A,I e,I f]] (a1.vals [.agg (bU k C l m g b)]):=
 h.cc
def OW(C:af)(b:Int)(A:af)(c d e f g i a:Int):aD:=a' 44 [(0,aS 1000000000),(2,aS 2),(3,aS 3),(4,aS 1000000000),(5,aI.aF (bp.agg [av b,aB 60001 5 A,av c,av d,av e,av f])),(6,aS 1000000000),(7,aT a),(8,.aF (.one (.bg (a==0)))),(9,.aF (.one (.bg (a==0)))),(14,.aF (.one (.bg (a==1)))),(15,.aF (.one (.bg (a==1)))),(20,.aF (.one (.bg (a==2)))),(21,.aF (.one (.bg (a==2)))),(26,.aF (.one (.bg (a==3)))),(27,.aF (.one (.bg (a==3))))] [(3,[av b,aB 60001 5 A,av c,av d,av e,av f]),(2,[av 0,.v (aR),av 0,av 0,av 0,av 0]),(1000000000,[.dC 1000000100 1 C,av g,av i])]
def OX(P:Program)(W:Array Oper)(A:af)(n:Int)(C:af)(o p a b c d e f g i j k l m:Int):aD:=
 ny P W [[],[],[],[.dL [some [D.J 1 A,I f,I g]] (a1.vals [.agg (bi i j k l m)])],[],[],[],[]] (OW A n C o p a b c d e)
theorem at8{A:af}{n:Int}{C:af}{o p i j f g k l m a b c d e:Int}
  (h:cO [b4 prog 108 [aM.cur [D.J 1 A,I f,I g] [D.J 1 A,I l,I m]] (a1.vals [.agg (bi a b c d e)]),(C.length+[(bi a b c d e)].length)*40<=140737488355328,C.length+[(bi a b c d e)].length<=9223372036854775807,Flat [(bi a b c d e)]]):
  ey prog (cT f63 10) (OW A n C o p i j f g k) (OX prog (cT f63 10) A n C o p i j f g k l m a b c d e):=
 .nV [0,0,0,1,0,3,0,0] h
theorem at9(h:ad (A6 A a0 b8 d C e f b c g i a c9 d0 [.b (a==0) false,.b (a==1) false,.b (a==2) false,.b (a==3) true,.a (.iL (OX prog (cT f63 10) A d C e f b c g i a j k l m n o p)),.p (ey prog (cT f63 10) (OW A d C e f b c g i a) (OX prog (cT f63 10) A d C e f b c g i a j k l m n o p))])):
 cb 63 [aM.cur [D.J 1 A,I c9,I d0] [D.J 1 A,I j,I k]] (a1.vals [.agg (bU d (C++[(bi l m n o p)]) e f b c)]):=
 h.cc
theorem aua(h:ad (A6 A d e f C g i k l b c a j m [.b (a==0) false,.b (a==1) false,.b (a==2) false,.b (a==3) false,.b (a==4) true,.v (1000000000-(C.length:Int))])):
 cb 63 [aM.cur [D.J 1 A,I j,I m] [D.J 1 A,I b,I c]] (a1.vals [.agg (bU f C g i 1000000000 (1000000000-(C.length:Int)))]):=
 h.cc
theorem aub(h:ad (A6 A f g i C j k b c d e a l m [.b (a==0) false,.b (a==1) false,.b (a==2) false,.b (a==3) false,.b (a==4) false])):
 cb 63 [aM.cur [D.J 1 A,I l,I m] [D.J 1 A,I d,I e]] (a1.vals [.agg (bU i C j k b c)]):=
 h.cc
def IB(A:af)(a b c d e f g i j:Int)(l:List O):List O:=.a (.dL [some [D.J 1 A,I a,I b]] (a1.vals [.agg (bi c d e f g)]))::.p (b4 prog 109 [aM.cur [D.J 1 A,I i,I j] [D.J 1 A,I a,I b]] (a1.vals [.agg (bi c d e f g)]))::l
theorem auc(h:ad (IB A m n b8 b p c d o a0 [.b (decide ((C.length:Int)>0)) true,.w A e f g,.y A i j q,.k A 61 m n e f (C.length:Int) g,.m A 66 e f i j 4 q,.b q true,.w A k l a,.k A 61 i j k l 2 a,.v (5+a)])):
 cb 154 [aM.cur [D.J 1 A,I o,I a0] [D.J 1 A,I k,I l],aM.ro (.agg (bz C c9 d0))] (a1.vals [.agg (bi g b (5+a) c d)]):=
 h.cc
theorem aud(h:ad (IB A k l o a b c d m n [.b (decide ((C.length:Int)>0)) true,.w A e f g,.y A i j q,.k A 61 k l e f (C.length:Int) g,.m A 66 e f i j 4 q,.b q false])):
 cb 154 [aM.cur [D.J 1 A,I m,I n] [D.J 1 A,I i,I j],aM.ro (.agg (bz C p a0))] (a1.vals [.agg (bi g a b c d)]):=
 h.cc
theorem aue(h:ad (IB A j k l b n c d m o [.b (decide ((C.length:Int)>0)) false,.y A e f q,.m A 66 j k e f 4 q,.b q true,.w A g i a,.k A 61 e f g i 2 a,.v (5+a)])):
 cb 154 [aM.cur [D.J 1 A,I m,I o] [D.J 1 A,I g,I i],aM.ro (.agg (bz C p a0))] (a1.vals [.agg (bi l b (5+a) c d)]):=
 h.cc
theorem auf(h:ad (IB A g i j a b c d k l [.b (decide ((C.length:Int)>0)) false,.y A e f q,.m A 66 g i e f 4 q,.b q false])):
 cb 154 [aM.cur [D.J 1 A,I k,I l] [D.J 1 A,I e,I f],aM.ro (.agg (bz C m n))] (a1.vals [.agg (bi j a b c d)]):=
 h.cc
def r'(A:af)(a:Int)(E F G H aj K L M C:af)(b c d e:Int):aD:=a' 48 [(0,aS 1000000000),(3,aS 3),(4,aS 4),(5,aS 5),(6,aT a)] [(5,[aB 900006000 5 E,aB 900006001 5 F,aB 900006002 5 G,aB 900006003 4 H,aB 900006004 1 aj,aB 900006005 1 K,aB 900006006 1 L,aB 900006007 2 M]),(4,[.v (aR),.v (aR),.v (aR),.v (aR),.v (aR),.v (aR),.v (aR),.v (aR)]),(3,[.J .free 4 C,av b,av c]),(1000000000,[.dC 1000000100 1 A,av d,av e])]
def IA(A:af)(a b c d e f g i j:Int)(l:List O):List O:=Iy A a b c d e (.b (decide (f<c)) true::.w A g i j::.k A 61 a b g i 5 j::l)
theorem aug(h:ad (IA A d e f k l a g i j [.b (j==0) true,.r 152 [.agg (bz C b c),.agg (aX E F G H aj K L M)] [.agg (aX N Q R S bc V X Y),ak q],.u a])):
 aV (ap f107 0) (r' A a E F G H aj K L M C b c k l) .normal (r' A (a+1) N Q R S bc V X Y C b c g i):=
 h.rK [(6000000,900006000,5),(6000001,900006001,5),(6000002,900006002,5),(6000003,900006003,4),(6000004,900006004,1),(6000005,900006005,1),(6000006,900006006,1),(6000007,900006007,2)] [6,0,3,5,4] [5,4,3,1000000000]
def OY(A:af)(b:Int)(E F G H aj K L M C:af)(d e c f g a:Int):aD:=a' 48 [(0,aS 1000000000),(3,aS 3),(4,aS 4),(5,aS 5),(6,aT b),(10,aT b),(11,aS 1000000000),(12,aT c),(13,.aF (.one (.bg (decide (b<c))))),(16,aS 1000000000),(17,aT a),(24,.aF (.one (.bg (a==0)))),(25,.aF (.one (.bg (a==0)))),(32,.aF (.one (.bg (a==1)))),(33,.aF (.one (.bg (a==1))))] [(5,[aB 900006000 5 E,aB 900006001 5 F,aB 900006002 5 G,aB 900006003 4 H,aB 900006004 1 aj,aB 900006005 1 K,aB 900006006 1 L,aB 900006007 2 M]),(4,[.v (aR),.v (aR),.v (aR),.v (aR),.v (aR),.v (aR),.v (aR),.v (aR)]),(3,[.J .free 4 C,av d,av e]),(1000000000,[.dC 1000000100 1 A,av f,av g])]
def OZ(P:Program)(W:Array Oper)(A:af)(a:Int)(C E F G H aj K L M:af)(b c d e f g i j k l m n o:Int)(N Q R S bc V X Y:af):aD:=
 ny P W [[],[],[],[.dL [some [D.J 1 A,I i,I j],none] (a1.vals [.agg (bi k l m n o)])],[.res [.agg (aX N Q R S bc V X Y)]],[]] (OY A a C E F G H aj K L M b c d e f g)
theorem auh{A:af}{k:Int}{C E F G H aj K L M:af}{a b l c d m n o e f g i j:Int}{N Q R S bc V X Y:af}
  (h:cO [b4 prog 154 [aM.cur [D.J 1 A,I c,I d] [D.J 1 A,I n,I o],aM.ro (.agg (bz M a b))] (a1.vals [.agg (bi e f g i j)]),ar 153 [.agg (aX C E F G H aj K L),.agg (bi e f g i j)] [.agg (aX N Q R S bc V X Y)]]):
  ey prog (cT f107 10) (OY A k C E F G H aj K L M a b l c d m) (OZ prog (cT f107 10) A k C E F G H aj K L M a b l c d m n o e f g i j N Q R S bc V X Y):=
 .nV [0,0,0,1,1,0] h
theorem aui(h:ad (IA A i j c m n a f g b [.b (b==0) false,.b (b==1) true,.a (.iL (OZ prog (cT f107 10) A a E F G H aj K L M C d e c f g b k l o p a0 b8 c9 N Q R S bc V X Y)),.p (ey prog (cT f107 10) (OY A a E F G H aj K L M C d e c f g b) (OZ prog (cT f107 10) A a E F G H aj K L M C d e c f g b k l o p a0 b8 c9 N Q R S bc V X Y)),.u a])):
 aV (ap f107 0) (r' A a E F G H aj K L M C d e m n) .normal (r' A (a+1) N Q R S bc V X Y C d e k l):=
 h.rK [(6000000,900006000,5),(6000001,900006001,5),(6000002,900006002,5),(6000003,900006003,4),(6000004,900006004,1),(6000005,900006005,1),(6000006,900006006,1),(6000007,900006007,2)] [6,0,3,5,4] [5,4,3,1000000000]
theorem XP(h:ad (IA A c d e k l b f g a [.b (a==0) false,.b (a==1) false,.b (a==2) true,.r 155 [.agg (aX C E F G H aj K L)] [.agg (aX N Q R S bc V X Y),.agg (bi m n o p a0),ak q],.u b])):
 aV (ap f107 0) (r' A b C E F G H aj K L M i j k l) .normal (r' A (b+1) N Q R S bc V X Y M i j f g):=
 h.rK [(6000000,900006000,5),(6000001,900006001,5),(6000002,900006002,5),(6000003,900006003,4),(6000004,900006004,1),(6000005,900006005,1),(6000006,900006006,1),(6000007,900006007,2)] [6,0,3,5,4] [5,4,3,1000000000]
theorem auj(h:ad (IA A e f g k l b i j a [.b (a==0) false,.b (a==1) false,.b (a==2) false,.r 156 [.agg (bz C c d),.agg (aX E F G H aj K L M)] [.agg (aX N Q R S bc V X Y),ak q],.u b])):
 aV (ap f107 0) (r' A b E F G H aj K L M C c d k l) .normal (r' A (b+1) N Q R S bc V X Y C c d i j):=
 h.rK [(6000000,900006000,5),(6000001,900006001,5),(6000002,900006002,5),(6000003,900006003,4),(6000004,900006004,1),(6000005,900006005,1),(6000006,900006006,1),(6000007,900006007,2)] [6,0,3,5,4] [5,4,3,1000000000]
def On(A C E F G H aj K L:af)(b a:Int):aD:=a' 48 [(0,aS 1000000000),(4,aS 4),(5,aS 5)] [(5,[aB 900006000 5 C,aB 900006001 5 E,aB 900006002 5 F,aB 900006003 4 G,aB 900006004 1 H,aB 900006005 1 aj,aB 900006006 1 K,aB 900006007 2 L]),(4,[.v (aR),.v (aR),.v (aR),.v (aR),.v (aR),.v (aR),.v (aR),.v (aR)]),(1000000000,[.dC 1000000100 1 A,av b,av a])]
theorem auk(h:ad (Iy A a b c e f [.b (decide (d<c)) false])):
 aV (ap f107 0) (r' A d C E F G H aj K L M g i e f) (.exit 0) (On A C E F G H aj K L a b):=
 h.aQ [5,4,0] [5,4,1000000000]
theorem aul(h:ad [.a (.dL [some [D.J 1 A,I a,I b]] (a1.vals [aP 5 C])),.p (b4 prog 100 [aM.cur [D.J 1 A,I c,I d] [D.J 1 A,I a,I b]] (a1.vals [aP 5 C])),.r 58 [aP 5 C] [.agg (aX E F G H aj K L M)],.l [(6000000,900006000,5),(6000001,900006001,5),(6000002,900006002,5),(6000003,900006003,4),(6000004,900006004,1),(6000005,900006005,1),(6000006,900006006,1),(6000007,900006007,2)] [6,0,3,5,4] [5,4,3,1000000000] (ap f107 0) (r' A 0 E F G H aj K L M Z g i a b) (.exit 0) (On A N Q R S bc V X Y e f)]):
 cb 107 [aM.cur [D.J 1 A,I c,I d] [D.J 1 A,I e,I f],aM.ro (.agg (bz Z g i))] (a1.vals [.agg (aX N Q R S bc V X Y)]):=
 h.cc
def Oo(M A:af)(b c:Int)(F G H aj K L C E:af)(d e a:Int):aD:=a' 80 [(0,aS 1000000000),(1,aI.aF (bp.agg [.J .free 4 A,av b,av c])),(3,aS 3),(4,aS 4),(5,aS 5),(6,aS 1000000000),(7,aI.aF (bp.agg [.J .free 4 A,av b,av c])),(8,aI.aF (bp.agg [aB 90000 5 F,aB 90001 5 G,aB 90002 5 H,aB 90003 4 aj,aB 90004 1 K,aB 90005 1 L,aB 90006 1 C,aB 90007 2 E])),(9,aS 1000000000),(10,aT a),(11,.aF (.one (.bg (a==0)))),(12,.aF (.one (.bg (a==0))))] [(5,[aB 90000 5 F,aB 90001 5 G,aB 90002 5 H,aB 90003 4 aj,aB 90004 1 K,aB 90005 1 L,aB 90006 1 C,aB 90007 2 E]),(4,[.v (aR),.v (aR),.v (aR),.v (aR),.v (aR),.v (aR),.v (aR),.v (aR)]),(3,[.J .free 4 A,av b,av c]),(1000000000,[.dC 1000000100 1 M,av d,av e])]
def Oq(P:Program)(W:Array Oper)(A L:af)(l m:Int)(M C E F G H aj K:af)(a b c d e f g i j k:Int):aD:=
 ny P W [[],[],[],[.dL [some [D.J 1 A,I d,I e]] (a1.vals [.agg (bi f g i j k)])],[],[],[],[]] (Oo A L l m M C E F G H aj K a b c)
theorem aum{A M:af}{l m:Int}{C E F G H aj K L:af}{f g i j k a b c d e:Int}
  (h:cO [b4 prog 108 [aM.cur [D.J 1 A,I f,I g] [D.J 1 A,I j,I k]] (a1.vals [.agg (bi a b c d e)]),(C.length+[(bi a b c d e)].length)*40<=140737488355328,C.length+[(bi a b c d e)].length<=9223372036854775807,Flat [(bi a b c d e)]]):
  ey prog (cT f62 4) (Oo A M l m C E F G H aj K L f g i) (Oq prog (cT f62 4) A M l m C E F G H aj K L f g i j k a b c d e):=
 .nV [0,0,0,1,0,3,0,0] h
def Qq(A:af)(a b:Int)(C E F G H aj K L:af)(c d e f g:Int)(M:af)(i j:Int)(l:List O):List O:=.a (.dL [some [D.J 1 A,I a,I b],none] (a1.vals [.agg (aX C E F G H aj K L)]))::.w A c d e::.p (b4 prog 107 [aM.cur [D.J 1 A,I f,I g] [D.J 1 A,I a,I b],aM.ro (.agg (bz M i j))] (a1.vals [.agg (aX C E F G H aj K L)]))::.k A 61 a b c d 16 e::l
theorem aun(h:ad (Qq A n o L C E F G H aj K b c a p a0 M d e [.b (a==0) true,.a (.iL (Oq prog (cT f62 4) A M d e L C E F G H aj K b c a f g i j k l m)),.p (ey prog (cT f62 4) (Oo A M d e L C E F G H aj K b c a) (Oq prog (cT f62 4) A M d e L C E F G H aj K b c a f g i j k l m))])):
 cb 62 [aM.cur [D.J 1 A,I p,I a0] [D.J 1 A,I f,I g],aM.ro (.agg (bz M d e))] (a1.vals [.agg (aX (L++[(bi i j k l m)]) C E F G H aj K)]):=
 h.cc
def Ot(M A:af)(b c:Int)(F G H aj K L C E:af)(d e a:Int):aD:=a' 80 [(0,aS 1000000000),(1,aI.aF (bp.agg [.J .free 4 A,av b,av c])),(3,aS 3),(4,aS 4),(5,aS 5),(6,aS 1000000000),(7,aI.aF (bp.agg [.J .free 4 A,av b,av c])),(8,aI.aF (bp.agg [aB 90000 5 F,aB 90001 5 G,aB 90002 5 H,aB 90003 4 aj,aB 90004 1 K,aB 90005 1 L,aB 90006 1 C,aB 90007 2 E])),(9,aS 1000000000),(10,aT a),(11,.aF (.one (.bg (a==0)))),(12,.aF (.one (.bg (a==0)))),(20,.aF (.one (.bg (a==1)))),(21,.aF (.one (.bg (a==1))))] [(5,[aB 90000 5 F,aB 90001 5 G,aB 90002 5 H,aB 90003 4 aj,aB 90004 1 K,aB 90005 1 L,aB 90006 1 C,aB 90007 2 E]),(4,[.v (aR),.v (aR),.v (aR),.v (aR),.v (aR),.v (aR),.v (aR),.v (aR)]),(3,[.J .free 4 A,av b,av c]),(1000000000,[.dC 1000000100 1 M,av d,av e])]
def Ou(P:Program)(W:Array Oper)(A L:af)(l m:Int)(M C E F G H aj K:af)(a b c d e f g i j k:Int):aD:=
 ny P W [[],[],[],[.dL [some [D.J 1 A,I d,I e]] (a1.vals [.agg (bi f g i j k)])],[],[],[],[]] (Ot A L l m M C E F G H aj K a b c)
theorem auo{A L:af}{l m:Int}{M E C F G H aj K:af}{f g i j k a b c d e:Int}
  (h:cO [b4 prog 109 [aM.cur [D.J 1 A,I f,I g] [D.J 1 A,I j,I k]] (a1.vals [.agg (bi a b c d e)]),(C.length+[(bi a b c d e)].length)*40<=140737488355328,C.length+[(bi a b c d e)].length<=9223372036854775807,Flat [(bi a b c d e)]]):
  ey prog (cT f62 6) (Ot A L l m M E C F G H aj K f g i) (Ou prog (cT f62 6) A L l m M E C F G H aj K f g i j k a b c d e):=
 .nV [0,0,0,1,0,3,0,0] h
theorem aup(h:ad (Qq A n o L C E F G H aj K b c a p a0 M d e [.b (a==0) false,.b (a==1) true,.a (.iL (Ou prog (cT f62 6) A M d e L C E F G H aj K b c a f g i j k l m)),.p (ey prog (cT f62 6) (Ot A M d e L C E F G H aj K b c a) (Ou prog (cT f62 6) A M d e L C E F G H aj K b c a f g i j k l m))])):
 cb 62 [aM.cur [D.J 1 A,I p,I a0] [D.J 1 A,I f,I g],aM.ro (.agg (bz M d e))] (a1.vals [.agg (aX L C (E++[(bi i j k l m)]) F G H aj K)]):=
 h.cc
def Ov(M A:af)(b c:Int)(F G H aj K L C E:af)(d e a:Int):aD:=a' 80 [(0,aS 1000000000),(1,aI.aF (bp.agg [.J .free 4 A,av b,av c])),(3,aS 3),(4,aS 4),(5,aS 5),(6,aS 1000000000),(7,aI.aF (bp.agg [.J .free 4 A,av b,av c])),(8,aI.aF (bp.agg [aB 90000 5 F,aB 90001 5 G,aB 90002 5 H,aB 90003 4 aj,aB 90004 1 K,aB 90005 1 L,aB 90006 1 C,aB 90007 2 E])),(9,aS 1000000000),(10,aT a),(11,.aF (.one (.bg (a==0)))),(12,.aF (.one (.bg (a==0)))),(20,.aF (.one (.bg (a==1)))),(21,.aF (.one (.bg (a==1)))),(29,.aF (.one (.bg (a==2)))),(30,.aF (.one (.bg (a==2))))] [(5,[aB 90000 5 F,aB 90001 5 G,aB 90002 5 H,aB 90003 4 aj,aB 90004 1 K,aB 90005 1 L,aB 90006 1 C,aB 90007 2 E]),(4,[.v (aR),.v (aR),.v (aR),.v (aR),.v (aR),.v (aR),.v (aR),.v (aR)]),(3,[.J .free 4 A,av b,av c]),(1000000000,[.dC 1000000100 1 M,av d,av e])]
def Ow(P:Program)(W:Array Oper)(A L:af)(g i:Int)(M C E F G H aj K:af)(a b c d e f:Int):aD:=
 ny P W [[],[],[],[.dL [some [D.J 1 A,I d,I e],none] (a1.vals [ae f])],[.own],[],[]] (Ov A L g i M C E F G H aj K a b c)
theorem auq{C L:af}{g i:Int}{M E F G A H aj K:af}{b c d e f a:Int}
  (h:cO [b4 prog 61 [aM.cur [D.J 1 C,I b,I c] [D.J 1 C,I e,I f],aM.ro (ae 4)] (a1.vals [ae a]),(0:Int)<=none.getD 0,none.getD 0<=(some a).getD (A.length:Int),(some a).getD (A.length:Int)<=(A.length:Int)]):
  ey prog (cT f62 8) (Ov C L g i M E F G A H aj K b c d) (Ow prog (cT f62 8) C L g i M E F G A H aj K b c d e f a):=
 .nV [0,0,0,1,3,0,0] h
def IC(A:af)(a b:Int)(C E F G H aj K L:af)(c d e f g:Int)(M:af)(i j:Int)(l:List O):List O:=Qq A a b C E F G H aj K L c d e f g M i j (.b (e==0) false::.b (e==1) false::l)
theorem aur(h:ad (IC A j k L E F G C H aj K b c a l m M d e [.b (a==2) true,.a (.iL (Ow prog (cT f62 8) A M d e L E F G C H aj K b c a f g i)),.p (ey prog (cT f62 8) (Ov A M d e L E F G C H aj K b c a) (Ow prog (cT f62 8) A M d e L E F G C H aj K b c a f g i))])):
 cb 62 [aM.cur [D.J 1 A,I l,I m] [D.J 1 A,I f,I g],aM.ro (.agg (bz M d e))] (a1.vals [.agg [D.J 5 L,D.J 5 E,D.J 5 F,D.J 4 G,D.J 1 (List.take (((some i).getD (C.length:Int)).toNat-0) (List.drop 0 C)),D.J 1 H,D.J 1 aj,D.J 2 K]]):=
 h.cc
def XQ(M A:af)(b c:Int)(F G H aj K L C E:af)(d e a:Int):aD:=a' 80 [(0,aS 1000000000),(1,aI.aF (bp.agg [.J .free 4 A,av b,av c])),(3,aS 3),(4,aS 4),(5,aS 5),(6,aS 1000000000),(7,aI.aF (bp.agg [.J .free 4 A,av b,av c])),(8,aI.aF (bp.agg [aB 90000 5 F,aB 90001 5 G,aB 90002 5 H,aB 90003 4 aj,aB 90004 1 K,aB 90005 1 L,aB 90006 1 C,aB 90007 2 E])),(9,aS 1000000000),(10,aT a),(11,.aF (.one (.bg (a==0)))),(12,.aF (.one (.bg (a==0)))),(20,.aF (.one (.bg (a==1)))),(21,.aF (.one (.bg (a==1)))),(29,.aF (.one (.bg (a==2)))),(30,.aF (.one (.bg (a==2)))),(37,.aF (.one (.bg (a==3)))),(38,.aF (.one (.bg (a==3))))] [(5,[aB 90000 5 F,aB 90001 5 G,aB 90002 5 H,aB 90003 4 aj,aB 90004 1 K,aB 90005 1 L,aB 90006 1 C,aB 90007 2 E]),(4,[.v (aR),.v (aR),.v (aR),.v (aR),.v (aR),.v (aR),.v (aR),.v (aR)]),(3,[.J .free 4 A,av b,av c]),(1000000000,[.dC 1000000100 1 M,av d,av e])]
def Ox(M C:af)(c d:Int)(G H aj K A L E F:af)(a e f b:Int):aD:=a' 80 [(0,aS 1000000000),(1,aI.aF (bp.agg [.J .free 4 C,av c,av d])),(3,aS 3),(4,aS 4),(5,aS 5),(6,aS 1000000000),(7,aI.aF (bp.agg [.J .free 4 C,av c,av d])),(8,aI.aF (bp.agg [aB 90000 5 G,aB 90001 5 H,aB 90002 5 aj,aB 90003 4 K,aB 90004 1 (A.set 0 [I b]),aB 90005 1 L,aB 90006 1 E,aB 90007 2 F])),(9,aS 1000000000),(10,aT a),(11,.aF (.one (.bg (a==0)))),(12,.aF (.one (.bg (a==0)))),(20,.aF (.one (.bg (a==1)))),(21,.aF (.one (.bg (a==1)))),(29,.aF (.one (.bg (a==2)))),(30,.aF (.one (.bg (a==2)))),(37,.aF (.one (.bg (a==3)))),(38,.aF (.one (.bg (a==3)))),(39,.aF (.one (.ptr 5 4))),(40,aI.aF (bp.one (aB 90004 1 (A.set 0 [I b])))),(41,aS 1000000000),(42,.aF (.one (.J (.own 42) 1 [[I 1000000],[I 1000001],[I (-1000001)]]))),(43,aT b),(44,.aF (.one (.ep (Tag.own 90004) 1 (A.set 0 [I b]) 0 0)))] [(5,[aB 90000 5 G,aB 90001 5 H,aB 90002 5 aj,aB 90003 4 K,aB 90004 1 (A.set 0 [I b]),aB 90005 1 L,aB 90006 1 E,aB 90007 2 F]),(4,[.v (aR),.v (aR),.v (aR),.v (aR),.v (aR),.v (aR),.v (aR),.v (aR)]),(3,[.J .free 4 C,av c,av d]),(1000000000,[.dC 1000000100 1 M,av e,av f])]
theorem aus{A L:af}{g i:Int}{M E F G C H aj K:af}{d e f a b c:Int}{d25:D}
  (h:cO [b4 prog 64 [aM.cur [D.J 1 A,I d,I e] [D.J 1 A,I a,I b],aM.ro (.one (.J 1 [[I 1000000],[I 1000001],[I (-1000001)]]))] (a1.vals [ae c]),(0:Int)<=0,0<(C.length:Int),C[0]?=some [d25]]):
  ey prog (cT f62 10) (XQ A L g i M E F G C H aj K d e f) (Ox A L g i M E F G C H aj K f a b c):=
 .of [[],[],[],[],[.dL [some [D.J 1 A,I a,I b],none] (a1.vals [ae c])],[],[.el [d25]]] [[],[],[],[],[b4 prog 64 [aM.cur [D.J 1 A,I d,I e] [D.J 1 A,I a,I b],aM.ro (.one (.J 1 [[I 1000000],[I 1000001],[I (-1000001)]]))] (a1.vals [ae c])],[(0:Int)<=0,0<(C.length:Int)],[C[0]?=some [d25]]] (by kernel_rfl) (by kernel_rfl) (by kernel_rfl) h
theorem aut(h:ad (IC A j k L C E F G H aj K d e a l m M b c [.b (a==2) false,.b (a==3) true,.a (.iL (Ox A M b c L C E F G H aj K a f g i)),.p (ey prog (cT f62 10) (XQ A M b c L C E F G H aj K d e a) (Ox A M b c L C E F G H aj K a f g i))])):
 cb 62 [aM.cur [D.J 1 A,I l,I m] [D.J 1 A,I f,I g],aM.ro (.agg (bz M b c))] (a1.vals [.agg (aX L C E F (G.set 0 [I i]) H aj K)]):=
 h.cc
def Oy(M A:af)(b c:Int)(F G H aj K L C E:af)(d e a:Int):aD:=a' 80 [(0,aS 1000000000),(1,aI.aF (bp.agg [.J .free 4 A,av b,av c])),(3,aS 3),(4,aS 4),(5,aS 5),(6,aS 1000000000),(7,aI.aF (bp.agg [.J .free 4 A,av b,av c])),(8,aI.aF (bp.agg [aB 90000 5 F,aB 90001 5 G,aB 90002 5 H,aB 90003 4 aj,aB 90004 1 K,aB 90005 1 L,aB 90006 1 C,aB 90007 2 E])),(9,aS 1000000000),(10,aT a),(11,.aF (.one (.bg (a==0)))),(12,.aF (.one (.bg (a==0)))),(20,.aF (.one (.bg (a==1)))),(21,.aF (.one (.bg (a==1)))),(29,.aF (.one (.bg (a==2)))),(30,.aF (.one (.bg (a==2)))),(37,.aF (.one (.bg (a==3)))),(38,.aF (.one (.bg (a==3)))),(45,.aF (.one (.bg (a==4)))),(46,.aF (.one (.bg (a==4))))] [(5,[aB 90000 5 F,aB 90001 5 G,aB 90002 5 H,aB 90003 4 aj,aB 90004 1 K,aB 90005 1 L,aB 90006 1 C,aB 90007 2 E]),(4,[.v (aR),.v (aR),.v (aR),.v (aR),.v (aR),.v (aR),.v (aR),.v (aR)]),(3,[.J .free 4 A,av b,av c]),(1000000000,[.dC 1000000100 1 M,av d,av e])]
def Oz(P:Program)(W:Array Oper)(A L:af)(g i:Int)(M C E F G H aj K:af)(a b c d e f:Int):aD:=
 ny P W [[],[],[],[.dL [some [D.J 1 A,I d,I e],none] (a1.vals [ae f])],[],[],[],[],[],[]] (Oy A L g i M C E F G H aj K a b c)
theorem auu{A L:af}{g i:Int}{M E F G H aj K C:af}{b c d e f a:Int}
  (h:cO [b4 prog 61 [aM.cur [D.J 1 A,I b,I c] [D.J 1 A,I e,I f],aM.ro (ae 6)] (a1.vals [ae a]),aL .i64 (a-1),(C.length+[[I (a-1),B false]].length)*16<=140737488355328,C.length+[[I (a-1),B false]].length<=9223372036854775807,Flat [[I (a-1),B false]]]):
  ey prog (cT f62 12) (Oy A L g i M E F G H aj K C b c d) (Oz prog (cT f62 12) A L g i M E F G H aj K C b c d e f a):=
 .nV [0,0,0,1,1,0,0,3,0,0] h
theorem auv(h:ad (IC A j k L C E F G H aj K b c a l m M d e [.b (a==2) false,.b (a==3) false,.b (a==4) true,.a (.iL (Oz prog (cT f62 12) A M d e L C E F G H aj K b c a f g i)),.p (ey prog (cT f62 12) (Oy A M d e L C E F G H aj K b c a) (Oz prog (cT f62 12) A M d e L C E F G H aj K b c a f g i))])):
 cb 62 [aM.cur [D.J 1 A,I l,I m] [D.J 1 A,I f,I g],aM.ro (.agg (bz M d e))] (a1.vals [.agg (aX L C E F G H aj (K++[[I (i-1),B false]]))]):=
 h.cc
def ID(A:af)(a b:Int)(C E F G H aj K L:af)(c d e f g:Int)(M:af)(i j:Int)(l:List O):List O:=IC A a b C E F G H aj K L c d e f g M i j (.b (e==2) false::.b (e==3) false::.b (e==4) false::l)
theorem atW(h:ad (ID A g i K C E F G H aj L b c a j k M l m [.b (a==5) true,.w A d e f,.k A 61 b c d e 2 f])):
 cb 62 [aM.cur [D.J 1 A,I j,I k] [D.J 1 A,I d,I e],aM.ro (.agg (bz M l m))] (a1.vals [.agg [D.J 5 K,D.J 5 C,D.J 5 E,D.J 4 F,D.J 1 G,D.J 1 H,D.J 1 aj,D.J 2 [[I 1,B false],[I f,B true]]]]):=
 h.cc
theorem atX(h:ad (ID A d e L E F G H C aj K b c a f g M i j [.b (a==5) false,.b (a==6) true,.g C [[B true]] 1,.h [[B true]]])):
 cb 62 [aM.cur [D.J 1 A,I f,I g] [D.J 1 A,I b,I c],aM.ro (.agg (bz M i j))] (a1.vals [.agg (aX L E F G H (C++[[B true]]) aj K)]):=
 h.cc
theorem atY(h:ad (ID A d e L E F C G H aj K b c a f g M i j [.b (a==5) false,.b (a==6) false,.b (a==7) true,.g C [[I 0,I 0,I 0,I 0]] 32,.h [[I 0,I 0,I 0,I 0]]])):
 cb 62 [aM.cur [D.J 1 A,I f,I g] [D.J 1 A,I b,I c],aM.ro (.agg (bz M i j))] (a1.vals [.agg (aX L E F (C++[[I 0,I 0,I 0,I 0]]) G H aj K)]):=
 h.cc
theorem atZ(h:ad (ID A d e L C E F G H aj K b c a f g M i j [.b (a==5) false,.b (a==6) false,.b (a==7) false])):
 cb 62 [aM.cur [D.J 1 A,I f,I g] [D.J 1 A,I b,I c],aM.ro (.agg (bz M i j))] (a1.vals [.agg (aX L C E F G H aj K)]):=
 h.cc
def Ic(H aj:af)(c d e f:Int)(K G:af)(a b:Int)(A C E F:af)(q:Bool):aD:=a' 30 [(0,aS 1000000000),(2,aS 2),(3,aS 3),(4,.aF (.one (.bg q))),(5,aI.gx [bp.agg [aB 110000 4 G,av a,av b,aB 110003 8 A,aB 110004 6 C,aB 110005 5 E,aB 110006 3 F],bp.one (aG.bg q)]),(6,aS 1000000000),(7,aI.aF (bp.agg [aB 80000 4 aj,av c,av d])),(8,aS 1000000000),(9,aI.aF (bp.one (aB 100000 5 K))),(10,aI.gx [bp.agg [aB 110000 4 G,av a,av b,aB 110003 8 A,aB 110004 6 C,aB 110005 5 E,aB 110006 3 F],bp.one (aG.bg q)]),(11,aI.aF (bp.agg [aB 110000 4 G,av a,av b,aB 110003 8 A,aB 110004 6 C,aB 110005 5 E,aB 110006 3 F])),(12,.aF (.one (.bg q)))] [(3,[aB 110000 4 G,av a,av b,aB 110003 8 A,aB 110004 6 C,aB 110005 5 E,aB 110006 3 F]),(2,[.v (aR),av 0,av 0,.v (aR),.v (aR),.v (aR),.v (aR)]),(1000000000,[.dC 1000000100 1 H,av e,av f])]
def D1(P:Program)(W:Array Oper)(A bc:af)(j k a b:Int)(C E:af)(c d:Int)(F G H aj:af)(q:Bool)(e f:Int)(K L:af)(g i:Int)(M N Q R S:af):aD:=
 ny P W [[],[],[.dL [some [D.J 1 A,I e,I f],none] (a1.vals [aP 3 K])],[.res [.agg (cl L g i M N Q R),aP 1 S]],[],[],[],[]] (Ic A bc j k a b C E c d F G H aj q)
theorem Ie{A bc:af}{j k a b:Int}{K C:af}{c d:Int}{E F G H:af}{q:Bool}{e f:Int}{aj L:af}{g i:Int}{M N Q R S:af}
  (h:cO [b4 prog 102 [aM.cur [D.J 1 A,I a,I b] [D.J 1 A,I e,I f],aM.ro (ae 40)] (a1.vals [aP 3 aj]),ar 101 [.agg (cl C c d E F G H),aP 3 aj] [.agg (cl L g i M N Q R),aP 1 S]]):
  ey prog (cT f53 2) (Ic A bc j k a b K C c d E F G H q) (D1 prog (cT f53 2) A bc j k a b K C c d E F G H q e f aj L g i M N Q R S):=
 .nV [0,0,1,1,0,0,0,0] h
def PO(Q R:af)(e i:Int)(bc K:af)(c d:Int)(L M A C:af)(q:Bool)(S E:af)(a b:Int)(F G H aj N:af)(f g:Int)(r:Bool):aD:=a' 30 [(0,aS 1000000000),(2,aS 2),(3,aS 3),(4,.aF (.one (.bg q))),(5,aI.gx [bp.agg [aB 110000 4 K,av c,av d,aB 110003 8 L,aB 110004 6 M,aB 110005 5 A,aB 110006 3 C],bp.one (aG.bg q)]),(6,aS 1000000000),(7,aI.aF (bp.agg [aB 80000 4 R,av e,av i])),(8,aS 1000000000),(9,aI.aF (bp.one (aB 100000 5 bc))),(10,aI.gx [bp.agg [aB 110000 4 K,av c,av d,aB 110003 8 L,aB 110004 6 M,aB 110005 5 A,aB 110006 3 C],bp.one (aG.bg q)]),(11,aI.aF (bp.agg [aB 110000 4 K,av c,av d,aB 110003 8 L,aB 110004 6 M,aB 110005 5 A,aB 110006 3 C])),(12,.aF (.one (.bg q))),(13,aI.gx [bp.agg [aB 180000 4 E,av a,av b,aB 180003 8 F,aB 180004 6 G,aB 180005 5 H,aB 180006 3 aj],bp.one (aB 180100 1 N)]),(14,aI.aF (bp.agg [aB 110000 4 K,av c,av d,aB 110003 8 L,aB 110004 6 M,aB 110005 5 A,aB 110006 3 C])),(15,aS 1000000000),(16,aI.aF (bp.one (aB 170000 3 S))),(17,aI.gx [bp.agg [aB 180000 4 E,av a,av b,aB 180003 8 F,aB 180004 6 G,aB 180005 5 H,aB 180006 3 aj],bp.one (aB 180100 1 N)]),(18,aI.aF (bp.agg [aB 180000 4 E,av a,av b,aB 180003 8 F,aB 180004 6 G,aB 180005 5 H,aB 180006 3 aj])),(19,aI.aF (bp.one (aB 180100 1 N))),(20,aS 1000000000),(21,.aF (.one (.bg r)))] [(3,[aB 180000 4 E,av a,av b,aB 180003 8 F,aB 180004 6 G,aB 180005 5 H,aB 180006 3 aj]),(2,[.v (aR),av 0,av 0,.v (aR),.v (aR),.v (aR),.v (aR)]),(1000000000,[.dC 1000000100 1 Q,av f,av g])]
def PQ(P:Program)(W:Array Oper)(A dz:af)(n o:Int)(C E:af)(a b:Int)(F G H aj:af)(q:Bool)(K L:af)(c d:Int)(M N Q R S:af)(e f:Int)(r:Bool)(g i j:Int)(bc:af)(k l:Int)(V X Y Z:af)(m:Int):aD:=
 ny P W [[],[],[.dL [some [D.J 1 A,I g,I i],none] (a1.vals [ae j])],[.res [.agg (cl bc k l V X Y Z),ae m]],[],[],[],[]] (PO A dz n o C E a b F G H aj q K L c d M N Q R S e f r)
theorem XR{A dz:af}{n o:Int}{aj K:af}{f g:Int}{L M N Q:af}{q:Bool}{R C:af}{a b:Int}{E F G H S:af}{c d:Int}{r:Bool}{i j e:Int}{bc:af}{k l:Int}{V X Y Z:af}{m:Int}
  (h:cO [b4 prog 61 [aM.cur [D.J 1 A,I c,I d] [D.J 1 A,I i,I j],aM.ro (ae 12)] (a1.vals [ae e]),ar 67 [.agg (cl C a b E F G H),ae e] [.agg (cl bc k l V X Y Z),ae m]]):
  ey prog (cT f53 4) (PO A dz n o aj K f g L M N Q q R C a b E F G H S c d r) (PQ prog (cT f53 4) A dz n o aj K f g L M N Q q R C a b E F G H S c d r i j e bc k l V X Y Z m):=
 .nV [0,0,1,1,0,0,0,0] h
def aaV(A:af)(a b:Int)(C:af)(c d e f:Int)(E:af)(g i:Int)(F:af)(j k:Int)(G H aj K:af)(q:Bool)(l:List O):List O:=.a (.dL [some [D.J 1 A,I a,I b]] (a1.vals [.agg (bz C c d)]))::.a (.dL [some [D.J 1 A,I e,I f]] (a1.vals [aP 5 E]))::.p (b4 prog 99 [aM.cur [D.J 1 A,I g,I i] [D.J 1 A,I a,I b]] (a1.vals [.agg (bz C c d)]))::.p (b4 prog 100 [aM.cur [D.J 1 A,I a,I b] [D.J 1 A,I e,I f]] (a1.vals [aP 5 E]))::.r 22 [.agg (bz C c d),aP 5 E] [.agg (cl F j k G H aj K),ak q]::l
theorem XS(h:ad (aaV A p c9 E a b e f C d0 bE F c d G H aj K q [.a (.iL (D1 prog (cT f53 2) A E a b e f C F c d G H aj K q l m L M g i N Q R S bc)),.y A j k r,.p (ey prog (cT f53 2) (Ic A E a b e f C F c d G H aj K q) (D1 prog (cT f53 2) A E a b e f C F c d G H aj K q l m L M g i N Q R S bc)),.m A 66 l m j k 4 r,.b r true,.a (.iL (PQ prog (cT f53 4) A E a b C F c d G H aj K q L M g i N Q R S bc j k r n o f0 V a0 b8 X Y Z dz i0)),.p (ey prog (cT f53 4) (PO A E a b C F c d G H aj K q L M g i N Q R S bc j k r) (PQ prog (cT f53 4) A E a b C F c d G H aj K q L M g i N Q R S bc j k r n o f0 V a0 b8 X Y Z dz i0))])):
 cb 53 [aM.cur [D.J 1 A,I d0,I bE] [D.J 1 A,I n,I o]] (a1.vals [.agg (cl V a0 b8 X Y Z dz)]):=
 h.cc
theorem XT(h:ad (aaV A n o E a b c d C p a0 F e f G H aj K q [.a (.iL (D1 prog (cT f53 2) A E a b c d C F e f G H aj K q g i S L j k M N Q R bc)),.y A l m r,.p (ey prog (cT f53 2) (Ic A E a b c d C F e f G H aj K q) (D1 prog (cT f53 2) A E a b c d C F e f G H aj K q g i S L j k M N Q R bc)),.m A 66 g i l m 4 r,.b r false])):
 cb 53 [aM.cur [D.J 1 A,I p,I a0] [D.J 1 A,I l,I m]] (a1.vals [.agg (cl L j k M N Q R)]):=
 h.cc
def XU(H C:af)(b c:Int)(A E F G:af)(d f e a:Int):aD:=a' 82 [(0,aS 1000000000),(2,aS 2),(3,aS 3),(4,aT d),(5,aS 1000000000),(6,aI.aF (bp.agg [aB 70000 4 C,av b,av c,aB 70003 8 A,aB 70004 6 E,aB 70005 5 F,aB 70006 3 G])),(7,aS 1000000000),(8,.aF (.one (.ptr 3 3))),(9,aI.aF (bp.one (aB 70003 8 A))),(10,aT (A.length:Int)),(11,aT d),(12,aS 1000000000),(13,aT a),(14,.aF (.one (.bg (a==0)))),(15,.aF (.one (.bg (a==0))))] [(3,[aB 70000 4 C,av b,av c,aB 70003 8 A,aB 70004 6 E,aB 70005 5 F,aB 70006 3 G]),(2,[.v (aR),av 0,av 0,.v (aR),.v (aR),.v (aR),.v (aR)]),(1000000000,[.dC 1000000100 1 H,av f,av e])]
def PR(S M:af)(b c:Int)(A N Q R:af)(a d e f:Int)(C E F G H aj K L:af):aD:=a' 82 [(0,aS 1000000000),(2,aS 2),(3,aS 3),(4,aT a),(5,aS 1000000000),(6,aI.aF (bp.agg [aB 70000 4 M,av b,av c,aB 70003 8 (A.set a.toNat (aX C E F G H aj K L)),aB 70004 6 N,aB 70005 5 Q,aB 70006 3 R])),(7,aS 1000000000),(8,.aF (.one (.ptr 3 3))),(9,aI.aF (bp.one (aB 70003 8 (A.set a.toNat (aX C E F G H aj K L))))),(10,aT (A.length:Int)),(11,aT a),(12,aS 1000000000),(13,aT d),(14,.aF (.one (.bg (d==0)))),(15,.aF (.one (.bg (d==0)))),(16,.aF (.one (.ptr 3 3))),(17,aI.aF (bp.one (aB 70003 8 (A.set a.toNat (aX C E F G H aj K L))))),(18,aT a),(19,aS 1000000000),(20,aS 3),(21,aI.aF (bp.agg [aB 70000 4 M,av b,av c])),(22,aI.aF (bp.agg [.cp,.cp,.cp,.cp,.cp,.cp,.cp,.cp])),(23,.aF (.one (.ep (Tag.own 70003) 8 (A.set a.toNat (aX C E F G H aj K L)) a.toNat 0)))] [(3,[aB 70000 4 M,av b,av c,aB 70003 8 (A.set a.toNat (aX C E F G H aj K L)),aB 70004 6 N,aB 70005 5 Q,aB 70006 3 R]),(2,[.v (aR),av 0,av 0,.v (aR),.v (aR),.v (aR),.v (aR)]),(1000000000,[.dC 1000000100 1 S,av e,av f])]
theorem at0{A N:af}{d e:Int}{C Q R S:af}{a f g i b c:Int}{E F G H aj K L M:af}{d32 d33 d34 d35 d36 d37 d38 d39:D}
  (h:cO [b4 prog 62 [aM.cur [D.J 1 A,I f,I g] [D.J 1 A,I b,I c],aM.ro (.agg (bz N d e))] (a1.vals [.agg (aX E F G H aj K L M)]),0<=a,a<(C.length:Int),C[a.toNat]?=some [d32,d33,d34,d35,d36,d37,d38,d39]]):
  ey prog (cT f23 5) (XU A N d e C Q R S a f g i) (PR A N d e C Q R S a i b c E F G H aj K L M):=
 .of [[],[],[],[],[],[],[.dL [some [D.J 1 A,I b,I c],none] (a1.vals [.agg (aX E F G H aj K L M)])],[],[.el [d32,d33,d34,d35,d36,d37,d38,d39]]] [[],[],[],[],[],[],[b4 prog 62 [aM.cur [D.J 1 A,I f,I g] [D.J 1 A,I b,I c],aM.ro (.agg (bz N d e))] (a1.vals [.agg (aX E F G H aj K L M)])],[0<=a,a<(C.length:Int)],[C[a.toNat]?=some [d32,d33,d34,d35,d36,d37,d38,d39]]] (by kernel_rfl) (by kernel_rfl) (by kernel_rfl) h
def Qy(A:af)(a b:Int)(C:af)(c d:Int)(E F G H:af)(e f g i j k m n:Int)(l:List O):List O:=.a (.dL [some [D.J 1 A,I a,I b]] (a1.vals [.agg (cl C c d E F G H)]))::.w A e f g::.w A i j k::.p (b4 prog 53 [aM.cur [D.J 1 A,I m,I n] [D.J 1 A,I a,I b]] (a1.vals [.agg (cl C c d E F G H)]))::.k A 61 a b e f (E.length:Int) g::.k A 61 e f i j 20 k::l
theorem at1(h:ad (Qy A l m H c d C E F G e f a g i b n o [.b (b==0) true,.a (.iL (PR A H c d C E F G a b j k aj K L M N Q R S)),.p (ey prog (cT f23 5) (XU A H c d C E F G a g i b) (PR A H c d C E F G a b j k aj K L M N Q R S))])):
 cb 23 [aM.cur [D.J 1 A,I n,I o] [D.J 1 A,I j,I k]] (a1.vals [.agg (cl H c d (C.set a.toNat (aX aj K L M N Q R S)) E F G)]):=
 h.cc
def XV(H C:af)(b c:Int)(A E F G:af)(d f e a:Int):aD:=a' 82 [(0,aS 1000000000),(2,aS 2),(3,aS 3),(4,aT d),(5,aS 1000000000),(6,aI.aF (bp.agg [aB 70000 4 C,av b,av c,aB 70003 8 A,aB 70004 6 E,aB 70005 5 F,aB 70006 3 G])),(7,aS 1000000000),(8,.aF (.one (.ptr 3 3))),(9,aI.aF (bp.one (aB 70003 8 A))),(10,aT (A.length:Int)),(11,aT d),(12,aS 1000000000),(13,aT a),(14,.aF (.one (.bg (a==0)))),(15,.aF (.one (.bg (a==0)))),(24,.aF (.one (.bg (a==1)))),(25,.aF (.one (.bg (a==1))))] [(3,[aB 70000 4 C,av b,av c,aB 70003 8 A,aB 70004 6 E,aB 70005 5 F,aB 70006 3 G]),(2,[.v (aR),av 0,av 0,.v (aR),.v (aR),.v (aR),.v (aR)]),(1000000000,[.dC 1000000100 1 H,av f,av e])]
def PS(aj F:af)(i j:Int)(E A G H:af)(k g a l m b:Int)(C:af)(c d e f:Int):aD:=a' 82 [(0,aS 1000000000),(2,aS 2),(3,aS 3),(4,aT k),(5,aS 1000000000),(6,aI.aF (bp.agg [aB 70000 4 F,av i,av j,aB 70003 8 E,aB 70004 6 (A.set a.toNat (bU b C c d e f)),aB 70005 5 G,aB 70006 3 H])),(7,aS 1000000000),(8,.aF (.one (.ptr 3 3))),(9,aI.aF (bp.one (aB 70003 8 E))),(10,aT (E.length:Int)),(11,aT k),(12,aS 1000000000),(13,aT g),(14,.aF (.one (.bg (g==0)))),(15,.aF (.one (.bg (g==0)))),(24,.aF (.one (.bg (g==1)))),(25,.aF (.one (.bg (g==1)))),(26,.aF (.one (.ptr 3 4))),(27,aI.aF (bp.one (aB 70004 6 (A.set a.toNat (bU b C c d e f))))),(28,aS 1000000000),(29,.aF (.one (.ptr 3 4))),(30,aI.aF (bp.one (aB 70004 6 (A.set a.toNat (bU b C c d e f))))),(31,aT (A.length:Int)),(32,aT a),(33,aS 1000000000),(34,aI.aF (bp.agg [av b,.cp,av c,av d,av e,av f])),(35,.aF (.one (.ep (Tag.own 70004) 6 (A.set a.toNat (bU b C c d e f)) a.toNat 0)))] [(3,[aB 70000 4 F,av i,av j,aB 70003 8 E,aB 70004 6 (A.set a.toNat (bU b C c d e f)),aB 70005 5 G,aB 70006 3 H]),(2,[.v (aR),av 0,av 0,.v (aR),.v (aR),.v (aR),.v (aR)]),(1000000000,[.dC 1000000100 1 aj,av l,av m])]
theorem at2{A H:af}{p a0:Int}{aj C F G:af}{n l m o b c a d e f:Int}{E:af}{g i j k:Int}{d34 d35 d36 d37 d38 d39:D}
  (h:cO [b4 prog 61 [aM.cur [D.J 1 A,I l,I m] [D.J 1 A,I b,I c],aM.ro (ae (C.length:Int))] (a1.vals [ae a]),b4 prog 63 [aM.cur [D.J 1 A,I b,I c] [D.J 1 A,I d,I e]] (a1.vals [.agg (bU f E g i j k)]),0<=a,a<(C.length:Int),C[a.toNat]?=some [d34,d35,d36,d37,d38,d39]]):
  ey prog (cT f23 7) (XV A H p a0 aj C F G n l m o) (PS A H p a0 aj C F G n o a d e f E g i j k):=
 .of [[],[],[],[],[],[],[.dL [some [D.J 1 A,I b,I c],none] (a1.vals [ae a])],[],[.dL [some [D.J 1 A,I d,I e]] (a1.vals [.agg (bU f E g i j k)])],[],[.el [d34,d35,d36,d37,d38,d39]]] [[],[],[],[],[],[],[b4 prog 61 [aM.cur [D.J 1 A,I l,I m] [D.J 1 A,I b,I c],aM.ro (ae (C.length:Int))] (a1.vals [ae a])],[],[b4 prog 63 [aM.cur [D.J 1 A,I b,I c] [D.J 1 A,I d,I e]] (a1.vals [.agg (bU f E g i j k)])],[0<=a,a<(C.length:Int)],[C[a.toNat]?=some [d34,d35,d36,d37,d38,d39]]] (by kernel_rfl) (by kernel_rfl) (by kernel_rfl) h
theorem at3(h:ad (Qy A b8 c9 H b c C E F G e f d g i a d0 bE [.b (a==0) false,.b (a==1) true,.a (.iL (PS A H b c C E F G d a j k l m aj n o p a0)),.p (ey prog (cT f23 7) (XV A H b c C E F G d g i a) (PS A H b c C E F G d a j k l m aj n o p a0))])):
 cb 23 [aM.cur [D.J 1 A,I d0,I bE] [D.J 1 A,I k,I l]] (a1.vals [.agg (cl H b c C (E.set j.toNat (bU m aj n o p a0)) F G)]):=
 h.cc
def XW(H C:af)(b c:Int)(A E F G:af)(d f e a:Int):aD:=a' 82 [(0,aS 1000000000),(2,aS 2),(3,aS 3),(4,aT d),(5,aS 1000000000),(6,aI.aF (bp.agg [aB 70000 4 C,av b,av c,aB 70003 8 A,aB 70004 6 E,aB 70005 5 F,aB 70006 3 G])),(7,aS 1000000000),(8,.aF (.one (.ptr 3 3))),(9,aI.aF (bp.one (aB 70003 8 A))),(10,aT (A.length:Int)),(11,aT d),(12,aS 1000000000),(13,aT a),(14,.aF (.one (.bg (a==0)))),(15,.aF (.one (.bg (a==0)))),(24,.aF (.one (.bg (a==1)))),(25,.aF (.one (.bg (a==1)))),(36,.aF (.one (.bg (a==2)))),(37,.aF (.one (.bg (a==2))))] [(3,[aB 70000 4 C,av b,av c,aB 70003 8 A,aB 70004 6 E,aB 70005 5 F,aB 70006 3 G]),(2,[.v (aR),av 0,av 0,.v (aR),.v (aR),.v (aR),.v (aR)]),(1000000000,[.dC 1000000100 1 H,av f,av e])]
def PT(H E:af)(d e:Int)(C F A G:af)(f c a g i b:Int)(d14 d15 d16 d17:D):aD:=a' 82 [(0,aS 1000000000),(2,aS 2),(3,aS 3),(4,aT f),(5,aS 1000000000),(6,aI.aF (bp.agg [aB 70000 4 E,av d,av e,aB 70003 8 C,aB 70004 6 F,aB 70005 5 (A.set a.toNat [d14,I (b-1),d15,d16,d17]),aB 70006 3 G])),(7,aS 1000000000),(8,.aF (.one (.ptr 3 3))),(9,aI.aF (bp.one (aB 70003 8 C))),(10,aT (C.length:Int)),(11,aT f),(12,aS 1000000000),(13,aT c),(14,.aF (.one (.bg (c==0)))),(15,.aF (.one (.bg (c==0)))),(24,.aF (.one (.bg (c==1)))),(25,.aF (.one (.bg (c==1)))),(36,.aF (.one (.bg (c==2)))),(37,.aF (.one (.bg (c==2)))),(38,.aF (.one (.ptr 3 5))),(39,aI.aF (bp.one (aB 70005 5 (A.set a.toNat [d14,I (b-1),d15,d16,d17])))),(40,aS 1000000000),(41,aT a),(42,aS 1000000000),(43,aT b),(44,aT (b-1)),(45,.aF (.one (.ep (Tag.own 70005) 5 (A.set a.toNat [d14,I (b-1),d15,d16,d17]) a.toNat 0))),(46,.aF (.one (.ep (Tag.own 70005) 5 (A.set a.toNat [d14,I (b-1),d15,d16,d17]) a.toNat 1)))] [(3,[aB 70000 4 E,av d,av e,aB 70003 8 C,aB 70004 6 F,aB 70005 5 (A.set a.toNat [d14,I (b-1),d15,d16,d17]),aB 70006 3 G]),(2,[.v (aR),av 0,av 0,.v (aR),.v (aR),.v (aR),.v (aR)]),(1000000000,[.dC 1000000100 1 H,av g,av i])]
theorem at4{A G:af}{l m:Int}{H E C F:af}{j g i k c d a e f b:Int}{d29 d30 d31 d32 d33:D}
  (h:cO [b4 prog 61 [aM.cur [D.J 1 A,I g,I i] [D.J 1 A,I c,I d],aM.ro (ae 4)] (a1.vals [ae a]),b4 prog 61 [aM.cur [D.J 1 A,I c,I d] [D.J 1 A,I e,I f],aM.ro (ae 6)] (a1.vals [ae b]),aL .i64 (b-1),0<=a,a<(C.length:Int),C[a.toNat]?=some [d29,d30,d31,d32,d33]]):
  ey prog (cT f23 9) (XW A G l m H E C F j g i k) (PT A G l m H E C F j k a e f b d29 d31 d32 d33):=
 .of [[],[],[],[.dL [some [D.J 1 A,I c,I d],none] (a1.vals [ae a])],[],[.dL [some [D.J 1 A,I e,I f],none] (a1.vals [ae b])],[],[],[],[.el [d29,d30,d31,d32,d33]]] [[],[],[],[b4 prog 61 [aM.cur [D.J 1 A,I g,I i] [D.J 1 A,I c,I d],aM.ro (ae 4)] (a1.vals [ae a])],[],[b4 prog 61 [aM.cur [D.J 1 A,I c,I d] [D.J 1 A,I e,I f],aM.ro (ae 6)] (a1.vals [ae b])],[aL .i64 (b-1)],[0<=a,a<(C.length:Int)],[],[C[a.toNat]?=some [d29,d30,d31,d32,d33]]] (by kernel_rfl) (by kernel_rfl) (by kernel_rfl) h
def A7(A:af)(a b:Int)(C:af)(c d:Int)(E F G H:af)(e f g i j k m n:Int)(l:List O):List O:=Qy A a b C c d E F G H e f g i j k m n (.b (k==0) false::.b (k==1) false::l)
theorem at5{A:af}{p a0 n o:Int}{H:af}{b c:Int}{C E F G:af}{e f d g i a j k l m:Int}{d29 d31 d32 d33:D}(h:ad (A7 A n o H b c C E F G e f d g i a p a0 [.b (a==2) true,.a (.iL (PT A H b c C E F G d a j k l m d29 d31 d32 d33)),.p (ey prog (cT f23 9) (XW A H b c C E F G d g i a) (PT A H b c C E F G d a j k l m d29 d31 d32 d33))])):
 cb 23 [aM.cur [D.J 1 A,I p,I a0] [D.J 1 A,I k,I l]] (a1.vals [.agg (cl H b c C E (F.set j.toNat [d29,I (m-1),d31,d32,d33]) G)]):=
 h.cc
def XX(H C:af)(b c:Int)(A E F G:af)(d f e a:Int):aD:=a' 82 [(0,aS 1000000000),(2,aS 2),(3,aS 3),(4,aT d),(5,aS 1000000000),(6,aI.aF (bp.agg [aB 70000 4 C,av b,av c,aB 70003 8 A,aB 70004 6 E,aB 70005 5 F,aB 70006 3 G])),(7,aS 1000000000),(8,.aF (.one (.ptr 3 3))),(9,aI.aF (bp.one (aB 70003 8 A))),(10,aT (A.length:Int)),(11,aT d),(12,aS 1000000000),(13,aT a),(14,.aF (.one (.bg (a==0)))),(15,.aF (.one (.bg (a==0)))),(24,.aF (.one (.bg (a==1)))),(25,.aF (.one (.bg (a==1)))),(36,.aF (.one (.bg (a==2)))),(37,.aF (.one (.bg (a==2)))),(47,.aF (.one (.bg (a==3)))),(48,.aF (.one (.bg (a==3))))] [(3,[aB 70000 4 C,av b,av c,aB 70003 8 A,aB 70004 6 E,aB 70005 5 F,aB 70006 3 G]),(2,[.v (aR),av 0,av 0,.v (aR),.v (aR),.v (aR),.v (aR)]),(1000000000,[.dC 1000000100 1 H,av f,av e])]
def PU(H E:af)(c d:Int)(C F A G:af)(e a f g b:Int)(d13 d14 d15 d16:D):aD:=a' 82 [(0,aS 1000000000),(2,aS 2),(3,aS 3),(4,aT e),(5,aS 1000000000),(6,aI.aF (bp.agg [aB 70000 4 E,av c,av d,aB 70003 8 C,aB 70004 6 F,aB 70005 5 (A.set 0 [d13,d14,I b,d15,d16]),aB 70006 3 G])),(7,aS 1000000000),(8,.aF (.one (.ptr 3 3))),(9,aI.aF (bp.one (aB 70003 8 C))),(10,aT (C.length:Int)),(11,aT e),(12,aS 1000000000),(13,aT a),(14,.aF (.one (.bg (a==0)))),(15,.aF (.one (.bg (a==0)))),(24,.aF (.one (.bg (a==1)))),(25,.aF (.one (.bg (a==1)))),(36,.aF (.one (.bg (a==2)))),(37,.aF (.one (.bg (a==2)))),(47,.aF (.one (.bg (a==3)))),(48,.aF (.one (.bg (a==3)))),(49,.aF (.one (.ptr 3 5))),(50,aI.aF (bp.one (aB 70005 5 (A.set 0 [d13,d14,I b,d15,d16])))),(51,aS 1000000000),(52,.aF (.one (.J (.own 52) 1 [[I 1000000],[I 1000001],[I (-1000001)],[I 3]]))),(53,aT b),(54,.aF (.one (.ep (Tag.own 70005) 5 (A.set 0 [d13,d14,I b,d15,d16]) 0 0))),(55,.aF (.one (.ep (Tag.own 70005) 5 (A.set 0 [d13,d14,I b,d15,d16]) 0 2)))] [(3,[aB 70000 4 E,av c,av d,aB 70003 8 C,aB 70004 6 F,aB 70005 5 (A.set 0 [d13,d14,I b,d15,d16]),aB 70006 3 G]),(2,[.v (aR),av 0,av 0,.v (aR),.v (aR),.v (aR),.v (aR)]),(1000000000,[.dC 1000000100 1 H,av f,av g])]
theorem avw{A G:af}{i j:Int}{H E C F:af}{f d e g a b c:Int}{d25 d26 d27 d28 d29:D}
  (h:cO [b4 prog 64 [aM.cur [D.J 1 A,I d,I e] [D.J 1 A,I a,I b],aM.ro (.one (.J 1 [[I 1000000],[I 1000001],[I (-1000001)],[I 3]]))] (a1.vals [ae c]),(0:Int)<=0,0<(C.length:Int),C[0]?=some [d25,d26,d27,d28,d29]]):
  ey prog (cT f23 11) (XX A G i j H E C F f d e g) (PU A G i j H E C F f g a b c d25 d26 d28 d29):=
 .of [[],[],[],[],[.dL [some [D.J 1 A,I a,I b],none] (a1.vals [ae c])],[],[],[.el [d25,d26,d27,d28,d29]]] [[],[],[],[],[b4 prog 64 [aM.cur [D.J 1 A,I d,I e] [D.J 1 A,I a,I b],aM.ro (.one (.J 1 [[I 1000000],[I 1000001],[I (-1000001)],[I 3]]))] (a1.vals [ae c])],[(0:Int)<=0,0<(C.length:Int)],[],[C[0]?=some [d25,d26,d27,d28,d29]]] (by kernel_rfl) (by kernel_rfl) (by kernel_rfl) h
theorem avx{A:af}{o p m n:Int}{H:af}{b c:Int}{C E F G:af}{e f d g i a j k l:Int}{d25 d26 d28 d29:D}(h:ad (A7 A m n H b c C E F G e f d g i a o p [.b (a==2) false,.b (a==3) true,.a (.iL (PU A H b c C E F G d a j k l d25 d26 d28 d29)),.p (ey prog (cT f23 11) (XX A H b c C E F G d g i a) (PU A H b c C E F G d a j k l d25 d26 d28 d29))])):
 cb 23 [aM.cur [D.J 1 A,I o,I p] [D.J 1 A,I j,I k]] (a1.vals [.agg (cl H b c C E (F.set 0 [d25,d26,I l,d28,d29]) G)]):=
 h.cc
def Zm(H C:af)(b c:Int)(A E F G:af)(d f e a:Int):aD:=a' 82 [(0,aS 1000000000),(2,aS 2),(3,aS 3),(4,aT d),(5,aS 1000000000),(6,aI.aF (bp.agg [aB 70000 4 C,av b,av c,aB 70003 8 A,aB 70004 6 E,aB 70005 5 F,aB 70006 3 G])),(7,aS 1000000000),(8,.aF (.one (.ptr 3 3))),(9,aI.aF (bp.one (aB 70003 8 A))),(10,aT (A.length:Int)),(11,aT d),(12,aS 1000000000),(13,aT a),(14,.aF (.one (.bg (a==0)))),(15,.aF (.one (.bg (a==0)))),(24,.aF (.one (.bg (a==1)))),(25,.aF (.one (.bg (a==1)))),(36,.aF (.one (.bg (a==2)))),(37,.aF (.one (.bg (a==2)))),(47,.aF (.one (.bg (a==3)))),(48,.aF (.one (.bg (a==3)))),(56,.aF (.one (.bg (a==4)))),(57,.aF (.one (.bg (a==4))))] [(3,[aB 70000 4 C,av b,av c,aB 70003 8 A,aB 70004 6 E,aB 70005 5 F,aB 70006 3 G]),(2,[.v (aR),av 0,av 0,.v (aR),.v (aR),.v (aR),.v (aR)]),(1000000000,[.dC 1000000100 1 H,av f,av e])]
def PV(H E:af)(d e:Int)(A F G C:af)(f a b g i c:Int):aD:=a' 82 [(0,aS 1000000000),(2,aS 2),(3,aS 3),(4,aT f),(5,aS 1000000000),(6,aI.aF (bp.agg [aB 70000 4 E,av d,av e,aB 70003 8 A,aB 70004 6 F,aB 70005 5 G,.J (Tag.ro 70006) 3 C])),(7,aS 1000000000),(8,.aF (.one (.ptr 3 3))),(9,aI.aF (bp.one (aB 70003 8 A))),(10,aT (A.length:Int)),(11,aT f),(12,aS 1000000000),(13,aT a),(14,.aF (.one (.bg (a==0)))),(15,.aF (.one (.bg (a==0)))),(24,.aF (.one (.bg (a==1)))),(25,.aF (.one (.bg (a==1)))),(36,.aF (.one (.bg (a==2)))),(37,.aF (.one (.bg (a==2)))),(47,.aF (.one (.bg (a==3)))),(48,.aF (.one (.bg (a==3)))),(56,.aF (.one (.bg (a==4)))),(57,.aF (.one (.bg (a==4)))),(58,.aF (.one (.ptr 3 6))),(59,.aF (.one (.J (Tag.ro 70006) 3 C))),(60,aS 1000000000),(61,aT b),(62,aT (b-1)),(63,aS 1000000000),(64,aT c),(65,aT (c-1)),(66,aI.aF (bp.agg [av (b-1),av (c-1),.v (Value.bool false)])),(67,.aF (.one (.J (.own 67) 3 [[I (b-1),I (c-1),B false]]))),(68,aI.aF (bp.one (aB 70006 3 (C++[[I (b-1),I (c-1),B false]])))),(69,.aF (.one (.ptr 3 6)))] [(3,[aB 70000 4 E,av d,av e,aB 70003 8 A,aB 70004 6 F,aB 70005 5 G,aB 70006 3 (C++[[I (b-1),I (c-1),B false]])]),(2,[.v (aR),av 0,av 0,.v (aR),.v (aR),.v (aR),.v (aR)]),(1000000000,[.dC 1000000100 1 H,av g,av i])]
theorem avy{A G:af}{l m:Int}{H E F C:af}{j g i k c d a e f b:Int}
  (h:cO [b4 prog 61 [aM.cur [D.J 1 A,I g,I i] [D.J 1 A,I c,I d],aM.ro (ae 6)] (a1.vals [ae a]),aL .i64 (a-1),b4 prog 61 [aM.cur [D.J 1 A,I c,I d] [D.J 1 A,I e,I f],aM.ro (ae 6)] (a1.vals [ae b]),aL .i64 (b-1),(C.length+[[I (a-1),I (b-1),B false]].length)*24<=140737488355328,C.length+[[I (a-1),I (b-1),B false]].length<=9223372036854775807,Flat [[I (a-1),I (b-1),B false]]]):
  ey prog (cT f23 13) (Zm A G l m H E F C j g i k) (PV A G l m H E F C j k a e f b):=
 .of [[],[],[],[.dL [some [D.J 1 A,I c,I d],none] (a1.vals [ae a])],[],[],[.dL [some [D.J 1 A,I e,I f],none] (a1.vals [ae b])],[],[],[],[],[],[]] [[],[],[],[b4 prog 61 [aM.cur [D.J 1 A,I g,I i] [D.J 1 A,I c,I d],aM.ro (ae 6)] (a1.vals [ae a])],[aL .i64 (a-1)],[],[b4 prog 61 [aM.cur [D.J 1 A,I c,I d] [D.J 1 A,I e,I f],aM.ro (ae 6)] (a1.vals [ae b])],[aL .i64 (b-1)],[],[],[(C.length+[[I (a-1),I (b-1),B false]].length)*24<=140737488355328,C.length+[[I (a-1),I (b-1),B false]].length<=9223372036854775807,Flat [[I (a-1),I (b-1),B false]]],[],[]] (by kernel_rfl) (by kernel_rfl) (by kernel_rfl) h
theorem avz(h:ad (A7 A n o H b c C E F G e f d g i a p a0 [.b (a==2) false,.b (a==3) false,.b (a==4) true,.a (.iL (PV A H b c C E F G d a j k l m)),.p (ey prog (cT f23 13) (Zm A H b c C E F G d g i a) (PV A H b c C E F G d a j k l m))])):
 cb 23 [aM.cur [D.J 1 A,I p,I a0] [D.J 1 A,I k,I l]] (a1.vals [.agg (cl H b c C E F (G++[[I (j-1),I (m-1),B false]]))]):=
 h.cc
theorem avA(h:ad (A7 A k l aj p a0 C E F G b c n d e a m o [.b (a==2) false,.b (a==3) false,.b (a==4) false,.b (a==5) true,.a (.dL [some [D.J 1 A,I f,I g]] (a1.vals [.agg (bz H i j)])),.p (b4 prog 65 [aM.cur [D.J 1 A,I d,I e] [D.J 1 A,I f,I g]] (a1.vals [.agg (bz H i j)]))])):
 cb 23 [aM.cur [D.J 1 A,I m,I o] [D.J 1 A,I f,I g]] (a1.vals [.agg (cl H i j C E F G)]):=
 h.cc
theorem avB(h:ad (A7 A f g H i j E F C G b c l d e a k m [.b (a==2) false,.b (a==3) false,.b (a==4) false,.b (a==5) false,.b (a==6) true,.a .own,.p ((0:Int)<=none.getD 0),.p (none.getD 0<=(some (3:Int)).getD (C.length:Int)),.p ((some (3:Int)).getD (C.length:Int)<=(C.length:Int))])):
 cb 23 [aM.cur [D.J 1 A,I k,I m] [D.J 1 A,I d,I e]] (a1.vals [.agg (cl H i j E F (List.take (3-0) (List.drop 0 C)) G)]):=
 h.cc
theorem avC(h:ad (A7 A f g H i j C E F G b c l d e a k m [.b (a==2) false,.b (a==3) false,.b (a==4) false,.b (a==5) false,.b (a==6) false])):
 cb 23 [aM.cur [D.J 1 A,I k,I m] [D.J 1 A,I d,I e]] (a1.vals [.agg (cl H i j C E F G)]):=
 h.cc
theorem avD(h:ad [.r 68 [aP 1 A] [.agg (cl C a b E F G H),ae c]]):
 ar 26 [aP 1 A] [.agg (cl C a b E F G H),ae c]:=
 h.of
def IL(A:af)(a b c d:Int)(C:af)(e f:Int)(E F G H:af)(l:List O):List O:=.a (.dL [none] (a1.iY [some 0,none,none] [D.J 1 A,I a,I b]))::.a (.dL [some [D.J 1 A,I c,I d]] (a1.vals [.agg (cl C e f E F G H)]))::l
theorem avE(h:ad (IL A b c d e H f g C E F G [.w A i j a,.p (b4 prog 24 [aM.ro (aP 1 A)] (a1.iY [some 0,none,none] [D.J 1 A,I b,I c])),.p (b4 prog 23 [aM.cur [D.J 1 A,I b,I c] [D.J 1 A,I d,I e]] (a1.vals [.agg (cl H f g C E F G)])),.k A 61 d e i j 6 a,.v (a-1)])):
 ar 68 [aP 1 A] [.agg (cl H f g C E F G),ae (a-1)]:=
 h.of
def PW(H aj:af)(d e:Int)(K L M N:af)(f g:Int)(q:Bool)(A:af)(a b:Int)(C E F G:af)(c:Int):aD:=a' 21 [(0,dW 1 H),(2,aS 2),(3,aT 0),(4,aS 7),(5,aS 5),(6,dW 1 H),(7,aS 7),(8,aS 7),(9,aI.aF (bp.agg [aB 100000 4 aj,av d,av e,aB 100003 8 K,aB 100004 6 L,aB 100005 5 M,aB 100006 3 N])),(10,aS 7),(11,.aF (.one (.bg q))),(12,aI.gx [bp.agg [aB 150000 4 A,av a,av b,aB 150003 8 C,aB 150004 6 E,aB 150005 5 F,aB 150006 3 G],bp.one (av c)]),(13,aI.aF (bp.agg [aB 100000 4 aj,av d,av e,aB 100003 8 K,aB 100004 6 L,aB 100005 5 M,aB 100006 3 N])),(14,aI.gx [bp.agg [aB 150000 4 A,av a,av b,aB 150003 8 C,aB 150004 6 E,aB 150005 5 F,aB 150006 3 G],bp.one (av c)]),(15,aI.aF (bp.agg [aB 150000 4 A,av a,av b,aB 150003 8 C,aB 150004 6 E,aB 150005 5 F,aB 150006 3 G])),(16,aT c)] [(5,[aB 150000 4 A,av a,av b,aB 150003 8 C,aB 150004 6 E,aB 150005 5 F,aB 150006 3 G]),(7,[.J .free 1 H,av f,av g]),(2,[.v (aR),av 0,av 0,.v (aR),.v (aR),.v (aR),.v (aR)])]
def PX(P:Program)(W:Array Oper)(A N:af)(j k:Int)(C E F G:af)(a b:Int)(q:Bool)(H:af)(c d:Int)(aj K L M:af)(e f g i:Int):aD:=
 ny P W [[],[],[.dL [some [D.J 1 A,I f,I g],none] (a1.vals [ae i])],[],[],[]] (PW A N j k C E F G a b q H c d aj K L M e)
theorem avF{A N:af}{j k:Int}{C E F G:af}{a b:Int}{q:Bool}{H:af}{d e:Int}{aj K L M:af}{f g i c:Int}
  (h:cO [b4 prog 61 [aM.cur [D.J 1 A,I a,I b] [D.J 1 A,I g,I i],aM.ro (ae 6)] (a1.vals [ae c]),aL .i64 (c-1)]):
  ey prog (cT f25 5) (PW A N j k C E F G a b q H d e aj K L M f) (PX prog (cT f25 5) A N j k C E F G a b q H d e aj K L M f g i c):=
 .nV [0,0,1,1,0,0] h
def aaW(A:af)(a b c d:Int)(C:af)(e f:Int)(E F G H:af)(g i:Int)(q:Bool)(l:List O):List O:=IL A a b c d C e f E F G H (.y A g i q::.p (b4 prog 24 [aM.ro (aP 1 A)] (a1.iY [some 0,none,none] [D.J 1 A,I a,I b]))::.p (b4 prog 23 [aM.cur [D.J 1 A,I a,I b] [D.J 1 A,I c,I d]] (a1.vals [.agg (cl C e f E F G H)]))::.m A 66 c d g i 2 q::l)
theorem avG(h:ad (aaW A i k l m H a b C E F G c d q [.b q true,.r 67 [.agg (cl H a b C E F G),ae 200] [.agg (cl aj e f K L M N),ae g],.a (.iL (PX prog (cT f25 5) A H a b C E F G c d q aj e f K L M N g n o j)),.p (ey prog (cT f25 5) (PW A H a b C E F G c d q aj e f K L M N g) (PX prog (cT f25 5) A H a b C E F G c d q aj e f K L M N g n o j))])):
 ar 25 [aP 1 A] [.agg (cl aj e f K L M N),ae (j-1)]:=
 h.of
def PY(A C:af)(a b:Int)(E F G H:af)(c d:Int)(q:Bool):aD:=a' 21 [(0,dW 1 A),(2,aS 2),(3,aT 0),(4,aS 7),(5,aS 5),(6,dW 1 A),(7,aS 7),(8,aS 7),(9,aI.aF (bp.agg [aB 100000 4 C,av a,av b,aB 100003 8 E,aB 100004 6 F,aB 100005 5 G,aB 100006 3 H])),(10,aS 7),(11,.aF (.one (.bg q)))] [(5,[aB 100000 4 C,av a,av b,aB 100003 8 E,aB 100004 6 F,aB 100005 5 G,aB 100006 3 H]),(7,[.J .free 1 A,av c,av d]),(2,[.v (aR),av 0,av 0,.v (aR),.v (aR),.v (aR),.v (aR)])]
def PZ(P:Program)(W:Array Oper)(A H:af)(f g:Int)(C E F G:af)(a b:Int)(q:Bool)(c d e:Int):aD:=
 ny P W [[],[],[.dL [some [D.J 1 A,I c,I d],none] (a1.vals [ae e])],[],[],[]] (PY A H f g C E F G a b q)
theorem avH{A H:af}{f g:Int}{C E F G:af}{a b:Int}{q:Bool}{d e c:Int}
  (h:cO [b4 prog 61 [aM.cur [D.J 1 A,I a,I b] [D.J 1 A,I d,I e],aM.ro (ae 6)] (a1.vals [ae c]),aL .i64 (c-1)]):
  ey prog (cT f25 5) (PY A H f g C E F G a b q) (PZ prog (cT f25 5) A H f g C E F G a b q d e c):=
 .nV [0,0,1,1,0,0] h
theorem avI(h:ad (aaW A e g i j H a b C E F G c d q [.b q false,.a (.iL (PZ prog (cT f25 5) A H a b C E F G c d q k l f)),.p (ey prog (cT f25 5) (PY A H a b C E F G c d q) (PZ prog (cT f25 5) A H a b C E F G c d q k l f))])):
 ar 25 [aP 1 A] [.agg (cl H a b C E F G),ae (f-1)]:=
 h.of
theorem avJ(h:ad (IL A a b e f H c d C E F G [.p (b4 prog 24 [aM.ro (aP 1 A)] (a1.iY [some 0,none,none] [D.J 1 A,I a,I b])),.p (b4 prog 53 [aM.cur [D.J 1 A,I a,I b] [D.J 1 A,I e,I f]] (a1.vals [.agg (cl H c d C E F G)]))])):
 ar 20 [aP 1 A] [.agg (cl H c d C E F G)]:=
 h.of
theorem avK(h:ad [.r 25 [aP 1 A] [.agg (cl C a b E F G H),ae c]]):
 ar 6 [aP 1 A] [.agg (cl C a b E F G H),ae c]:=
 h.of
theorem avL(h:ad (IL A a b e f H c d C E F G [.p (b4 prog 24 [aM.ro (aP 1 A)] (a1.iY [some 0,none,none] [D.J 1 A,I a,I b])),.p (b4 prog 23 [aM.cur [D.J 1 A,I a,I b] [D.J 1 A,I e,I f]] (a1.vals [.agg (cl H c d C E F G)]))])):
 ar 5 [aP 1 A] [.agg (cl H c d C E F G)]:=
 h.of
theorem avM(h:ad [.r 26 [aP 1 A] [.agg (cl C a b E F G H),ae c]]):
 ar 7 [aP 1 A] [.agg (cl C a b E F G H),ae c]:=
 h.of
