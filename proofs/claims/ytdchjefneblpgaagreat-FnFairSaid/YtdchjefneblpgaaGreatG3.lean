import Derived.Test.YtdchjefneblpgaaGreatGE
set_option linter.unusedVariables false
set_option linter.unusedSimpArgs false
namespace Go.Proofs.YtdchjefneblpgaaGreat
open Go.Sx Go.RowKit Go.Proofs.Tryz
variable {a b c d e f g i j k l m n o p a0 eC b6 fb c5 d0 bE f0 i0 j0 dm eF m0 lA ph hq : Int} {A C E F G H ah K L M N Q R S ba V X Y Z dC : ag} {q r : Bool}
def vx(A:ag)(a c d e:Int)(C:ag)(f g i j b:Int):aC:=bb 55 [(0,aR 1000000000),(2,aR 2),(3,aR 3),(4,aU a)] [(3,[au c,au d,au e,aB 52 1 C]),(2,[au f,au g,au i,.v (aN)]),(1000000000,[.dA 1000000100 1 A,au j,au b])]
def XS(A:ag)(a d e f:Int)(C:ag)(g i j k c b:Int):aC:=bb 55 [(0,aR 1000000000),(2,aR 2),(3,aR 3),(4,aU a),(37,aU a),(38,aR 1000000000),(39,aU b),(40,.aG (.one (.bg (decide (a<b)))))] [(3,[au d,au e,au f,aB 52 1 C]),(2,[au g,au i,au j,.v (aN)]),(1000000000,[.dA 1000000100 1 A,au k,au c])]
def ON(C:ag)(a f g i:Int)(A:ag)(j k l c d e b:Int):aC:=bb 55 [(0,aR 1000000000),(2,aR 2),(3,aR 3),(4,aU a),(37,aU a),(38,aR 1000000000),(39,aU c),(40,.aG (.one (.bg (decide (a<c))))),(43,.aG (.one (.ptr 3 3))),(44,.aG (.one (.J (Tag.ro 52) 1 A))),(45,aU a),(46,aU (a*2)),(47,aU (1+a*2)),(48,aR 1000000000),(49,aU b),(50,aU (1+a*2+b)),(51,.aG (.one (.J (.own 51) 1 [[I (1+a*2+b)]]))),(52,aI.aG (bl.one (aB 52 1 (A++[[I (1+a*2+b)]])))),(53,.aG (.one (.ptr 3 3)))] [(3,[au f,au g,au i,aB 52 1 (A++[[I (1+a*2+b)]])]),(2,[au j,au k,au l,.v (aN)]),(1000000000,[.dA 1000000100 1 C,au d,au e])]
theorem aqL{A:ag}{a g i j:Int}{C:ag}{k l m e f n c d b:Int}
  (h:cQ [aL .i64 (a*2),aL .i64 (1+a*2),b2 prog 138 [aM.cur [D.J 1 A,I e,I f] [D.J 1 A,I c,I d],aM.ro (ae 2)] (aY.vals [ae b]),aL .i64 (1+a*2+b),(C.length+[[I (1+a*2+b)]].length)*8<=140737488355328,C.length+[[I (1+a*2+b)]].length<=9223372036854775807,Flat [[I (1+a*2+b)]]]):
  eK prog (c' f319 14) (XS A a g i j C k l m e f n) (ON A a g i j C k l m n c d b):=
 .of [[],[],[],[],[],[],[.dN [some [D.J 1 A,I c,I d],none] (aY.vals [ae b])],[],[],[],[],[]] [[],[],[],[aL .i64 (a*2)],[aL .i64 (1+a*2)],[],[b2 prog 138 [aM.cur [D.J 1 A,I e,I f] [D.J 1 A,I c,I d],aM.ro (ae 2)] (aY.vals [ae b])],[aL .i64 (1+a*2+b)],[],[(C.length+[[I (1+a*2+b)]].length)*8<=140737488355328,C.length+[[I (1+a*2+b)]].length<=9223372036854775807,Flat [[I (1+a*2+b)]]],[],[]] (by kernel_rfl) (by kernel_rfl) (by kernel_rfl) h
theorem aqM(h:ad [.w A j k b,.k A 138 o p j k 3 b,.b (decide (a<b)) true,.a (.jl (ON A a c d e C f g i b l m n)),.p (eK prog (c' f319 14) (XS A a c d e C f g i j k b) (ON A a c d e C f g i b l m n)),.u a]):
 aV (ap f319 0) (vx A a c d e C f g i o p) .normal (vx A (a+1) c d e (C++[[I (1+a*2+n)]]) f g i l m):=
 h.aS [4,0,3,2] [3,2,1000000000]
def zW(A:ag)(a b c:Int)(C:ag)(d e f g i:Int):aC:=bb 55 [(0,aR 1000000000),(2,aR 2),(3,aR 3)] [(3,[au a,au b,au c,aB 52 1 C]),(2,[au d,au e,au f,.v (aN)]),(1000000000,[.dA 1000000100 1 A,au g,au i])]
theorem aqN(h:ad [.w A a b c,.k A 138 l m a b 3 c,.b (decide (d<c)) false]):
 aV (ap f319 0) (vx A d e f g C i j k l m) (.exit 1) (zW A e f g C i j k a b):=
 h.aS [3,2,0] [3,2,1000000000]
def H0(A:ag)(a b c d e:Int)(l:List O):List O:=.w A a b c::.k A 138 d e a b 8 c::l
theorem aqO(h:ad (H0 A c d a g n [.v (1+a),.b (1+a==2) true,.w A e f b,.p (b2 prog 140 [aM.cur [D.J 1 A,I c,I d] [D.J 1 A,I e,I f],aM.ro (.one (.J 1 [[I 0],[I 1],[I 3],[I 10],[I 999]]))] (aY.vals [ae b])),.b (1+a != 8) true,.l [(4000003,52,1)] [4,0,3,2] [3,2,1000000000] (ap f319 0) (vx A 0 (1+a) b 0 [] 0 0 0 e f) (.exit 1) (zW A i j k C o p a0 l m)])):
 ca 319 [aM.cur [D.J 1 A,I g,I n] [D.J 1 A,I l,I m]] (aY.vals [.agg (bp i j k C)]):=
 h.cb
def H2(A:ag)(a b c d e:Int)(l:List O):List O:=H0 A a b c d e (.v (1+c)::.b (1+c==2) false::l)
theorem aqP(h:ad (H2 A f g a k o [.b (1+a==3) true,.w A i j b,.w A c d e,.k A 138 f g i j 4 b,.v (1+b),.k A 138 i j c d (1+b) e,.b (1+a != 8) true,.l [(4000003,52,1)] [4,0,3,2] [3,2,1000000000] (ap f319 0) (vx A 0 (1+a) (1+b) e [] 0 0 0 c d) (.exit 1) (zW A l m n C b6 c5 d0 p a0)])):
 ca 319 [aM.cur [D.J 1 A,I k,I o] [D.J 1 A,I p,I a0]] (aY.vals [.agg (bp l m n C)]):=
 h.cb
theorem aqQ(h:ad (H2 A c d a g n [.b (1+a==3) false,.b (1+a==4) true,.w A e f b,.p (b2 prog 140 [aM.cur [D.J 1 A,I c,I d] [D.J 1 A,I e,I f],aM.ro (.one (.J 1 [[I 0],[I 1],[I 2],[I 3],[I 50],[I 99]]))] (aY.vals [ae b])),.b (1+a != 8) true,.l [(4000003,52,1)] [4,0,3,2] [3,2,1000000000] (ap f319 0) (vx A 0 (1+a) b 0 [] 0 0 0 e f) (.exit 1) (zW A i j k C o p a0 l m)])):
 ca 319 [aM.cur [D.J 1 A,I g,I n] [D.J 1 A,I l,I m]] (aY.vals [.agg (bp i j k C)]):=
 h.cb
theorem aqR(h:ad (H2 A b c a d g [.b (1+a==3) false,.b (1+a==4) false,.b (1+a != 8) true,.l [(4000003,52,1)] [4,0,3,2] [3,2,1000000000] (ap f319 0) (vx A 0 (1+a) 0 0 [] 0 0 0 b c) (.exit 1) (zW A i j k C l m n e f)])):
 ca 319 [aM.cur [D.J 1 A,I d,I g] [D.J 1 A,I e,I f]] (aY.vals [.agg (bp i j k C)]):=
 h.cb
theorem aqS(h:ad (H2 A b c a d e [.b (1+a==3) false,.b (1+a==4) false,.b (1+a != 8) false])):
 ca 319 [aM.cur [D.J 1 A,I d,I e] [D.J 1 A,I b,I c]] (aY.vals [.agg (bp (1+a) 0 0 [])]):=
 h.cb
def DS(A:ag)(a b c d e:Int)(C:ag)(f g i j k:Int)(l:List O):List O:=.a (.dN [some [D.J 1 A,I a,I b]] (aY.vals [.agg (bp c d e C)]))::.w A f g i::.p (b2 prog 319 [aM.cur [D.J 1 A,I j,I k] [D.J 1 A,I a,I b]] (aY.vals [.agg (bp c d e C)]))::.k A 138 a b f g 12 i::l
theorem aqT(h:ad (DS A g i n j k C b c d l m [.b (d==0) true,.w A e f a,.k A 138 b c e f 11 a,.v (a-1)])):
 ca 252 [aM.cur [D.J 1 A,I l,I m] [D.J 1 A,I e,I f]] (aY.vals [.agg (bp (a-1) j k C)]):=
 h.cb
theorem aqU(h:ad (DS A g i j n k C b c a l m [.b (a==0) false,.b (a==1) true,.w A d e f,.p (b2 prog 140 [aM.cur [D.J 1 A,I b,I c] [D.J 1 A,I d,I e],aM.ro (.one (.J 1 [[I (-1)],[I 0],[I 1000],[I 100],[I 11]]))] (aY.vals [ae f]))])):
 ca 252 [aM.cur [D.J 1 A,I l,I m] [D.J 1 A,I d,I e]] (aY.vals [.agg (bp j f k C)]):=
 h.cb
theorem aqV(h:ad (DS A g i j k n C b c a l m [.b (a==0) false,.b (a==1) false,.b (a==2) true,.w A d e f,.p (b2 prog 140 [aM.cur [D.J 1 A,I b,I c] [D.J 1 A,I d,I e],aM.ro (.one (.J 1 [[I (-1)],[I 1],[I 3]]))] (aY.vals [ae f]))])):
 ca 252 [aM.cur [D.J 1 A,I l,I m] [D.J 1 A,I d,I e]] (aY.vals [.agg (bp j k f C)]):=
 h.cb
def OO(C:ag)(b c d:Int)(A:ag)(e f a:Int):aC:=bb 37 [(0,aR 1000000000),(2,aR 2),(3,aR 3),(4,aR 1000000000),(5,aI.aG (bl.agg [au b,au c,au d,aB 60003 1 A])),(6,aR 1000000000),(7,aU a),(8,.aG (.one (.bg (a==0)))),(9,.aG (.one (.bg (a==0)))),(14,.aG (.one (.bg (a==1)))),(15,.aG (.one (.bg (a==1)))),(20,.aG (.one (.bg (a==2)))),(21,.aG (.one (.bg (a==2)))),(26,.aG (.one (.bg (a==3)))),(27,.aG (.one (.bg (a==3))))] [(3,[au b,au c,au d,aB 60003 1 A]),(2,[au 0,au 0,au 0,.v (aN)]),(1000000000,[.dA 1000000100 1 C,au e,au f])]
def OP(P:Program)(W:Array Oper)(A:ag)(g i j:Int)(C:ag)(a b c d e f:Int):aC:=
 oD P W [[],[],[],[],[.dN [some [D.J 1 A,I d,I e],none] (aY.vals [ae f])],[],[],[],[]] (OO A g i j C a b c)
theorem aqW{A:ag}{g i j:Int}{C:ag}{b c d e f a:Int}
  (h:cQ [b2 prog 140 [aM.cur [D.J 1 A,I b,I c] [D.J 1 A,I e,I f],aM.ro (.one (.J 1 [[I 1],[I 7],[I 8],[I (-1)]]))] (aY.vals [ae a]),(C.length+[[I a]].length)*8<=140737488355328,C.length+[[I a]].length<=9223372036854775807,Flat [[I a]]]):
  eK prog (c' f252 10) (OO A g i j C b c d) (OP prog (c' f252 10) A g i j C b c d e f a):=
 .pj [0,0,0,0,1,0,3,0,0] h
theorem aqX(h:ad (DS A k l b c d C e f a m n [.b (a==0) false,.b (a==1) false,.b (a==2) false,.b (a==3) true,.a (.jl (OP prog (c' f252 10) A b c d C e f a g i j)),.p (eK prog (c' f252 10) (OO A b c d C e f a) (OP prog (c' f252 10) A b c d C e f a g i j))])):
 ca 252 [aM.cur [D.J 1 A,I m,I n] [D.J 1 A,I g,I i]] (aY.vals [.agg (bp b c d (C++[[I j]]))]):=
 h.cb
theorem aqY(h:ad (DS A d e f g i C b c a j k [.b (a==0) false,.b (a==1) false,.b (a==2) false,.b (a==3) false])):
 ca 252 [aM.cur [D.J 1 A,I j,I k] [D.J 1 A,I b,I c]] (aY.vals [.agg (bp f g i C)]):=
 h.cb
def ur(A:ag)(a g:Int)(C:ag)(i j k l m n b c d e f:Int):aC:=bb 40 [(0,aR 1000000000),(2,aR 2),(3,aR 3),(4,aU a)] [(3,[au g,aB 900004001 5 C,au i,au j,au k,au l]),(2,[au m,.v (aN),au n,au b,au c,au d]),(1000000000,[.dA 1000000100 1 A,au e,au f])]
def Pu(A:ag)(a b c d e f g i j:Int)(l:List O):List O:=.w A a b c::.k A 138 d e a b 9 c::.b (decide (f<c)) true::.w A g i j::.k A 138 a b g i 4 j::l
theorem aqZ(h:ad (Pu A b c d c5 d0 a e f g [.b (g==0) true,.r 260 [.agg (bY i C j k l m)] [.agg (bY bE E f0 i0 j0 dm),.agg (bh eF m0 lA ph hq),aj q],.u a])):
 aV (ap f327 0) (ur A a i C j k l m n o p a0 b6 c5 d0) .normal (ur A (a+1) bE E f0 i0 j0 dm n o p a0 b6 e f):=
 h.pf [(4000001,900004001,5)] [4,0,3,2] [3,2,1000000000]
theorem aq0(h:ad (Pu A c d e c5 d0 a f g b [.b (b==0) false,.b (b==1) true,.r 261 [.agg (bY i C j k l m)] [.agg (bY bE E f0 i0 j0 dm),aj q],.u a])):
 aV (ap f327 0) (ur A a i C j k l m n o p a0 b6 c5 d0) .normal (ur A (a+1) bE E f0 i0 j0 dm n o p a0 b6 f g):=
 h.pf [(4000001,900004001,5)] [4,0,3,2] [3,2,1000000000]
def OQ(A:ag)(b j:Int)(C:ag)(k l m n o p d e f c g i a:Int):aC:=bb 40 [(0,aR 1000000000),(2,aR 2),(3,aR 3),(4,aU b),(9,aU b),(10,aR 1000000000),(11,aU c),(12,.aG (.one (.bg (decide (b<c))))),(15,aR 1000000000),(16,aU a),(24,.aG (.one (.bg (a==0)))),(25,.aG (.one (.bg (a==0)))),(32,.aG (.one (.bg (a==1)))),(33,.aG (.one (.bg (a==1))))] [(3,[au j,aB 900004001 5 C,au k,au l,au m,au n]),(2,[au o,.v (aN),au p,au d,au e,au f]),(1000000000,[.dA 1000000100 1 A,au g,au i])]
def OR(P:Program)(W:Array Oper)(A:ag)(a b:Int)(C:ag)(c d e f g i j k l m n o p a0 b6 c5 d0 bE f0 i0 j0:Int)(E:ag)(dm eF m0 lA:Int)(q:Bool):aC:=
 oD P W [[],[],[.dN [some [D.J 1 A,I a0,I b6]] (aY.vals [.agg (bh c5 d0 bE f0 i0)])],[.res [.agg (bY j0 E dm eF m0 lA),aj q]],[],[],[],[]] (OQ A a b C c d e f g i j k l m n o p)
theorem aqr{A:ag}{n a:Int}{C:ag}{b c d e o p a0 b6 c5 d0 f g bE f0 i0 i j k l m j0:Int}{E:ag}{dm eF m0 lA:Int}{q:Bool}
  (h:cQ [b2 prog 271 [aM.cur [D.J 1 A,I f,I g] [D.J 1 A,I f0,I i0]] (aY.vals [.agg (bh i j k l m)]),aq 258 [.agg (bY a C b c d e),.agg (bh i j k l m)] [.agg (bY j0 E dm eF m0 lA),aj q]]):
  eK prog (c' f327 6) (OQ A n a C b c d e o p a0 b6 c5 d0 f g bE) (OR prog (c' f327 6) A n a C b c d e o p a0 b6 c5 d0 f g bE f0 i0 i j k l m j0 E dm eF m0 lA q):=
 .pj [0,0,1,1,0,0,0,0] h
theorem aqs(h:ad (Pu A a0 b6 c eF m0 a j k b [.b (b==0) false,.b (b==1) false,.a (.jl (OR prog (c' f327 6) A a l C m n o p d e f g i c j k b c5 d0 lA ph hq eC fb bE E f0 i0 j0 dm q)),.p (eK prog (c' f327 6) (OQ A a l C m n o p d e f g i c j k b) (OR prog (c' f327 6) A a l C m n o p d e f g i c j k b c5 d0 lA ph hq eC fb bE E f0 i0 j0 dm q)),.u a])):
 aV (ap f327 0) (ur A a l C m n o p d e f g i eF m0) .normal (ur A (a+1) bE E f0 i0 j0 dm d e f g i c5 d0):=
 h.pf [(4000001,900004001,5)] [4,0,3,2] [3,2,1000000000]
def OS(A:ag)(a:Int)(C:ag)(f g i j k l m b c d e:Int):aC:=bb 40 [(0,aR 1000000000),(2,aR 2),(3,aR 3)] [(3,[au a,aB 900004001 5 C,au f,au g,au i,au j]),(2,[au k,.v (aN),au l,au m,au b,au c]),(1000000000,[.dA 1000000100 1 A,au d,au e])]
theorem aqt(h:ad [.w A a b c,.k A 138 p a0 a b 9 c,.b (decide (d<c)) false]):
 aV (ap f327 0) (ur A d e C f g i j k l m n o p a0) (.exit 0) (OS A e C f g i j k l m n o a b):=
 h.aS [3,2,0] [3,2,1000000000]
theorem aqu(h:ad [.w A b c a,.k A 138 d n b c 4 a,.v (1+a),.r 126 [ae (1+a)] [.agg (bY a0 E b6 e f g)],.l [(4000001,900004001,5)] [4,0,3,2] [3,2,1000000000] (ap f327 0) (ur A 0 a0 E b6 e f g 0 0 0 0 0 b c) (.exit 0) (OS A i C j k l m c5 d0 bE f0 i0 o p)]):
 ca 327 [aM.cur [D.J 1 A,I d,I n] [D.J 1 A,I o,I p]] (aY.vals [.agg (bY i C j k l m)]):=
 h.cb
def AN(A:ag)(a b c:Int)(C:ag)(d e f g i j k m n:Int)(l:List O):List O:=.a (.dN [some [D.J 1 A,I a,I b]] (aY.vals [.agg (bY c C d e f g)]))::.w A i j k::.p (b2 prog 327 [aM.cur [D.J 1 A,I m,I n] [D.J 1 A,I a,I b]] (aY.vals [.agg (bY c C d e f g)]))::.k A 138 a b i j 14 k::l
theorem aqv(h:ad (AN A j k l C p m b c d e f n o [.b (f==0) true,.w A g i a,.k A 138 d e g i 6 a,.v (a-1)])):
 ca 278 [aM.cur [D.J 1 A,I n,I o] [D.J 1 A,I g,I i]] (aY.vals [.agg (bY l C (a-1) m b c)]):=
 h.cb
theorem aqw(h:ad (AN A j k l C m p c d e f a n o [.b (a==0) false,.b (a==1) true,.w A g i b,.k A 138 e f g i 6 b,.v (b-1)])):
 ca 278 [aM.cur [D.J 1 A,I n,I o] [D.J 1 A,I g,I i]] (aY.vals [.agg (bY l C m (b-1) c d)]):=
 h.cb
theorem aqx(h:ad (AN A i j k C l m o b c d a n p [.b (a==0) false,.b (a==1) false,.b (a==2) true,.w A e f g,.p (b2 prog 140 [aM.cur [D.J 1 A,I c,I d] [D.J 1 A,I e,I f],aM.ro (.one (.J 1 [[I (-1)],[I 0],[I 1000000000],[I 1000000001]]))] (aY.vals [ae g]))])):
 ca 278 [aM.cur [D.J 1 A,I n,I p] [D.J 1 A,I e,I f]] (aY.vals [.agg (bY k C l m g b)]):=
 h.cb
def OT(C:ag)(b:Int)(A:ag)(c d e f g i a:Int):aC:=bb 44 [(0,aR 1000000000),(2,aR 2),(3,aR 3),(4,aR 1000000000),(5,aI.aG (bl.agg [au b,aB 60001 5 A,au c,au d,au e,au f])),(6,aR 1000000000),(7,aU a),(8,.aG (.one (.bg (a==0)))),(9,.aG (.one (.bg (a==0)))),(14,.aG (.one (.bg (a==1)))),(15,.aG (.one (.bg (a==1)))),(20,.aG (.one (.bg (a==2)))),(21,.aG (.one (.bg (a==2)))),(26,.aG (.one (.bg (a==3)))),(27,.aG (.one (.bg (a==3))))] [(3,[au b,aB 60001 5 A,au c,au d,au e,au f]),(2,[au 0,.v (aN),au 0,au 0,au 0,au 0]),(1000000000,[.dA 1000000100 1 C,au g,au i])]
def OU(P:Program)(W:Array Oper)(A:ag)(n:Int)(C:ag)(o p a b c d e f g i j k l m:Int):aC:=
 oD P W [[],[],[],[.dN [some [D.J 1 A,I f,I g]] (aY.vals [.agg (bh i j k l m)])],[],[],[],[]] (OT A n C o p a b c d e)
theorem aqy{A:ag}{n:Int}{C:ag}{o p i j f g k l m a b c d e:Int}
  (h:cQ [b2 prog 178 [aM.cur [D.J 1 A,I f,I g] [D.J 1 A,I l,I m]] (aY.vals [.agg (bh a b c d e)]),(C.length+[(bh a b c d e)].length)*40<=140737488355328,C.length+[(bh a b c d e)].length<=9223372036854775807,Flat [(bh a b c d e)]]):
  eK prog (c' f278 10) (OT A n C o p i j f g k) (OU prog (c' f278 10) A n C o p i j f g k l m a b c d e):=
 .pj [0,0,0,1,0,3,0,0] h
theorem aqz(h:ad (AN A a0 b6 d C e f b c g i a c5 d0 [.b (a==0) false,.b (a==1) false,.b (a==2) false,.b (a==3) true,.a (.jl (OU prog (c' f278 10) A d C e f b c g i a j k l m n o p)),.p (eK prog (c' f278 10) (OT A d C e f b c g i a) (OU prog (c' f278 10) A d C e f b c g i a j k l m n o p))])):
 ca 278 [aM.cur [D.J 1 A,I c5,I d0] [D.J 1 A,I j,I k]] (aY.vals [.agg (bY d (C++[(bh l m n o p)]) e f b c)]):=
 h.cb
theorem aqA(h:ad (AN A d e f C g i k l b c a j m [.b (a==0) false,.b (a==1) false,.b (a==2) false,.b (a==3) false,.b (a==4) true,.v (1000000000-(C.length:Int))])):
 ca 278 [aM.cur [D.J 1 A,I j,I m] [D.J 1 A,I b,I c]] (aY.vals [.agg (bY f C g i 1000000000 (1000000000-(C.length:Int)))]):=
 h.cb
theorem ar4(h:ad (AN A f g i C j k b c d e a l m [.b (a==0) false,.b (a==1) false,.b (a==2) false,.b (a==3) false,.b (a==4) false])):
 ca 278 [aM.cur [D.J 1 A,I l,I m] [D.J 1 A,I d,I e]] (aY.vals [.agg (bY i C j k b c)]):=
 h.cb
def H4(A:ag)(a b c d e f g i j:Int)(l:List O):List O:=.a (.dN [some [D.J 1 A,I a,I b]] (aY.vals [.agg (bh c d e f g)]))::.p (b2 prog 271 [aM.cur [D.J 1 A,I i,I j] [D.J 1 A,I a,I b]] (aY.vals [.agg (bh c d e f g)]))::l
theorem ar5(h:ad (H4 A m n b6 b p c d o a0 [.b (decide ((C.length:Int)>0)) true,.w A e f g,.y A i j q,.k A 138 m n e f (C.length:Int) g,.m A 136 e f i j 4 q,.b q true,.w A k l a,.k A 138 i j k l 2 a,.v (5+a)])):
 ca 350 [aM.cur [D.J 1 A,I o,I a0] [D.J 1 A,I k,I l],aM.ro (.agg (br C c5 d0))] (aY.vals [.agg (bh g b (5+a) c d)]):=
 h.cb
theorem ar6(h:ad (H4 A k l o a b c d m n [.b (decide ((C.length:Int)>0)) true,.w A e f g,.y A i j q,.k A 138 k l e f (C.length:Int) g,.m A 136 e f i j 4 q,.b q false])):
 ca 350 [aM.cur [D.J 1 A,I m,I n] [D.J 1 A,I i,I j],aM.ro (.agg (br C p a0))] (aY.vals [.agg (bh g a b c d)]):=
 h.cb
theorem ar7(h:ad (H4 A j k l b n c d m o [.b (decide ((C.length:Int)>0)) false,.y A e f q,.m A 136 j k e f 4 q,.b q true,.w A g i a,.k A 138 e f g i 2 a,.v (5+a)])):
 ca 350 [aM.cur [D.J 1 A,I m,I o] [D.J 1 A,I g,I i],aM.ro (.agg (br C p a0))] (aY.vals [.agg (bh l b (5+a) c d)]):=
 h.cb
theorem ar8(h:ad (H4 A g i j a b c d k l [.b (decide ((C.length:Int)>0)) false,.y A e f q,.m A 136 g i e f 4 q,.b q false])):
 ca 350 [aM.cur [D.J 1 A,I k,I l] [D.J 1 A,I e,I f],aM.ro (.agg (br C m n))] (aY.vals [.agg (bh j a b c d)]):=
 h.cb
def rQ(A:ag)(a:Int)(E F G H ah K L M C:ag)(b c d e:Int):aC:=bb 48 [(0,aR 1000000000),(3,aR 3),(4,aR 4),(5,aR 5),(6,aU a)] [(5,[aB 900006000 5 E,aB 900006001 5 F,aB 900006002 5 G,aB 900006003 4 H,aB 900006004 1 ah,aB 900006005 1 K,aB 900006006 1 L,aB 900006007 2 M]),(4,[.v (aN),.v (aN),.v (aN),.v (aN),.v (aN),.v (aN),.v (aN),.v (aN)]),(3,[.J .free 4 C,au b,au c]),(1000000000,[.dA 1000000100 1 A,au d,au e])]
def H3(A:ag)(a b c d e f g i j:Int)(l:List O):List O:=H0 A a b c d e (.b (decide (f<c)) true::.w A g i j::.k A 138 a b g i 5 j::l)
theorem ar9(h:ad (H3 A d e f k l a g i j [.b (j==0) true,.r 348 [.agg (br C b c),.agg (aW E F G H ah K L M)] [.agg (aW N Q R S ba V X Y),aj q],.u a])):
 aV (ap f326 0) (rQ A a E F G H ah K L M C b c k l) .normal (rQ A (a+1) N Q R S ba V X Y C b c g i):=
 h.pf [(6000000,900006000,5),(6000001,900006001,5),(6000002,900006002,5),(6000003,900006003,4),(6000004,900006004,1),(6000005,900006005,1),(6000006,900006006,1),(6000007,900006007,2)] [6,0,3,5,4] [5,4,3,1000000000]
def OV(A:ag)(b:Int)(E F G H ah K L M C:ag)(d e c f g a:Int):aC:=bb 48 [(0,aR 1000000000),(3,aR 3),(4,aR 4),(5,aR 5),(6,aU b),(10,aU b),(11,aR 1000000000),(12,aU c),(13,.aG (.one (.bg (decide (b<c))))),(16,aR 1000000000),(17,aU a),(24,.aG (.one (.bg (a==0)))),(25,.aG (.one (.bg (a==0)))),(32,.aG (.one (.bg (a==1)))),(33,.aG (.one (.bg (a==1))))] [(5,[aB 900006000 5 E,aB 900006001 5 F,aB 900006002 5 G,aB 900006003 4 H,aB 900006004 1 ah,aB 900006005 1 K,aB 900006006 1 L,aB 900006007 2 M]),(4,[.v (aN),.v (aN),.v (aN),.v (aN),.v (aN),.v (aN),.v (aN),.v (aN)]),(3,[.J .free 4 C,au d,au e]),(1000000000,[.dA 1000000100 1 A,au f,au g])]
def OW(P:Program)(W:Array Oper)(A:ag)(a:Int)(C E F G H ah K L M:ag)(b c d e f g i j k l m n o:Int)(N Q R S ba V X Y:ag):aC:=
 oD P W [[],[],[],[.dN [some [D.J 1 A,I i,I j],none] (aY.vals [.agg (bh k l m n o)])],[.res [.agg (aW N Q R S ba V X Y)]],[]] (OV A a C E F G H ah K L M b c d e f g)
theorem asa{A:ag}{k:Int}{C E F G H ah K L M:ag}{a b l c d m n o e f g i j:Int}{N Q R S ba V X Y:ag}
  (h:cQ [b2 prog 350 [aM.cur [D.J 1 A,I c,I d] [D.J 1 A,I n,I o],aM.ro (.agg (br M a b))] (aY.vals [.agg (bh e f g i j)]),aq 349 [.agg (aW C E F G H ah K L),.agg (bh e f g i j)] [.agg (aW N Q R S ba V X Y)]]):
  eK prog (c' f326 10) (OV A k C E F G H ah K L M a b l c d m) (OW prog (c' f326 10) A k C E F G H ah K L M a b l c d m n o e f g i j N Q R S ba V X Y):=
 .pj [0,0,0,1,1,0] h
theorem asb(h:ad (H3 A i j c m n a f g b [.b (b==0) false,.b (b==1) true,.a (.jl (OW prog (c' f326 10) A a E F G H ah K L M C d e c f g b k l o p a0 b6 c5 N Q R S ba V X Y)),.p (eK prog (c' f326 10) (OV A a E F G H ah K L M C d e c f g b) (OW prog (c' f326 10) A a E F G H ah K L M C d e c f g b k l o p a0 b6 c5 N Q R S ba V X Y)),.u a])):
 aV (ap f326 0) (rQ A a E F G H ah K L M C d e m n) .normal (rQ A (a+1) N Q R S ba V X Y C d e k l):=
 h.pf [(6000000,900006000,5),(6000001,900006001,5),(6000002,900006002,5),(6000003,900006003,4),(6000004,900006004,1),(6000005,900006005,1),(6000006,900006006,1),(6000007,900006007,2)] [6,0,3,5,4] [5,4,3,1000000000]
theorem XT(h:ad (H3 A c d e k l b f g a [.b (a==0) false,.b (a==1) false,.b (a==2) true,.r 351 [.agg (aW C E F G H ah K L)] [.agg (aW N Q R S ba V X Y),.agg (bh m n o p a0),aj q],.u b])):
 aV (ap f326 0) (rQ A b C E F G H ah K L M i j k l) .normal (rQ A (b+1) N Q R S ba V X Y M i j f g):=
 h.pf [(6000000,900006000,5),(6000001,900006001,5),(6000002,900006002,5),(6000003,900006003,4),(6000004,900006004,1),(6000005,900006005,1),(6000006,900006006,1),(6000007,900006007,2)] [6,0,3,5,4] [5,4,3,1000000000]
theorem asc(h:ad (H3 A e f g k l b i j a [.b (a==0) false,.b (a==1) false,.b (a==2) false,.r 48 [.agg (br C c d),.agg (aW E F G H ah K L M)] [.agg (aW N Q R S ba V X Y),aj q],.u b])):
 aV (ap f326 0) (rQ A b E F G H ah K L M C c d k l) .normal (rQ A (b+1) N Q R S ba V X Y C c d i j):=
 h.pf [(6000000,900006000,5),(6000001,900006001,5),(6000002,900006002,5),(6000003,900006003,4),(6000004,900006004,1),(6000005,900006005,1),(6000006,900006006,1),(6000007,900006007,2)] [6,0,3,5,4] [5,4,3,1000000000]
def OX(A C E F G H ah K L:ag)(b a:Int):aC:=bb 48 [(0,aR 1000000000),(4,aR 4),(5,aR 5)] [(5,[aB 900006000 5 C,aB 900006001 5 E,aB 900006002 5 F,aB 900006003 4 G,aB 900006004 1 H,aB 900006005 1 ah,aB 900006006 1 K,aB 900006007 2 L]),(4,[.v (aN),.v (aN),.v (aN),.v (aN),.v (aN),.v (aN),.v (aN),.v (aN)]),(1000000000,[.dA 1000000100 1 A,au b,au a])]
theorem asd(h:ad (H0 A a b c e f [.b (decide (d<c)) false])):
 aV (ap f326 0) (rQ A d C E F G H ah K L M g i e f) (.exit 0) (OX A C E F G H ah K L a b):=
 h.aS [5,4,0] [5,4,1000000000]
theorem ase(h:ad [.a (.dN [some [D.J 1 A,I a,I b]] (aY.vals [aO 5 C])),.p (b2 prog 119 [aM.cur [D.J 1 A,I c,I d] [D.J 1 A,I a,I b]] (aY.vals [aO 5 C])),.r 124 [aO 5 C] [.agg (aW E F G H ah K L M)],.l [(6000000,900006000,5),(6000001,900006001,5),(6000002,900006002,5),(6000003,900006003,4),(6000004,900006004,1),(6000005,900006005,1),(6000006,900006006,1),(6000007,900006007,2)] [6,0,3,5,4] [5,4,3,1000000000] (ap f326 0) (rQ A 0 E F G H ah K L M Z g i a b) (.exit 0) (OX A N Q R S ba V X Y e f)]):
 ca 326 [aM.cur [D.J 1 A,I c,I d] [D.J 1 A,I e,I f],aM.ro (.agg (br Z g i))] (aY.vals [.agg (aW N Q R S ba V X Y)]):=
 h.cb
def OY(M A:ag)(b c:Int)(F G H ah K L C E:ag)(d e a:Int):aC:=bb 80 [(0,aR 1000000000),(1,aI.aG (bl.agg [.J .free 4 A,au b,au c])),(3,aR 3),(4,aR 4),(5,aR 5),(6,aR 1000000000),(7,aI.aG (bl.agg [.J .free 4 A,au b,au c])),(8,aI.aG (bl.agg [aB 90000 5 F,aB 90001 5 G,aB 90002 5 H,aB 90003 4 ah,aB 90004 1 K,aB 90005 1 L,aB 90006 1 C,aB 90007 2 E])),(9,aR 1000000000),(10,aU a),(11,.aG (.one (.bg (a==0)))),(12,.aG (.one (.bg (a==0))))] [(5,[aB 90000 5 F,aB 90001 5 G,aB 90002 5 H,aB 90003 4 ah,aB 90004 1 K,aB 90005 1 L,aB 90006 1 C,aB 90007 2 E]),(4,[.v (aN),.v (aN),.v (aN),.v (aN),.v (aN),.v (aN),.v (aN),.v (aN)]),(3,[.J .free 4 A,au b,au c]),(1000000000,[.dA 1000000100 1 M,au d,au e])]
def OZ(P:Program)(W:Array Oper)(A L:ag)(l m:Int)(M C E F G H ah K:ag)(a b c d e f g i j k:Int):aC:=
 oD P W [[],[],[],[.dN [some [D.J 1 A,I d,I e]] (aY.vals [.agg (bh f g i j k)])],[],[],[],[]] (OY A L l m M C E F G H ah K a b c)
theorem asf{A M:ag}{l m:Int}{C E F G H ah K L:ag}{f g i j k a b c d e:Int}
  (h:cQ [b2 prog 178 [aM.cur [D.J 1 A,I f,I g] [D.J 1 A,I j,I k]] (aY.vals [.agg (bh a b c d e)]),(C.length+[(bh a b c d e)].length)*40<=140737488355328,C.length+[(bh a b c d e)].length<=9223372036854775807,Flat [(bh a b c d e)]]):
  eK prog (c' f277 4) (OY A M l m C E F G H ah K L f g i) (OZ prog (c' f277 4) A M l m C E F G H ah K L f g i j k a b c d e):=
 .pj [0,0,0,1,0,3,0,0] h
def Pv(A:ag)(a b:Int)(C E F G H ah K L:ag)(c d e f g:Int)(M:ag)(i j:Int)(l:List O):List O:=.a (.dN [some [D.J 1 A,I a,I b],none] (aY.vals [.agg (aW C E F G H ah K L)]))::.w A c d e::.p (b2 prog 326 [aM.cur [D.J 1 A,I f,I g] [D.J 1 A,I a,I b],aM.ro (.agg (br M i j))] (aY.vals [.agg (aW C E F G H ah K L)]))::.k A 138 a b c d 16 e::l
theorem asg(h:ad (Pv A n o L C E F G H ah K b c a p a0 M d e [.b (a==0) true,.a (.jl (OZ prog (c' f277 4) A M d e L C E F G H ah K b c a f g i j k l m)),.p (eK prog (c' f277 4) (OY A M d e L C E F G H ah K b c a) (OZ prog (c' f277 4) A M d e L C E F G H ah K b c a f g i j k l m))])):
 ca 277 [aM.cur [D.J 1 A,I p,I a0] [D.J 1 A,I f,I g],aM.ro (.agg (br M d e))] (aY.vals [.agg (aW (L++[(bh i j k l m)]) C E F G H ah K)]):=
 h.cb
def O0(M A:ag)(b c:Int)(F G H ah K L C E:ag)(d e a:Int):aC:=bb 80 [(0,aR 1000000000),(1,aI.aG (bl.agg [.J .free 4 A,au b,au c])),(3,aR 3),(4,aR 4),(5,aR 5),(6,aR 1000000000),(7,aI.aG (bl.agg [.J .free 4 A,au b,au c])),(8,aI.aG (bl.agg [aB 90000 5 F,aB 90001 5 G,aB 90002 5 H,aB 90003 4 ah,aB 90004 1 K,aB 90005 1 L,aB 90006 1 C,aB 90007 2 E])),(9,aR 1000000000),(10,aU a),(11,.aG (.one (.bg (a==0)))),(12,.aG (.one (.bg (a==0)))),(20,.aG (.one (.bg (a==1)))),(21,.aG (.one (.bg (a==1))))] [(5,[aB 90000 5 F,aB 90001 5 G,aB 90002 5 H,aB 90003 4 ah,aB 90004 1 K,aB 90005 1 L,aB 90006 1 C,aB 90007 2 E]),(4,[.v (aN),.v (aN),.v (aN),.v (aN),.v (aN),.v (aN),.v (aN),.v (aN)]),(3,[.J .free 4 A,au b,au c]),(1000000000,[.dA 1000000100 1 M,au d,au e])]
def O1(P:Program)(W:Array Oper)(A L:ag)(l m:Int)(M C E F G H ah K:ag)(a b c d e f g i j k:Int):aC:=
 oD P W [[],[],[],[.dN [some [D.J 1 A,I d,I e]] (aY.vals [.agg (bh f g i j k)])],[],[],[],[]] (O0 A L l m M C E F G H ah K a b c)
theorem ash{A L:ag}{l m:Int}{M E C F G H ah K:ag}{f g i j k a b c d e:Int}
  (h:cQ [b2 prog 271 [aM.cur [D.J 1 A,I f,I g] [D.J 1 A,I j,I k]] (aY.vals [.agg (bh a b c d e)]),(C.length+[(bh a b c d e)].length)*40<=140737488355328,C.length+[(bh a b c d e)].length<=9223372036854775807,Flat [(bh a b c d e)]]):
  eK prog (c' f277 6) (O0 A L l m M E C F G H ah K f g i) (O1 prog (c' f277 6) A L l m M E C F G H ah K f g i j k a b c d e):=
 .pj [0,0,0,1,0,3,0,0] h
theorem asi(h:ad (Pv A n o L C E F G H ah K b c a p a0 M d e [.b (a==0) false,.b (a==1) true,.a (.jl (O1 prog (c' f277 6) A M d e L C E F G H ah K b c a f g i j k l m)),.p (eK prog (c' f277 6) (O0 A M d e L C E F G H ah K b c a) (O1 prog (c' f277 6) A M d e L C E F G H ah K b c a f g i j k l m))])):
 ca 277 [aM.cur [D.J 1 A,I p,I a0] [D.J 1 A,I f,I g],aM.ro (.agg (br M d e))] (aY.vals [.agg (aW L C (E++[(bh i j k l m)]) F G H ah K)]):=
 h.cb
def O2(M A:ag)(b c:Int)(F G H ah K L C E:ag)(d e a:Int):aC:=bb 80 [(0,aR 1000000000),(1,aI.aG (bl.agg [.J .free 4 A,au b,au c])),(3,aR 3),(4,aR 4),(5,aR 5),(6,aR 1000000000),(7,aI.aG (bl.agg [.J .free 4 A,au b,au c])),(8,aI.aG (bl.agg [aB 90000 5 F,aB 90001 5 G,aB 90002 5 H,aB 90003 4 ah,aB 90004 1 K,aB 90005 1 L,aB 90006 1 C,aB 90007 2 E])),(9,aR 1000000000),(10,aU a),(11,.aG (.one (.bg (a==0)))),(12,.aG (.one (.bg (a==0)))),(20,.aG (.one (.bg (a==1)))),(21,.aG (.one (.bg (a==1)))),(29,.aG (.one (.bg (a==2)))),(30,.aG (.one (.bg (a==2))))] [(5,[aB 90000 5 F,aB 90001 5 G,aB 90002 5 H,aB 90003 4 ah,aB 90004 1 K,aB 90005 1 L,aB 90006 1 C,aB 90007 2 E]),(4,[.v (aN),.v (aN),.v (aN),.v (aN),.v (aN),.v (aN),.v (aN),.v (aN)]),(3,[.J .free 4 A,au b,au c]),(1000000000,[.dA 1000000100 1 M,au d,au e])]
def O3(P:Program)(W:Array Oper)(A L:ag)(g i:Int)(M C E F G H ah K:ag)(a b c d e f:Int):aC:=
 oD P W [[],[],[],[.dN [some [D.J 1 A,I d,I e],none] (aY.vals [ae f])],[.own],[],[]] (O2 A L g i M C E F G H ah K a b c)
theorem asj{C L:ag}{g i:Int}{M E F G A H ah K:ag}{b c d e f a:Int}
  (h:cQ [b2 prog 138 [aM.cur [D.J 1 C,I b,I c] [D.J 1 C,I e,I f],aM.ro (ae 4)] (aY.vals [ae a]),(0:Int)<=none.getD 0,none.getD 0<=(some a).getD (A.length:Int),(some a).getD (A.length:Int)<=(A.length:Int)]):
  eK prog (c' f277 8) (O2 C L g i M E F G A H ah K b c d) (O3 prog (c' f277 8) C L g i M E F G A H ah K b c d e f a):=
 .pj [0,0,0,1,3,0,0] h
def H5(A:ag)(a b:Int)(C E F G H ah K L:ag)(c d e f g:Int)(M:ag)(i j:Int)(l:List O):List O:=Pv A a b C E F G H ah K L c d e f g M i j (.b (e==0) false::.b (e==1) false::l)
theorem asl(h:ad (H5 A j k L E F G C H ah K b c a l m M d e [.b (a==2) true,.a (.jl (O3 prog (c' f277 8) A M d e L E F G C H ah K b c a f g i)),.p (eK prog (c' f277 8) (O2 A M d e L E F G C H ah K b c a) (O3 prog (c' f277 8) A M d e L E F G C H ah K b c a f g i))])):
 ca 277 [aM.cur [D.J 1 A,I l,I m] [D.J 1 A,I f,I g],aM.ro (.agg (br M d e))] (aY.vals [.agg [D.J 5 L,D.J 5 E,D.J 5 F,D.J 4 G,D.J 1 (List.take (((some i).getD (C.length:Int)).toNat-0) (List.drop 0 C)),D.J 1 H,D.J 1 ah,D.J 2 K]]):=
 h.cb
def XU(M A:ag)(b c:Int)(F G H ah K L C E:ag)(d e a:Int):aC:=bb 80 [(0,aR 1000000000),(1,aI.aG (bl.agg [.J .free 4 A,au b,au c])),(3,aR 3),(4,aR 4),(5,aR 5),(6,aR 1000000000),(7,aI.aG (bl.agg [.J .free 4 A,au b,au c])),(8,aI.aG (bl.agg [aB 90000 5 F,aB 90001 5 G,aB 90002 5 H,aB 90003 4 ah,aB 90004 1 K,aB 90005 1 L,aB 90006 1 C,aB 90007 2 E])),(9,aR 1000000000),(10,aU a),(11,.aG (.one (.bg (a==0)))),(12,.aG (.one (.bg (a==0)))),(20,.aG (.one (.bg (a==1)))),(21,.aG (.one (.bg (a==1)))),(29,.aG (.one (.bg (a==2)))),(30,.aG (.one (.bg (a==2)))),(37,.aG (.one (.bg (a==3)))),(38,.aG (.one (.bg (a==3))))] [(5,[aB 90000 5 F,aB 90001 5 G,aB 90002 5 H,aB 90003 4 ah,aB 90004 1 K,aB 90005 1 L,aB 90006 1 C,aB 90007 2 E]),(4,[.v (aN),.v (aN),.v (aN),.v (aN),.v (aN),.v (aN),.v (aN),.v (aN)]),(3,[.J .free 4 A,au b,au c]),(1000000000,[.dA 1000000100 1 M,au d,au e])]
def O4(M C:ag)(c d:Int)(G H ah K A L E F:ag)(a e f b:Int):aC:=bb 80 [(0,aR 1000000000),(1,aI.aG (bl.agg [.J .free 4 C,au c,au d])),(3,aR 3),(4,aR 4),(5,aR 5),(6,aR 1000000000),(7,aI.aG (bl.agg [.J .free 4 C,au c,au d])),(8,aI.aG (bl.agg [aB 90000 5 G,aB 90001 5 H,aB 90002 5 ah,aB 90003 4 K,aB 90004 1 (A.set 0 [I b]),aB 90005 1 L,aB 90006 1 E,aB 90007 2 F])),(9,aR 1000000000),(10,aU a),(11,.aG (.one (.bg (a==0)))),(12,.aG (.one (.bg (a==0)))),(20,.aG (.one (.bg (a==1)))),(21,.aG (.one (.bg (a==1)))),(29,.aG (.one (.bg (a==2)))),(30,.aG (.one (.bg (a==2)))),(37,.aG (.one (.bg (a==3)))),(38,.aG (.one (.bg (a==3)))),(39,.aG (.one (.ptr 5 4))),(40,aI.aG (bl.one (aB 90004 1 (A.set 0 [I b])))),(41,aR 1000000000),(42,.aG (.one (.J (.own 42) 1 [[I 1000000],[I 1000001],[I (-1000001)]]))),(43,aU b),(44,.aG (.one (.ep (Tag.own 90004) 1 (A.set 0 [I b]) 0 0)))] [(5,[aB 90000 5 G,aB 90001 5 H,aB 90002 5 ah,aB 90003 4 K,aB 90004 1 (A.set 0 [I b]),aB 90005 1 L,aB 90006 1 E,aB 90007 2 F]),(4,[.v (aN),.v (aN),.v (aN),.v (aN),.v (aN),.v (aN),.v (aN),.v (aN)]),(3,[.J .free 4 C,au c,au d]),(1000000000,[.dA 1000000100 1 M,au e,au f])]
theorem asm{A L:ag}{g i:Int}{M E F G C H ah K:ag}{d e f a b c:Int}{d25:D}
  (h:cQ [b2 prog 140 [aM.cur [D.J 1 A,I d,I e] [D.J 1 A,I a,I b],aM.ro (.one (.J 1 [[I 1000000],[I 1000001],[I (-1000001)]]))] (aY.vals [ae c]),(0:Int)<=0,0<(C.length:Int),C[0]?=some [d25]]):
  eK prog (c' f277 10) (XU A L g i M E F G C H ah K d e f) (O4 A L g i M E F G C H ah K f a b c):=
 .of [[],[],[],[],[.dN [some [D.J 1 A,I a,I b],none] (aY.vals [ae c])],[],[.el [d25]]] [[],[],[],[],[b2 prog 140 [aM.cur [D.J 1 A,I d,I e] [D.J 1 A,I a,I b],aM.ro (.one (.J 1 [[I 1000000],[I 1000001],[I (-1000001)]]))] (aY.vals [ae c])],[(0:Int)<=0,0<(C.length:Int)],[C[0]?=some [d25]]] (by kernel_rfl) (by kernel_rfl) (by kernel_rfl) h
theorem asn(h:ad (H5 A j k L C E F G H ah K d e a l m M b c [.b (a==2) false,.b (a==3) true,.a (.jl (O4 A M b c L C E F G H ah K a f g i)),.p (eK prog (c' f277 10) (XU A M b c L C E F G H ah K d e a) (O4 A M b c L C E F G H ah K a f g i))])):
 ca 277 [aM.cur [D.J 1 A,I l,I m] [D.J 1 A,I f,I g],aM.ro (.agg (br M b c))] (aY.vals [.agg (aW L C E F (G.set 0 [I i]) H ah K)]):=
 h.cb
def O5(M A:ag)(b c:Int)(F G H ah K L C E:ag)(d e a:Int):aC:=bb 80 [(0,aR 1000000000),(1,aI.aG (bl.agg [.J .free 4 A,au b,au c])),(3,aR 3),(4,aR 4),(5,aR 5),(6,aR 1000000000),(7,aI.aG (bl.agg [.J .free 4 A,au b,au c])),(8,aI.aG (bl.agg [aB 90000 5 F,aB 90001 5 G,aB 90002 5 H,aB 90003 4 ah,aB 90004 1 K,aB 90005 1 L,aB 90006 1 C,aB 90007 2 E])),(9,aR 1000000000),(10,aU a),(11,.aG (.one (.bg (a==0)))),(12,.aG (.one (.bg (a==0)))),(20,.aG (.one (.bg (a==1)))),(21,.aG (.one (.bg (a==1)))),(29,.aG (.one (.bg (a==2)))),(30,.aG (.one (.bg (a==2)))),(37,.aG (.one (.bg (a==3)))),(38,.aG (.one (.bg (a==3)))),(45,.aG (.one (.bg (a==4)))),(46,.aG (.one (.bg (a==4))))] [(5,[aB 90000 5 F,aB 90001 5 G,aB 90002 5 H,aB 90003 4 ah,aB 90004 1 K,aB 90005 1 L,aB 90006 1 C,aB 90007 2 E]),(4,[.v (aN),.v (aN),.v (aN),.v (aN),.v (aN),.v (aN),.v (aN),.v (aN)]),(3,[.J .free 4 A,au b,au c]),(1000000000,[.dA 1000000100 1 M,au d,au e])]
def O6(P:Program)(W:Array Oper)(A L:ag)(g i:Int)(M C E F G H ah K:ag)(a b c d e f:Int):aC:=
 oD P W [[],[],[],[.dN [some [D.J 1 A,I d,I e],none] (aY.vals [ae f])],[],[],[],[],[],[]] (O5 A L g i M C E F G H ah K a b c)
theorem aso{A L:ag}{g i:Int}{M E F G H ah K C:ag}{b c d e f a:Int}
  (h:cQ [b2 prog 138 [aM.cur [D.J 1 A,I b,I c] [D.J 1 A,I e,I f],aM.ro (ae 6)] (aY.vals [ae a]),aL .i64 (a-1),(C.length+[[I (a-1),B false]].length)*16<=140737488355328,C.length+[[I (a-1),B false]].length<=9223372036854775807,Flat [[I (a-1),B false]]]):
  eK prog (c' f277 12) (O5 A L g i M E F G H ah K C b c d) (O6 prog (c' f277 12) A L g i M E F G H ah K C b c d e f a):=
 .pj [0,0,0,1,1,0,0,3,0,0] h
theorem asp(h:ad (H5 A j k L C E F G H ah K b c a l m M d e [.b (a==2) false,.b (a==3) false,.b (a==4) true,.a (.jl (O6 prog (c' f277 12) A M d e L C E F G H ah K b c a f g i)),.p (eK prog (c' f277 12) (O5 A M d e L C E F G H ah K b c a) (O6 prog (c' f277 12) A M d e L C E F G H ah K b c a f g i))])):
 ca 277 [aM.cur [D.J 1 A,I l,I m] [D.J 1 A,I f,I g],aM.ro (.agg (br M d e))] (aY.vals [.agg (aW L C E F G H ah (K++[[I (i-1),B false]]))]):=
 h.cb
def Ie(A:ag)(a b:Int)(C E F G H ah K L:ag)(c d e f g:Int)(M:ag)(i j:Int)(l:List O):List O:=H5 A a b C E F G H ah K L c d e f g M i j (.b (e==2) false::.b (e==3) false::.b (e==4) false::l)
theorem asq(h:ad (Ie A g i K C E F G H ah L b c a j k M l m [.b (a==5) true,.w A d e f,.k A 138 b c d e 2 f])):
 ca 277 [aM.cur [D.J 1 A,I j,I k] [D.J 1 A,I d,I e],aM.ro (.agg (br M l m))] (aY.vals [.agg [D.J 5 K,D.J 5 C,D.J 5 E,D.J 4 F,D.J 1 G,D.J 1 H,D.J 1 ah,D.J 2 [[I 1,B false],[I f,B true]]]]):=
 h.cb
theorem asr(h:ad (Ie A d e L E F G H C ah K b c a f g M i j [.b (a==5) false,.b (a==6) true,.g C [[B true]] 1,.h [[B true]]])):
 ca 277 [aM.cur [D.J 1 A,I f,I g] [D.J 1 A,I b,I c],aM.ro (.agg (br M i j))] (aY.vals [.agg (aW L E F G H (C++[[B true]]) ah K)]):=
 h.cb
theorem ass(h:ad (Ie A d e L E F C G H ah K b c a f g M i j [.b (a==5) false,.b (a==6) false,.b (a==7) true,.g C [[I 0,I 0,I 0,I 0]] 32,.h [[I 0,I 0,I 0,I 0]]])):
 ca 277 [aM.cur [D.J 1 A,I f,I g] [D.J 1 A,I b,I c],aM.ro (.agg (br M i j))] (aY.vals [.agg (aW L E F (C++[[I 0,I 0,I 0,I 0]]) G H ah K)]):=
 h.cb
theorem ast(h:ad (Ie A d e L C E F G H ah K b c a f g M i j [.b (a==5) false,.b (a==6) false,.b (a==7) false])):
 ca 277 [aM.cur [D.J 1 A,I f,I g] [D.J 1 A,I b,I c],aM.ro (.agg (br M i j))] (aY.vals [.agg (aW L C E F G H ah K)]):=
 h.cb
def Gq(H ah:ag)(c d e f:Int)(K G:ag)(a b:Int)(A C E F:ag)(q:Bool):aC:=bb 30 [(0,aR 1000000000),(2,aR 2),(3,aR 3),(4,.aG (.one (.bg q))),(5,aI.gx [bl.agg [aB 110000 4 G,au a,au b,aB 110003 8 A,aB 110004 6 C,aB 110005 5 E,aB 110006 3 F],bl.one (aF.bg q)]),(6,aR 1000000000),(7,aI.aG (bl.agg [aB 80000 4 ah,au c,au d])),(8,aR 1000000000),(9,aI.aG (bl.one (aB 100000 5 K))),(10,aI.gx [bl.agg [aB 110000 4 G,au a,au b,aB 110003 8 A,aB 110004 6 C,aB 110005 5 E,aB 110006 3 F],bl.one (aF.bg q)]),(11,aI.aG (bl.agg [aB 110000 4 G,au a,au b,aB 110003 8 A,aB 110004 6 C,aB 110005 5 E,aB 110006 3 F])),(12,.aG (.one (.bg q)))] [(3,[aB 110000 4 G,au a,au b,aB 110003 8 A,aB 110004 6 C,aB 110005 5 E,aB 110006 3 F]),(2,[.v (aN),au 0,au 0,.v (aN),.v (aN),.v (aN),.v (aN)]),(1000000000,[.dA 1000000100 1 H,au e,au f])]
def Dt(P:Program)(W:Array Oper)(A ba:ag)(j k a b:Int)(C E:ag)(c d:Int)(F G H ah:ag)(q:Bool)(e f:Int)(K L:ag)(g i:Int)(M N Q R S:ag):aC:=
 oD P W [[],[],[.dN [some [D.J 1 A,I e,I f],none] (aY.vals [aO 3 K])],[.res [.agg (cl L g i M N Q R),aO 1 S]],[],[],[],[]] (Gq A ba j k a b C E c d F G H ah q)
theorem Gr{A ba:ag}{j k a b:Int}{K C:ag}{c d:Int}{E F G H:ag}{q:Bool}{e f:Int}{ah L:ag}{g i:Int}{M N Q R S:ag}
  (h:cQ [b2 prog 120 [aM.cur [D.J 1 A,I a,I b] [D.J 1 A,I e,I f],aM.ro (ae 40)] (aY.vals [aO 3 ah]),aq 15 [.agg (cl C c d E F G H),aO 3 ah] [.agg (cl L g i M N Q R),aO 1 S]]):
  eK prog (c' f166 2) (Gq A ba j k a b K C c d E F G H q) (Dt prog (c' f166 2) A ba j k a b K C c d E F G H q e f ah L g i M N Q R S):=
 .pj [0,0,1,1,0,0,0,0] h
def O7(Q R:ag)(e i:Int)(ba K:ag)(c d:Int)(L M A C:ag)(q:Bool)(S E:ag)(a b:Int)(F G H ah N:ag)(f g:Int)(r:Bool):aC:=bb 30 [(0,aR 1000000000),(2,aR 2),(3,aR 3),(4,.aG (.one (.bg q))),(5,aI.gx [bl.agg [aB 110000 4 K,au c,au d,aB 110003 8 L,aB 110004 6 M,aB 110005 5 A,aB 110006 3 C],bl.one (aF.bg q)]),(6,aR 1000000000),(7,aI.aG (bl.agg [aB 80000 4 R,au e,au i])),(8,aR 1000000000),(9,aI.aG (bl.one (aB 100000 5 ba))),(10,aI.gx [bl.agg [aB 110000 4 K,au c,au d,aB 110003 8 L,aB 110004 6 M,aB 110005 5 A,aB 110006 3 C],bl.one (aF.bg q)]),(11,aI.aG (bl.agg [aB 110000 4 K,au c,au d,aB 110003 8 L,aB 110004 6 M,aB 110005 5 A,aB 110006 3 C])),(12,.aG (.one (.bg q))),(13,aI.gx [bl.agg [aB 180000 4 E,au a,au b,aB 180003 8 F,aB 180004 6 G,aB 180005 5 H,aB 180006 3 ah],bl.one (aB 180100 1 N)]),(14,aI.aG (bl.agg [aB 110000 4 K,au c,au d,aB 110003 8 L,aB 110004 6 M,aB 110005 5 A,aB 110006 3 C])),(15,aR 1000000000),(16,aI.aG (bl.one (aB 170000 3 S))),(17,aI.gx [bl.agg [aB 180000 4 E,au a,au b,aB 180003 8 F,aB 180004 6 G,aB 180005 5 H,aB 180006 3 ah],bl.one (aB 180100 1 N)]),(18,aI.aG (bl.agg [aB 180000 4 E,au a,au b,aB 180003 8 F,aB 180004 6 G,aB 180005 5 H,aB 180006 3 ah])),(19,aI.aG (bl.one (aB 180100 1 N))),(20,aR 1000000000),(21,.aG (.one (.bg r)))] [(3,[aB 180000 4 E,au a,au b,aB 180003 8 F,aB 180004 6 G,aB 180005 5 H,aB 180006 3 ah]),(2,[.v (aN),au 0,au 0,.v (aN),.v (aN),.v (aN),.v (aN)]),(1000000000,[.dA 1000000100 1 Q,au f,au g])]
def O8(P:Program)(W:Array Oper)(A dC:ag)(n o:Int)(C E:ag)(a b:Int)(F G H ah:ag)(q:Bool)(K L:ag)(c d:Int)(M N Q R S:ag)(e f:Int)(r:Bool)(g i j:Int)(ba:ag)(k l:Int)(V X Y Z:ag)(m:Int):aC:=
 oD P W [[],[],[.dN [some [D.J 1 A,I g,I i],none] (aY.vals [ae j])],[.res [.agg (cl ba k l V X Y Z),ae m]],[],[],[],[]] (O7 A dC n o C E a b F G H ah q K L c d M N Q R S e f r)
theorem XV{A dC:ag}{n o:Int}{ah K:ag}{f g:Int}{L M N Q:ag}{q:Bool}{R C:ag}{a b:Int}{E F G H S:ag}{c d:Int}{r:Bool}{i j e:Int}{ba:ag}{k l:Int}{V X Y Z:ag}{m:Int}
  (h:cQ [b2 prog 138 [aM.cur [D.J 1 A,I c,I d] [D.J 1 A,I i,I j],aM.ro (ae 12)] (aY.vals [ae e]),aq 16 [.agg (cl C a b E F G H),ae e] [.agg (cl ba k l V X Y Z),ae m]]):
  eK prog (c' f166 4) (O7 A dC n o ah K f g L M N Q q R C a b E F G H S c d r) (O8 prog (c' f166 4) A dC n o ah K f g L M N Q q R C a b E F G H S c d r i j e ba k l V X Y Z m):=
 .pj [0,0,1,1,0,0,0,0] h
def ZJ(A:ag)(a b:Int)(C:ag)(c d e f:Int)(E:ag)(g i:Int)(F:ag)(j k:Int)(G H ah K:ag)(q:Bool)(l:List O):List O:=.a (.dN [some [D.J 1 A,I a,I b]] (aY.vals [.agg (br C c d)]))::.a (.dN [some [D.J 1 A,I e,I f]] (aY.vals [aO 5 E]))::.p (b2 prog 118 [aM.cur [D.J 1 A,I g,I i] [D.J 1 A,I a,I b]] (aY.vals [.agg (br C c d)]))::.p (b2 prog 119 [aM.cur [D.J 1 A,I a,I b] [D.J 1 A,I e,I f]] (aY.vals [aO 5 E]))::.r 14 [.agg (br C c d),aO 5 E] [.agg (cl F j k G H ah K),aj q]::l
theorem XW(h:ad (ZJ A p c5 E a b e f C d0 bE F c d G H ah K q [.a (.jl (Dt prog (c' f166 2) A E a b e f C F c d G H ah K q l m L M g i N Q R S ba)),.y A j k r,.p (eK prog (c' f166 2) (Gq A E a b e f C F c d G H ah K q) (Dt prog (c' f166 2) A E a b e f C F c d G H ah K q l m L M g i N Q R S ba)),.m A 136 l m j k 4 r,.b r true,.a (.jl (O8 prog (c' f166 4) A E a b C F c d G H ah K q L M g i N Q R S ba j k r n o f0 V a0 b6 X Y Z dC i0)),.p (eK prog (c' f166 4) (O7 A E a b C F c d G H ah K q L M g i N Q R S ba j k r) (O8 prog (c' f166 4) A E a b C F c d G H ah K q L M g i N Q R S ba j k r n o f0 V a0 b6 X Y Z dC i0))])):
 ca 166 [aM.cur [D.J 1 A,I d0,I bE] [D.J 1 A,I n,I o]] (aY.vals [.agg (cl V a0 b6 X Y Z dC)]):=
 h.cb
theorem XX(h:ad (ZJ A n o E a b c d C p a0 F e f G H ah K q [.a (.jl (Dt prog (c' f166 2) A E a b c d C F e f G H ah K q g i S L j k M N Q R ba)),.y A l m r,.p (eK prog (c' f166 2) (Gq A E a b c d C F e f G H ah K q) (Dt prog (c' f166 2) A E a b c d C F e f G H ah K q g i S L j k M N Q R ba)),.m A 136 g i l m 4 r,.b r false])):
 ca 166 [aM.cur [D.J 1 A,I p,I a0] [D.J 1 A,I l,I m]] (aY.vals [.agg (cl L j k M N Q R)]):=
 h.cb
def XY(H C:ag)(b c:Int)(A E F G:ag)(d f e a:Int):aC:=bb 82 [(0,aR 1000000000),(2,aR 2),(3,aR 3),(4,aU d),(5,aR 1000000000),(6,aI.aG (bl.agg [aB 70000 4 C,au b,au c,aB 70003 8 A,aB 70004 6 E,aB 70005 5 F,aB 70006 3 G])),(7,aR 1000000000),(8,.aG (.one (.ptr 3 3))),(9,aI.aG (bl.one (aB 70003 8 A))),(10,aU (A.length:Int)),(11,aU d),(12,aR 1000000000),(13,aU a),(14,.aG (.one (.bg (a==0)))),(15,.aG (.one (.bg (a==0))))] [(3,[aB 70000 4 C,au b,au c,aB 70003 8 A,aB 70004 6 E,aB 70005 5 F,aB 70006 3 G]),(2,[.v (aN),au 0,au 0,.v (aN),.v (aN),.v (aN),.v (aN)]),(1000000000,[.dA 1000000100 1 H,au f,au e])]
def O9(S M:ag)(b c:Int)(A N Q R:ag)(a d e f:Int)(C E F G H ah K L:ag):aC:=bb 82 [(0,aR 1000000000),(2,aR 2),(3,aR 3),(4,aU a),(5,aR 1000000000),(6,aI.aG (bl.agg [aB 70000 4 M,au b,au c,aB 70003 8 (A.set a.toNat (aW C E F G H ah K L)),aB 70004 6 N,aB 70005 5 Q,aB 70006 3 R])),(7,aR 1000000000),(8,.aG (.one (.ptr 3 3))),(9,aI.aG (bl.one (aB 70003 8 (A.set a.toNat (aW C E F G H ah K L))))),(10,aU (A.length:Int)),(11,aU a),(12,aR 1000000000),(13,aU d),(14,.aG (.one (.bg (d==0)))),(15,.aG (.one (.bg (d==0)))),(16,.aG (.one (.ptr 3 3))),(17,aI.aG (bl.one (aB 70003 8 (A.set a.toNat (aW C E F G H ah K L))))),(18,aU a),(19,aR 1000000000),(20,aR 3),(21,aI.aG (bl.agg [aB 70000 4 M,au b,au c])),(22,aI.aG (bl.agg [.cp,.cp,.cp,.cp,.cp,.cp,.cp,.cp])),(23,.aG (.one (.ep (Tag.own 70003) 8 (A.set a.toNat (aW C E F G H ah K L)) a.toNat 0)))] [(3,[aB 70000 4 M,au b,au c,aB 70003 8 (A.set a.toNat (aW C E F G H ah K L)),aB 70004 6 N,aB 70005 5 Q,aB 70006 3 R]),(2,[.v (aN),au 0,au 0,.v (aN),.v (aN),.v (aN),.v (aN)]),(1000000000,[.dA 1000000100 1 S,au e,au f])]
theorem asu{A N:ag}{d e:Int}{C Q R S:ag}{a f g i b c:Int}{E F G H ah K L M:ag}{d32 d33 d34 d35 d36 d37 d38 d39:D}
  (h:cQ [b2 prog 277 [aM.cur [D.J 1 A,I f,I g] [D.J 1 A,I b,I c],aM.ro (.agg (br N d e))] (aY.vals [.agg (aW E F G H ah K L M)]),0<=a,a<(C.length:Int),C[a.toNat]?=some [d32,d33,d34,d35,d36,d37,d38,d39]]):
  eK prog (c' f185 5) (XY A N d e C Q R S a f g i) (O9 A N d e C Q R S a i b c E F G H ah K L M):=
 .of [[],[],[],[],[],[],[.dN [some [D.J 1 A,I b,I c],none] (aY.vals [.agg (aW E F G H ah K L M)])],[],[.el [d32,d33,d34,d35,d36,d37,d38,d39]]] [[],[],[],[],[],[],[b2 prog 277 [aM.cur [D.J 1 A,I f,I g] [D.J 1 A,I b,I c],aM.ro (.agg (br N d e))] (aY.vals [.agg (aW E F G H ah K L M)])],[0<=a,a<(C.length:Int)],[C[a.toNat]?=some [d32,d33,d34,d35,d36,d37,d38,d39]]] (by kernel_rfl) (by kernel_rfl) (by kernel_rfl) h
def PA(A:ag)(a b:Int)(C:ag)(c d:Int)(E F G H:ag)(e f g i j k m n:Int)(l:List O):List O:=.a (.dN [some [D.J 1 A,I a,I b]] (aY.vals [.agg (cl C c d E F G H)]))::.w A e f g::.w A i j k::.p (b2 prog 166 [aM.cur [D.J 1 A,I m,I n] [D.J 1 A,I a,I b]] (aY.vals [.agg (cl C c d E F G H)]))::.k A 138 a b e f (E.length:Int) g::.k A 138 e f i j 20 k::l
theorem arE(h:ad (PA A l m H c d C E F G e f a g i b n o [.b (b==0) true,.a (.jl (O9 A H c d C E F G a b j k ah K L M N Q R S)),.p (eK prog (c' f185 5) (XY A H c d C E F G a g i b) (O9 A H c d C E F G a b j k ah K L M N Q R S))])):
 ca 185 [aM.cur [D.J 1 A,I n,I o] [D.J 1 A,I j,I k]] (aY.vals [.agg (cl H c d (C.set a.toNat (aW ah K L M N Q R S)) E F G)]):=
 h.cb
def XZ(H C:ag)(b c:Int)(A E F G:ag)(d f e a:Int):aC:=bb 82 [(0,aR 1000000000),(2,aR 2),(3,aR 3),(4,aU d),(5,aR 1000000000),(6,aI.aG (bl.agg [aB 70000 4 C,au b,au c,aB 70003 8 A,aB 70004 6 E,aB 70005 5 F,aB 70006 3 G])),(7,aR 1000000000),(8,.aG (.one (.ptr 3 3))),(9,aI.aG (bl.one (aB 70003 8 A))),(10,aU (A.length:Int)),(11,aU d),(12,aR 1000000000),(13,aU a),(14,.aG (.one (.bg (a==0)))),(15,.aG (.one (.bg (a==0)))),(24,.aG (.one (.bg (a==1)))),(25,.aG (.one (.bg (a==1))))] [(3,[aB 70000 4 C,au b,au c,aB 70003 8 A,aB 70004 6 E,aB 70005 5 F,aB 70006 3 G]),(2,[.v (aN),au 0,au 0,.v (aN),.v (aN),.v (aN),.v (aN)]),(1000000000,[.dA 1000000100 1 H,au f,au e])]
def Og(ah F:ag)(i j:Int)(E A G H:ag)(k g a l m b:Int)(C:ag)(c d e f:Int):aC:=bb 82 [(0,aR 1000000000),(2,aR 2),(3,aR 3),(4,aU k),(5,aR 1000000000),(6,aI.aG (bl.agg [aB 70000 4 F,au i,au j,aB 70003 8 E,aB 70004 6 (A.set a.toNat (bY b C c d e f)),aB 70005 5 G,aB 70006 3 H])),(7,aR 1000000000),(8,.aG (.one (.ptr 3 3))),(9,aI.aG (bl.one (aB 70003 8 E))),(10,aU (E.length:Int)),(11,aU k),(12,aR 1000000000),(13,aU g),(14,.aG (.one (.bg (g==0)))),(15,.aG (.one (.bg (g==0)))),(24,.aG (.one (.bg (g==1)))),(25,.aG (.one (.bg (g==1)))),(26,.aG (.one (.ptr 3 4))),(27,aI.aG (bl.one (aB 70004 6 (A.set a.toNat (bY b C c d e f))))),(28,aR 1000000000),(29,.aG (.one (.ptr 3 4))),(30,aI.aG (bl.one (aB 70004 6 (A.set a.toNat (bY b C c d e f))))),(31,aU (A.length:Int)),(32,aU a),(33,aR 1000000000),(34,aI.aG (bl.agg [au b,.cp,au c,au d,au e,au f])),(35,.aG (.one (.ep (Tag.own 70004) 6 (A.set a.toNat (bY b C c d e f)) a.toNat 0)))] [(3,[aB 70000 4 F,au i,au j,aB 70003 8 E,aB 70004 6 (A.set a.toNat (bY b C c d e f)),aB 70005 5 G,aB 70006 3 H]),(2,[.v (aN),au 0,au 0,.v (aN),.v (aN),.v (aN),.v (aN)]),(1000000000,[.dA 1000000100 1 ah,au l,au m])]
theorem arF{A H:ag}{p a0:Int}{ah C F G:ag}{n l m o b c a d e f:Int}{E:ag}{g i j k:Int}{d34 d35 d36 d37 d38 d39:D}
  (h:cQ [b2 prog 138 [aM.cur [D.J 1 A,I l,I m] [D.J 1 A,I b,I c],aM.ro (ae (C.length:Int))] (aY.vals [ae a]),b2 prog 278 [aM.cur [D.J 1 A,I b,I c] [D.J 1 A,I d,I e]] (aY.vals [.agg (bY f E g i j k)]),0<=a,a<(C.length:Int),C[a.toNat]?=some [d34,d35,d36,d37,d38,d39]]):
  eK prog (c' f185 7) (XZ A H p a0 ah C F G n l m o) (Og A H p a0 ah C F G n o a d e f E g i j k):=
 .of [[],[],[],[],[],[],[.dN [some [D.J 1 A,I b,I c],none] (aY.vals [ae a])],[],[.dN [some [D.J 1 A,I d,I e]] (aY.vals [.agg (bY f E g i j k)])],[],[.el [d34,d35,d36,d37,d38,d39]]] [[],[],[],[],[],[],[b2 prog 138 [aM.cur [D.J 1 A,I l,I m] [D.J 1 A,I b,I c],aM.ro (ae (C.length:Int))] (aY.vals [ae a])],[],[b2 prog 278 [aM.cur [D.J 1 A,I b,I c] [D.J 1 A,I d,I e]] (aY.vals [.agg (bY f E g i j k)])],[0<=a,a<(C.length:Int)],[C[a.toNat]?=some [d34,d35,d36,d37,d38,d39]]] (by kernel_rfl) (by kernel_rfl) (by kernel_rfl) h
theorem arG(h:ad (PA A b6 c5 H b c C E F G e f d g i a d0 bE [.b (a==0) false,.b (a==1) true,.a (.jl (Og A H b c C E F G d a j k l m ah n o p a0)),.p (eK prog (c' f185 7) (XZ A H b c C E F G d g i a) (Og A H b c C E F G d a j k l m ah n o p a0))])):
 ca 185 [aM.cur [D.J 1 A,I d0,I bE] [D.J 1 A,I k,I l]] (aY.vals [.agg (cl H b c C (E.set j.toNat (bY m ah n o p a0)) F G)]):=
 h.cb
def X0(H C:ag)(b c:Int)(A E F G:ag)(d f e a:Int):aC:=bb 82 [(0,aR 1000000000),(2,aR 2),(3,aR 3),(4,aU d),(5,aR 1000000000),(6,aI.aG (bl.agg [aB 70000 4 C,au b,au c,aB 70003 8 A,aB 70004 6 E,aB 70005 5 F,aB 70006 3 G])),(7,aR 1000000000),(8,.aG (.one (.ptr 3 3))),(9,aI.aG (bl.one (aB 70003 8 A))),(10,aU (A.length:Int)),(11,aU d),(12,aR 1000000000),(13,aU a),(14,.aG (.one (.bg (a==0)))),(15,.aG (.one (.bg (a==0)))),(24,.aG (.one (.bg (a==1)))),(25,.aG (.one (.bg (a==1)))),(36,.aG (.one (.bg (a==2)))),(37,.aG (.one (.bg (a==2))))] [(3,[aB 70000 4 C,au b,au c,aB 70003 8 A,aB 70004 6 E,aB 70005 5 F,aB 70006 3 G]),(2,[.v (aN),au 0,au 0,.v (aN),.v (aN),.v (aN),.v (aN)]),(1000000000,[.dA 1000000100 1 H,au f,au e])]
def Oh(H E:ag)(d e:Int)(C F A G:ag)(f c a g i b:Int)(d14 d15 d16 d17:D):aC:=bb 82 [(0,aR 1000000000),(2,aR 2),(3,aR 3),(4,aU f),(5,aR 1000000000),(6,aI.aG (bl.agg [aB 70000 4 E,au d,au e,aB 70003 8 C,aB 70004 6 F,aB 70005 5 (A.set a.toNat [d14,I (b-1),d15,d16,d17]),aB 70006 3 G])),(7,aR 1000000000),(8,.aG (.one (.ptr 3 3))),(9,aI.aG (bl.one (aB 70003 8 C))),(10,aU (C.length:Int)),(11,aU f),(12,aR 1000000000),(13,aU c),(14,.aG (.one (.bg (c==0)))),(15,.aG (.one (.bg (c==0)))),(24,.aG (.one (.bg (c==1)))),(25,.aG (.one (.bg (c==1)))),(36,.aG (.one (.bg (c==2)))),(37,.aG (.one (.bg (c==2)))),(38,.aG (.one (.ptr 3 5))),(39,aI.aG (bl.one (aB 70005 5 (A.set a.toNat [d14,I (b-1),d15,d16,d17])))),(40,aR 1000000000),(41,aU a),(42,aR 1000000000),(43,aU b),(44,aU (b-1)),(45,.aG (.one (.ep (Tag.own 70005) 5 (A.set a.toNat [d14,I (b-1),d15,d16,d17]) a.toNat 0))),(46,.aG (.one (.ep (Tag.own 70005) 5 (A.set a.toNat [d14,I (b-1),d15,d16,d17]) a.toNat 1)))] [(3,[aB 70000 4 E,au d,au e,aB 70003 8 C,aB 70004 6 F,aB 70005 5 (A.set a.toNat [d14,I (b-1),d15,d16,d17]),aB 70006 3 G]),(2,[.v (aN),au 0,au 0,.v (aN),.v (aN),.v (aN),.v (aN)]),(1000000000,[.dA 1000000100 1 H,au g,au i])]
theorem arH{A G:ag}{l m:Int}{H E C F:ag}{j g i k c d a e f b:Int}{d29 d30 d31 d32 d33:D}
  (h:cQ [b2 prog 138 [aM.cur [D.J 1 A,I g,I i] [D.J 1 A,I c,I d],aM.ro (ae 4)] (aY.vals [ae a]),b2 prog 138 [aM.cur [D.J 1 A,I c,I d] [D.J 1 A,I e,I f],aM.ro (ae 6)] (aY.vals [ae b]),aL .i64 (b-1),0<=a,a<(C.length:Int),C[a.toNat]?=some [d29,d30,d31,d32,d33]]):
  eK prog (c' f185 9) (X0 A G l m H E C F j g i k) (Oh A G l m H E C F j k a e f b d29 d31 d32 d33):=
 .of [[],[],[],[.dN [some [D.J 1 A,I c,I d],none] (aY.vals [ae a])],[],[.dN [some [D.J 1 A,I e,I f],none] (aY.vals [ae b])],[],[],[],[.el [d29,d30,d31,d32,d33]]] [[],[],[],[b2 prog 138 [aM.cur [D.J 1 A,I g,I i] [D.J 1 A,I c,I d],aM.ro (ae 4)] (aY.vals [ae a])],[],[b2 prog 138 [aM.cur [D.J 1 A,I c,I d] [D.J 1 A,I e,I f],aM.ro (ae 6)] (aY.vals [ae b])],[aL .i64 (b-1)],[0<=a,a<(C.length:Int)],[],[C[a.toNat]?=some [d29,d30,d31,d32,d33]]] (by kernel_rfl) (by kernel_rfl) (by kernel_rfl) h
def AO(A:ag)(a b:Int)(C:ag)(c d:Int)(E F G H:ag)(e f g i j k m n:Int)(l:List O):List O:=PA A a b C c d E F G H e f g i j k m n (.b (k==0) false::.b (k==1) false::l)
theorem arI{A:ag}{p a0 n o:Int}{H:ag}{b c:Int}{C E F G:ag}{e f d g i a j k l m:Int}{d29 d31 d32 d33:D}(h:ad (AO A n o H b c C E F G e f d g i a p a0 [.b (a==2) true,.a (.jl (Oh A H b c C E F G d a j k l m d29 d31 d32 d33)),.p (eK prog (c' f185 9) (X0 A H b c C E F G d g i a) (Oh A H b c C E F G d a j k l m d29 d31 d32 d33))])):
 ca 185 [aM.cur [D.J 1 A,I p,I a0] [D.J 1 A,I k,I l]] (aY.vals [.agg (cl H b c C E (F.set j.toNat [d29,I (m-1),d31,d32,d33]) G)]):=
 h.cb
def X1(H C:ag)(b c:Int)(A E F G:ag)(d f e a:Int):aC:=bb 82 [(0,aR 1000000000),(2,aR 2),(3,aR 3),(4,aU d),(5,aR 1000000000),(6,aI.aG (bl.agg [aB 70000 4 C,au b,au c,aB 70003 8 A,aB 70004 6 E,aB 70005 5 F,aB 70006 3 G])),(7,aR 1000000000),(8,.aG (.one (.ptr 3 3))),(9,aI.aG (bl.one (aB 70003 8 A))),(10,aU (A.length:Int)),(11,aU d),(12,aR 1000000000),(13,aU a),(14,.aG (.one (.bg (a==0)))),(15,.aG (.one (.bg (a==0)))),(24,.aG (.one (.bg (a==1)))),(25,.aG (.one (.bg (a==1)))),(36,.aG (.one (.bg (a==2)))),(37,.aG (.one (.bg (a==2)))),(47,.aG (.one (.bg (a==3)))),(48,.aG (.one (.bg (a==3))))] [(3,[aB 70000 4 C,au b,au c,aB 70003 8 A,aB 70004 6 E,aB 70005 5 F,aB 70006 3 G]),(2,[.v (aN),au 0,au 0,.v (aN),.v (aN),.v (aN),.v (aN)]),(1000000000,[.dA 1000000100 1 H,au f,au e])]
def Oi(H E:ag)(c d:Int)(C F A G:ag)(e a f g b:Int)(d13 d14 d15 d16:D):aC:=bb 82 [(0,aR 1000000000),(2,aR 2),(3,aR 3),(4,aU e),(5,aR 1000000000),(6,aI.aG (bl.agg [aB 70000 4 E,au c,au d,aB 70003 8 C,aB 70004 6 F,aB 70005 5 (A.set 0 [d13,d14,I b,d15,d16]),aB 70006 3 G])),(7,aR 1000000000),(8,.aG (.one (.ptr 3 3))),(9,aI.aG (bl.one (aB 70003 8 C))),(10,aU (C.length:Int)),(11,aU e),(12,aR 1000000000),(13,aU a),(14,.aG (.one (.bg (a==0)))),(15,.aG (.one (.bg (a==0)))),(24,.aG (.one (.bg (a==1)))),(25,.aG (.one (.bg (a==1)))),(36,.aG (.one (.bg (a==2)))),(37,.aG (.one (.bg (a==2)))),(47,.aG (.one (.bg (a==3)))),(48,.aG (.one (.bg (a==3)))),(49,.aG (.one (.ptr 3 5))),(50,aI.aG (bl.one (aB 70005 5 (A.set 0 [d13,d14,I b,d15,d16])))),(51,aR 1000000000),(52,.aG (.one (.J (.own 52) 1 [[I 1000000],[I 1000001],[I (-1000001)],[I 3]]))),(53,aU b),(54,.aG (.one (.ep (Tag.own 70005) 5 (A.set 0 [d13,d14,I b,d15,d16]) 0 0))),(55,.aG (.one (.ep (Tag.own 70005) 5 (A.set 0 [d13,d14,I b,d15,d16]) 0 2)))] [(3,[aB 70000 4 E,au c,au d,aB 70003 8 C,aB 70004 6 F,aB 70005 5 (A.set 0 [d13,d14,I b,d15,d16]),aB 70006 3 G]),(2,[.v (aN),au 0,au 0,.v (aN),.v (aN),.v (aN),.v (aN)]),(1000000000,[.dA 1000000100 1 H,au f,au g])]
theorem arJ{A G:ag}{i j:Int}{H E C F:ag}{f d e g a b c:Int}{d25 d26 d27 d28 d29:D}
  (h:cQ [b2 prog 140 [aM.cur [D.J 1 A,I d,I e] [D.J 1 A,I a,I b],aM.ro (.one (.J 1 [[I 1000000],[I 1000001],[I (-1000001)],[I 3]]))] (aY.vals [ae c]),(0:Int)<=0,0<(C.length:Int),C[0]?=some [d25,d26,d27,d28,d29]]):
  eK prog (c' f185 11) (X1 A G i j H E C F f d e g) (Oi A G i j H E C F f g a b c d25 d26 d28 d29):=
 .of [[],[],[],[],[.dN [some [D.J 1 A,I a,I b],none] (aY.vals [ae c])],[],[],[.el [d25,d26,d27,d28,d29]]] [[],[],[],[],[b2 prog 140 [aM.cur [D.J 1 A,I d,I e] [D.J 1 A,I a,I b],aM.ro (.one (.J 1 [[I 1000000],[I 1000001],[I (-1000001)],[I 3]]))] (aY.vals [ae c])],[(0:Int)<=0,0<(C.length:Int)],[],[C[0]?=some [d25,d26,d27,d28,d29]]] (by kernel_rfl) (by kernel_rfl) (by kernel_rfl) h
theorem arK{A:ag}{o p m n:Int}{H:ag}{b c:Int}{C E F G:ag}{e f d g i a j k l:Int}{d25 d26 d28 d29:D}(h:ad (AO A m n H b c C E F G e f d g i a o p [.b (a==2) false,.b (a==3) true,.a (.jl (Oi A H b c C E F G d a j k l d25 d26 d28 d29)),.p (eK prog (c' f185 11) (X1 A H b c C E F G d g i a) (Oi A H b c C E F G d a j k l d25 d26 d28 d29))])):
 ca 185 [aM.cur [D.J 1 A,I o,I p] [D.J 1 A,I j,I k]] (aY.vals [.agg (cl H b c C E (F.set 0 [d25,d26,I l,d28,d29]) G)]):=
 h.cb
def X2(H C:ag)(b c:Int)(A E F G:ag)(d f e a:Int):aC:=bb 82 [(0,aR 1000000000),(2,aR 2),(3,aR 3),(4,aU d),(5,aR 1000000000),(6,aI.aG (bl.agg [aB 70000 4 C,au b,au c,aB 70003 8 A,aB 70004 6 E,aB 70005 5 F,aB 70006 3 G])),(7,aR 1000000000),(8,.aG (.one (.ptr 3 3))),(9,aI.aG (bl.one (aB 70003 8 A))),(10,aU (A.length:Int)),(11,aU d),(12,aR 1000000000),(13,aU a),(14,.aG (.one (.bg (a==0)))),(15,.aG (.one (.bg (a==0)))),(24,.aG (.one (.bg (a==1)))),(25,.aG (.one (.bg (a==1)))),(36,.aG (.one (.bg (a==2)))),(37,.aG (.one (.bg (a==2)))),(47,.aG (.one (.bg (a==3)))),(48,.aG (.one (.bg (a==3)))),(56,.aG (.one (.bg (a==4)))),(57,.aG (.one (.bg (a==4))))] [(3,[aB 70000 4 C,au b,au c,aB 70003 8 A,aB 70004 6 E,aB 70005 5 F,aB 70006 3 G]),(2,[.v (aN),au 0,au 0,.v (aN),.v (aN),.v (aN),.v (aN)]),(1000000000,[.dA 1000000100 1 H,au f,au e])]
def Oj(H E:ag)(d e:Int)(A F G C:ag)(f a b g i c:Int):aC:=bb 82 [(0,aR 1000000000),(2,aR 2),(3,aR 3),(4,aU f),(5,aR 1000000000),(6,aI.aG (bl.agg [aB 70000 4 E,au d,au e,aB 70003 8 A,aB 70004 6 F,aB 70005 5 G,.J (Tag.ro 70006) 3 C])),(7,aR 1000000000),(8,.aG (.one (.ptr 3 3))),(9,aI.aG (bl.one (aB 70003 8 A))),(10,aU (A.length:Int)),(11,aU f),(12,aR 1000000000),(13,aU a),(14,.aG (.one (.bg (a==0)))),(15,.aG (.one (.bg (a==0)))),(24,.aG (.one (.bg (a==1)))),(25,.aG (.one (.bg (a==1)))),(36,.aG (.one (.bg (a==2)))),(37,.aG (.one (.bg (a==2)))),(47,.aG (.one (.bg (a==3)))),(48,.aG (.one (.bg (a==3)))),(56,.aG (.one (.bg (a==4)))),(57,.aG (.one (.bg (a==4)))),(58,.aG (.one (.ptr 3 6))),(59,.aG (.one (.J (Tag.ro 70006) 3 C))),(60,aR 1000000000),(61,aU b),(62,aU (b-1)),(63,aR 1000000000),(64,aU c),(65,aU (c-1)),(66,aI.aG (bl.agg [au (b-1),au (c-1),.v (Value.bool false)])),(67,.aG (.one (.J (.own 67) 3 [[I (b-1),I (c-1),B false]]))),(68,aI.aG (bl.one (aB 70006 3 (C++[[I (b-1),I (c-1),B false]])))),(69,.aG (.one (.ptr 3 6)))] [(3,[aB 70000 4 E,au d,au e,aB 70003 8 A,aB 70004 6 F,aB 70005 5 G,aB 70006 3 (C++[[I (b-1),I (c-1),B false]])]),(2,[.v (aN),au 0,au 0,.v (aN),.v (aN),.v (aN),.v (aN)]),(1000000000,[.dA 1000000100 1 H,au g,au i])]
theorem arL{A G:ag}{l m:Int}{H E F C:ag}{j g i k c d a e f b:Int}
  (h:cQ [b2 prog 138 [aM.cur [D.J 1 A,I g,I i] [D.J 1 A,I c,I d],aM.ro (ae 6)] (aY.vals [ae a]),aL .i64 (a-1),b2 prog 138 [aM.cur [D.J 1 A,I c,I d] [D.J 1 A,I e,I f],aM.ro (ae 6)] (aY.vals [ae b]),aL .i64 (b-1),(C.length+[[I (a-1),I (b-1),B false]].length)*24<=140737488355328,C.length+[[I (a-1),I (b-1),B false]].length<=9223372036854775807,Flat [[I (a-1),I (b-1),B false]]]):
  eK prog (c' f185 13) (X2 A G l m H E F C j g i k) (Oj A G l m H E F C j k a e f b):=
 .of [[],[],[],[.dN [some [D.J 1 A,I c,I d],none] (aY.vals [ae a])],[],[],[.dN [some [D.J 1 A,I e,I f],none] (aY.vals [ae b])],[],[],[],[],[],[]] [[],[],[],[b2 prog 138 [aM.cur [D.J 1 A,I g,I i] [D.J 1 A,I c,I d],aM.ro (ae 6)] (aY.vals [ae a])],[aL .i64 (a-1)],[],[b2 prog 138 [aM.cur [D.J 1 A,I c,I d] [D.J 1 A,I e,I f],aM.ro (ae 6)] (aY.vals [ae b])],[aL .i64 (b-1)],[],[],[(C.length+[[I (a-1),I (b-1),B false]].length)*24<=140737488355328,C.length+[[I (a-1),I (b-1),B false]].length<=9223372036854775807,Flat [[I (a-1),I (b-1),B false]]],[],[]] (by kernel_rfl) (by kernel_rfl) (by kernel_rfl) h
theorem arM(h:ad (AO A n o H b c C E F G e f d g i a p a0 [.b (a==2) false,.b (a==3) false,.b (a==4) true,.a (.jl (Oj A H b c C E F G d a j k l m)),.p (eK prog (c' f185 13) (X2 A H b c C E F G d g i a) (Oj A H b c C E F G d a j k l m))])):
 ca 185 [aM.cur [D.J 1 A,I p,I a0] [D.J 1 A,I k,I l]] (aY.vals [.agg (cl H b c C E F (G++[[I (j-1),I (m-1),B false]]))]):=
 h.cb
theorem arN(h:ad (AO A k l ah p a0 C E F G b c n d e a m o [.b (a==2) false,.b (a==3) false,.b (a==4) false,.b (a==5) true,.a (.dN [some [D.J 1 A,I f,I g]] (aY.vals [.agg (br H i j)])),.p (b2 prog 137 [aM.cur [D.J 1 A,I d,I e] [D.J 1 A,I f,I g]] (aY.vals [.agg (br H i j)]))])):
 ca 185 [aM.cur [D.J 1 A,I m,I o] [D.J 1 A,I f,I g]] (aY.vals [.agg (cl H i j C E F G)]):=
 h.cb
theorem arO(h:ad (AO A f g H i j E F C G b c l d e a k m [.b (a==2) false,.b (a==3) false,.b (a==4) false,.b (a==5) false,.b (a==6) true,.a .own,.p ((0:Int)<=none.getD 0),.p (none.getD 0<=(some (3:Int)).getD (C.length:Int)),.p ((some (3:Int)).getD (C.length:Int)<=(C.length:Int))])):
 ca 185 [aM.cur [D.J 1 A,I k,I m] [D.J 1 A,I d,I e]] (aY.vals [.agg (cl H i j E F (List.take (3-0) (List.drop 0 C)) G)]):=
 h.cb
theorem arP(h:ad (AO A f g H i j C E F G b c l d e a k m [.b (a==2) false,.b (a==3) false,.b (a==4) false,.b (a==5) false,.b (a==6) false])):
 ca 185 [aM.cur [D.J 1 A,I k,I m] [D.J 1 A,I d,I e]] (aY.vals [.agg (cl H i j C E F G)]):=
 h.cb
def Ig(A:ag)(a b c d:Int)(C:ag)(e f:Int)(E F G H:ag)(l:List O):List O:=.a (.dN [none] (aY.iM [some 0,none,none] [D.J 1 A,I a,I b]))::.a (.dN [some [D.J 1 A,I c,I d]] (aY.vals [.agg (cl C e f E F G H)]))::l
theorem arQ(h:ad (Ig A a b e f H c d C E F G [.p (b2 prog 117 [aM.ro (aO 1 A)] (aY.iM [some 0,none,none] [D.J 1 A,I a,I b])),.p (b2 prog 166 [aM.cur [D.J 1 A,I a,I b] [D.J 1 A,I e,I f]] (aY.vals [.agg (cl H c d C E F G)]))])):
 aq 39 [aO 1 A] [.agg (cl H c d C E F G)]:=
 h.of
theorem arR(h:ad [.r 202 [aO 1 A] [.agg (cl C a b E F G H)]]):
 aq 66 [aO 1 A] [.agg (cl C a b E F G H)]:=
 h.of
theorem arS(h:ad (Ig A a b e f H c d C E F G [.p (b2 prog 117 [aM.ro (aO 1 A)] (aY.iM [some 0,none,none] [D.J 1 A,I a,I b])),.p (b2 prog 185 [aM.cur [D.J 1 A,I a,I b] [D.J 1 A,I e,I f]] (aY.vals [.agg (cl H c d C E F G)]))])):
 aq 63 [aO 1 A] [.agg (cl H c d C E F G)]:=
 h.of
theorem arT(h:ad (Ig A b c d e H f g C E F G [.w A i j a,.p (b2 prog 117 [aM.ro (aO 1 A)] (aY.iM [some 0,none,none] [D.J 1 A,I b,I c])),.p (b2 prog 185 [aM.cur [D.J 1 A,I b,I c] [D.J 1 A,I d,I e]] (aY.vals [.agg (cl H f g C E F G)])),.p (b2 prog 140 [aM.cur [D.J 1 A,I d,I e] [D.J 1 A,I i,I j],aM.ro (.one (.J 1 [[I 300],[I 300],[I 20],[I 1],[I 0],[I (-1)]]))] (aY.vals [ae a]))])):
 aq 62 [aO 1 A] [.agg (cl H f g C E F G),ae a]:=
 h.of
def ZK(A:ag)(a b c d:Int)(C:ag)(e f:Int)(E F G H:ag)(g i:Int)(q:Bool)(l:List O):List O:=Ig A a b c d C e f E F G H (.y A g i q::.p (b2 prog 117 [aM.ro (aO 1 A)] (aY.iM [some 0,none,none] [D.J 1 A,I a,I b]))::.p (b2 prog 185 [aM.cur [D.J 1 A,I a,I b] [D.J 1 A,I c,I d]] (aY.vals [.agg (cl C e f E F G H)]))::.m A 136 c d g i 2 q::l)
theorem arU(h:ad (ZK A a b c d H e f C E F G g i q [.b q true,.r 16 [.agg (cl H e f C E F G),ae 300] [.agg (cl ah j k K L M N),ae l]])):
 aq 202 [aO 1 A] [.agg (cl ah j k K L M N)]:=
 h.of
theorem arV(h:ad (ZK A a b c d H e f C E F G g i q [.b q false])):
 aq 202 [aO 1 A] [.agg (cl H e f C E F G)]:=
 h.of
