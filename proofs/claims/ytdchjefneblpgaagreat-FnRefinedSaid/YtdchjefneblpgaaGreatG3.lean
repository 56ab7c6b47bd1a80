import Derived.Test.YtdchjefneblpgaaGreatGE
set_option linter.unusedVariables false
set_option linter.unusedSimpArgs false
namespace Go.Proofs.YtdchjefneblpgaaGreat
open Go.Sx Go.RowKit Go.Proofs.Tryz
variable {a b c d e f g i j k l m n o p a0 d' bX eC cO d0 bu f0 i0 j0 cX ea m0 kW nN h2 : Int} {A C E F G H af K L M N Q R S bb V X Y Z c7 : ae} {q r : Bool}
def vq(A:ae)(a c d e:Int)(C:ae)(f g i j b:Int):aJ:=bj 55 [(0,aR 1000000000),(2,aR 2),(3,aR 3),(4,a6 a)] [(3,[au c,au d,au e,aB 52 1 C]),(2,[au f,au g,au i,.v (aQ)]),(1000000000,[.dw 1000000100 1 A,au j,au b])]
def WQ(A:ae)(a d e f:Int)(C:ae)(g i j k c b:Int):aJ:=bj 55 [(0,aR 1000000000),(2,aR 2),(3,aR 3),(4,a6 a),(37,a6 a),(38,aR 1000000000),(39,a6 b),(40,.aI (.one (.bg (decide (a<b)))))] [(3,[au d,au e,au f,aB 52 1 C]),(2,[au g,au i,au j,.v (aQ)]),(1000000000,[.dw 1000000100 1 A,au k,au c])]
def NL(C:ae)(a f g i:Int)(A:ae)(j k l c d e b:Int):aJ:=bj 55 [(0,aR 1000000000),(2,aR 2),(3,aR 3),(4,a6 a),(37,a6 a),(38,aR 1000000000),(39,a6 c),(40,.aI (.one (.bg (decide (a<c))))),(43,.aI (.one (.ptr 3 3))),(44,.aI (.one (.J (Tag.ro 52) 1 A))),(45,a6 a),(46,a6 (a*2)),(47,a6 (1+a*2)),(48,aR 1000000000),(49,a6 b),(50,a6 (1+a*2+b)),(51,.aI (.one (.J (.own 51) 1 [[I (1+a*2+b)]]))),(52,aL.aI (bn.one (aB 52 1 (A++[[I (1+a*2+b)]])))),(53,.aI (.one (.ptr 3 3)))] [(3,[au f,au g,au i,aB 52 1 (A++[[I (1+a*2+b)]])]),(2,[au j,au k,au l,.v (aQ)]),(1000000000,[.dw 1000000100 1 C,au d,au e])]
theorem aqa{A:ae}{a g i j:Int}{C:ae}{k l m e f n c d b:Int}
  (h:cL [aD .i64 (a*2),aD .i64 (1+a*2),bW prog 138 [aN.cur [D.J 1 A,I e,I f] [D.J 1 A,I c,I d],aN.ro (ag 2)] (aU.vals [ag b]),aD .i64 (1+a*2+b),(C.length+[[I (1+a*2+b)]].length)*8<=140737488355328,C.length+[[I (1+a*2+b)]].length<=9223372036854775807,Flat [[I (1+a*2+b)]]]):
  et prog (cI f319 14) (WQ A a g i j C k l m e f n) (NL A a g i j C k l m n c d b):=
 .of [[],[],[],[],[],[],[.dp [some [D.J 1 A,I c,I d],none] (aU.vals [ag b])],[],[],[],[],[]] [[],[],[],[aD .i64 (a*2)],[aD .i64 (1+a*2)],[],[bW prog 138 [aN.cur [D.J 1 A,I e,I f] [D.J 1 A,I c,I d],aN.ro (ag 2)] (aU.vals [ag b])],[aD .i64 (1+a*2+b)],[],[(C.length+[[I (1+a*2+b)]].length)*8<=140737488355328,C.length+[[I (1+a*2+b)]].length<=9223372036854775807,Flat [[I (1+a*2+b)]]],[],[]] (by kernel_rfl) (by kernel_rfl) (by kernel_rfl) h
theorem aqb(h:ad [.w A j k b,.k A 138 o p j k 3 b,.b (decide (a<b)) true,.a (.iy (NL A a c d e C f g i b l m n)),.p (et prog (cI f319 14) (WQ A a c d e C f g i j k b) (NL A a c d e C f g i b l m n)),.u a]):
 a7 (ar f319 0) (vq A a c d e C f g i o p) .normal (vq A (a+1) c d e (C++[[I (1+a*2+n)]]) f g i l m):=
 h.aY [4,0,3,2] [3,2,1000000000]
def zV(A:ae)(a b c:Int)(C:ae)(d e f g i:Int):aJ:=bj 55 [(0,aR 1000000000),(2,aR 2),(3,aR 3)] [(3,[au a,au b,au c,aB 52 1 C]),(2,[au d,au e,au f,.v (aQ)]),(1000000000,[.dw 1000000100 1 A,au g,au i])]
theorem aqc(h:ad [.w A a b c,.k A 138 l m a b 3 c,.b (decide (d<c)) false]):
 a7 (ar f319 0) (vq A d e f g C i j k l m) (.exit 1) (zV A e f g C i j k a b):=
 h.aY [3,2,0] [3,2,1000000000]
def G7(A:ae)(a b c d e:Int)(l:List O):List O:=.w A a b c::.k A 138 d e a b 8 c::l
theorem aqd(h:ad (G7 A c d a g n [.v (1+a),.b (1+a==2) true,.w A e f b,.p (bW prog 140 [aN.cur [D.J 1 A,I c,I d] [D.J 1 A,I e,I f],aN.ro (.one (.J 1 [[I 0],[I 1],[I 3],[I 10],[I 999]]))] (aU.vals [ag b])),.b (1+a != 8) true,.l [(4000003,52,1)] [4,0,3,2] [3,2,1000000000] (ar f319 0) (vq A 0 (1+a) b 0 [] 0 0 0 e f) (.exit 1) (zV A i j k C o p a0 l m)])):
 b' 319 [aN.cur [D.J 1 A,I g,I n] [D.J 1 A,I l,I m]] (aU.vals [.agg (bt i j k C)]):=
 h.ca
def G8(A:ae)(a b c d e:Int)(l:List O):List O:=G7 A a b c d e (.v (1+c)::.b (1+c==2) false::l)
theorem arH(h:ad (G8 A f g a k o [.b (1+a==3) true,.w A i j b,.w A c d e,.k A 138 f g i j 4 b,.v (1+b),.k A 138 i j c d (1+b) e,.b (1+a != 8) true,.l [(4000003,52,1)] [4,0,3,2] [3,2,1000000000] (ar f319 0) (vq A 0 (1+a) (1+b) e [] 0 0 0 c d) (.exit 1) (zV A l m n C bX cO d0 p a0)])):
 b' 319 [aN.cur [D.J 1 A,I k,I o] [D.J 1 A,I p,I a0]] (aU.vals [.agg (bt l m n C)]):=
 h.ca
theorem arI(h:ad (G8 A c d a g n [.b (1+a==3) false,.b (1+a==4) true,.w A e f b,.p (bW prog 140 [aN.cur [D.J 1 A,I c,I d] [D.J 1 A,I e,I f],aN.ro (.one (.J 1 [[I 0],[I 1],[I 2],[I 3],[I 50],[I 99]]))] (aU.vals [ag b])),.b (1+a != 8) true,.l [(4000003,52,1)] [4,0,3,2] [3,2,1000000000] (ar f319 0) (vq A 0 (1+a) b 0 [] 0 0 0 e f) (.exit 1) (zV A i j k C o p a0 l m)])):
 b' 319 [aN.cur [D.J 1 A,I g,I n] [D.J 1 A,I l,I m]] (aU.vals [.agg (bt i j k C)]):=
 h.ca
theorem arJ(h:ad (G8 A b c a d g [.b (1+a==3) false,.b (1+a==4) false,.b (1+a != 8) true,.l [(4000003,52,1)] [4,0,3,2] [3,2,1000000000] (ar f319 0) (vq A 0 (1+a) 0 0 [] 0 0 0 b c) (.exit 1) (zV A i j k C l m n e f)])):
 b' 319 [aN.cur [D.J 1 A,I d,I g] [D.J 1 A,I e,I f]] (aU.vals [.agg (bt i j k C)]):=
 h.ca
theorem arK(h:ad (G8 A b c a d e [.b (1+a==3) false,.b (1+a==4) false,.b (1+a != 8) false])):
 b' 319 [aN.cur [D.J 1 A,I d,I e] [D.J 1 A,I b,I c]] (aU.vals [.agg (bt (1+a) 0 0 [])]):=
 h.ca
def C0(A:ae)(a b c d e:Int)(C:ae)(f g i j k:Int)(l:List O):List O:=.a (.dp [some [D.J 1 A,I a,I b]] (aU.vals [.agg (bt c d e C)]))::.w A f g i::.p (bW prog 319 [aN.cur [D.J 1 A,I j,I k] [D.J 1 A,I a,I b]] (aU.vals [.agg (bt c d e C)]))::.k A 138 a b f g 12 i::l
theorem arL(h:ad (C0 A g i n j k C b c d l m [.b (d==0) true,.w A e f a,.k A 138 b c e f 11 a,.v (a-1)])):
 b' 252 [aN.cur [D.J 1 A,I l,I m] [D.J 1 A,I e,I f]] (aU.vals [.agg (bt (a-1) j k C)]):=
 h.ca
theorem arM(h:ad (C0 A g i j n k C b c a l m [.b (a==0) false,.b (a==1) true,.w A d e f,.p (bW prog 140 [aN.cur [D.J 1 A,I b,I c] [D.J 1 A,I d,I e],aN.ro (.one (.J 1 [[I (-1)],[I 0],[I 1000],[I 100],[I 11]]))] (aU.vals [ag f]))])):
 b' 252 [aN.cur [D.J 1 A,I l,I m] [D.J 1 A,I d,I e]] (aU.vals [.agg (bt j f k C)]):=
 h.ca
theorem arN(h:ad (C0 A g i j k n C b c a l m [.b (a==0) false,.b (a==1) false,.b (a==2) true,.w A d e f,.p (bW prog 140 [aN.cur [D.J 1 A,I b,I c] [D.J 1 A,I d,I e],aN.ro (.one (.J 1 [[I (-1)],[I 1],[I 3]]))] (aU.vals [ag f]))])):
 b' 252 [aN.cur [D.J 1 A,I l,I m] [D.J 1 A,I d,I e]] (aU.vals [.agg (bt j k f C)]):=
 h.ca
def Na(C:ae)(b c d:Int)(A:ae)(e f a:Int):aJ:=bj 37 [(0,aR 1000000000),(2,aR 2),(3,aR 3),(4,aR 1000000000),(5,aL.aI (bn.agg [au b,au c,au d,aB 60003 1 A])),(6,aR 1000000000),(7,a6 a),(8,.aI (.one (.bg (a==0)))),(9,.aI (.one (.bg (a==0)))),(14,.aI (.one (.bg (a==1)))),(15,.aI (.one (.bg (a==1)))),(20,.aI (.one (.bg (a==2)))),(21,.aI (.one (.bg (a==2)))),(26,.aI (.one (.bg (a==3)))),(27,.aI (.one (.bg (a==3))))] [(3,[au b,au c,au d,aB 60003 1 A]),(2,[au 0,au 0,au 0,.v (aQ)]),(1000000000,[.dw 1000000100 1 C,au e,au f])]
def Nb(P:Program)(W:Array Oper)(A:ae)(g i j:Int)(C:ae)(a b c d e f:Int):aJ:=
 mx P W [[],[],[],[],[.dp [some [D.J 1 A,I d,I e],none] (aU.vals [ag f])],[],[],[],[]] (Na A g i j C a b c)
theorem arO{A:ae}{g i j:Int}{C:ae}{b c d e f a:Int}
  (h:cL [bW prog 140 [aN.cur [D.J 1 A,I b,I c] [D.J 1 A,I e,I f],aN.ro (.one (.J 1 [[I 1],[I 7],[I 8],[I (-1)]]))] (aU.vals [ag a]),(C.length+[[I a]].length)*8<=140737488355328,C.length+[[I a]].length<=9223372036854775807,Flat [[I a]]]):
  et prog (cI f252 10) (Na A g i j C b c d) (Nb prog (cI f252 10) A g i j C b c d e f a):=
 .mQ [0,0,0,0,1,0,3,0,0] h
theorem arP(h:ad (C0 A k l b c d C e f a m n [.b (a==0) false,.b (a==1) false,.b (a==2) false,.b (a==3) true,.a (.iy (Nb prog (cI f252 10) A b c d C e f a g i j)),.p (et prog (cI f252 10) (Na A b c d C e f a) (Nb prog (cI f252 10) A b c d C e f a g i j))])):
 b' 252 [aN.cur [D.J 1 A,I m,I n] [D.J 1 A,I g,I i]] (aU.vals [.agg (bt b c d (C++[[I j]]))]):=
 h.ca
theorem arQ(h:ad (C0 A d e f g i C b c a j k [.b (a==0) false,.b (a==1) false,.b (a==2) false,.b (a==3) false])):
 b' 252 [aN.cur [D.J 1 A,I j,I k] [D.J 1 A,I b,I c]] (aU.vals [.agg (bt f g i C)]):=
 h.ca
def ua(A:ae)(a g:Int)(C:ae)(i j k l m n b c d e f:Int):aJ:=bj 40 [(0,aR 1000000000),(2,aR 2),(3,aR 3),(4,a6 a)] [(3,[au g,aB 900004001 5 C,au i,au j,au k,au l]),(2,[au m,.v (aQ),au n,au b,au c,au d]),(1000000000,[.dw 1000000100 1 A,au e,au f])]
def O5(A:ae)(a b c d e f g i j:Int)(l:List O):List O:=.w A a b c::.k A 138 d e a b 9 c::.b (decide (f<c)) true::.w A g i j::.k A 138 a b g i 4 j::l
theorem arR(h:ad (O5 A b c d cO d0 a e f g [.b (g==0) true,.r 260 [.agg (bZ i C j k l m)] [.agg (bZ bu E f0 i0 j0 cX),.agg (aS ea m0 kW nN h2),ai q],.u a])):
 a7 (ar f327 0) (ua A a i C j k l m n o p a0 bX cO d0) .normal (ua A (a+1) bu E f0 i0 j0 cX n o p a0 bX e f):=
 h.q' [(4000001,900004001,5)] [4,0,3,2] [3,2,1000000000]
theorem arS(h:ad (O5 A c d e cO d0 a f g b [.b (b==0) false,.b (b==1) true,.r 261 [.agg (bZ i C j k l m)] [.agg (bZ bu E f0 i0 j0 cX),ai q],.u a])):
 a7 (ar f327 0) (ua A a i C j k l m n o p a0 bX cO d0) .normal (ua A (a+1) bu E f0 i0 j0 cX n o p a0 bX f g):=
 h.q' [(4000001,900004001,5)] [4,0,3,2] [3,2,1000000000]
def Nc(A:ae)(b j:Int)(C:ae)(k l m n o p d e f c g i a:Int):aJ:=bj 40 [(0,aR 1000000000),(2,aR 2),(3,aR 3),(4,a6 b),(9,a6 b),(10,aR 1000000000),(11,a6 c),(12,.aI (.one (.bg (decide (b<c))))),(15,aR 1000000000),(16,a6 a),(24,.aI (.one (.bg (a==0)))),(25,.aI (.one (.bg (a==0)))),(32,.aI (.one (.bg (a==1)))),(33,.aI (.one (.bg (a==1))))] [(3,[au j,aB 900004001 5 C,au k,au l,au m,au n]),(2,[au o,.v (aQ),au p,au d,au e,au f]),(1000000000,[.dw 1000000100 1 A,au g,au i])]
def Nd(P:Program)(W:Array Oper)(A:ae)(a b:Int)(C:ae)(c d e f g i j k l m n o p a0 bX cO d0 bu f0 i0 j0:Int)(E:ae)(cX ea m0 kW:Int)(q:Bool):aJ:=
 mx P W [[],[],[.dp [some [D.J 1 A,I a0,I bX]] (aU.vals [.agg (aS cO d0 bu f0 i0)])],[.res [.agg (bZ j0 E cX ea m0 kW),ai q]],[],[],[],[]] (Nc A a b C c d e f g i j k l m n o p)
theorem arT{A:ae}{n a:Int}{C:ae}{b c d e o p a0 bX cO d0 f g bu f0 i0 i j k l m j0:Int}{E:ae}{cX ea m0 kW:Int}{q:Bool}
  (h:cL [bW prog 271 [aN.cur [D.J 1 A,I f,I g] [D.J 1 A,I f0,I i0]] (aU.vals [.agg (aS i j k l m)]),al 258 [.agg (bZ a C b c d e),.agg (aS i j k l m)] [.agg (bZ j0 E cX ea m0 kW),ai q]]):
  et prog (cI f327 6) (Nc A n a C b c d e o p a0 bX cO d0 f g bu) (Nd prog (cI f327 6) A n a C b c d e o p a0 bX cO d0 f g bu f0 i0 i j k l m j0 E cX ea m0 kW q):=
 .mQ [0,0,1,1,0,0,0,0] h
theorem arU(h:ad (O5 A a0 bX c ea m0 a j k b [.b (b==0) false,.b (b==1) false,.a (.iy (Nd prog (cI f327 6) A a l C m n o p d e f g i c j k b cO d0 kW nN h2 d' eC bu E f0 i0 j0 cX q)),.p (et prog (cI f327 6) (Nc A a l C m n o p d e f g i c j k b) (Nd prog (cI f327 6) A a l C m n o p d e f g i c j k b cO d0 kW nN h2 d' eC bu E f0 i0 j0 cX q)),.u a])):
 a7 (ar f327 0) (ua A a l C m n o p d e f g i ea m0) .normal (ua A (a+1) bu E f0 i0 j0 cX d e f g i cO d0):=
 h.q' [(4000001,900004001,5)] [4,0,3,2] [3,2,1000000000]
def Nf(A:ae)(a:Int)(C:ae)(f g i j k l m b c d e:Int):aJ:=bj 40 [(0,aR 1000000000),(2,aR 2),(3,aR 3)] [(3,[au a,aB 900004001 5 C,au f,au g,au i,au j]),(2,[au k,.v (aQ),au l,au m,au b,au c]),(1000000000,[.dw 1000000100 1 A,au d,au e])]
theorem arV(h:ad [.w A a b c,.k A 138 p a0 a b 9 c,.b (decide (d<c)) false]):
 a7 (ar f327 0) (ua A d e C f g i j k l m n o p a0) (.exit 0) (Nf A e C f g i j k l m n o a b):=
 h.aY [3,2,0] [3,2,1000000000]
theorem arW(h:ad [.w A b c a,.k A 138 d n b c 4 a,.v (1+a),.r 126 [ag (1+a)] [.agg (bZ a0 E bX e f g)],.l [(4000001,900004001,5)] [4,0,3,2] [3,2,1000000000] (ar f327 0) (ua A 0 a0 E bX e f g 0 0 0 0 0 b c) (.exit 0) (Nf A i C j k l m cO d0 bu f0 i0 o p)]):
 b' 327 [aN.cur [D.J 1 A,I d,I n] [D.J 1 A,I o,I p]] (aU.vals [.agg (bZ i C j k l m)]):=
 h.ca
def Ac(A:ae)(a b c:Int)(C:ae)(d e f g i j k m n:Int)(l:List O):List O:=.a (.dp [some [D.J 1 A,I a,I b]] (aU.vals [.agg (bZ c C d e f g)]))::.w A i j k::.p (bW prog 327 [aN.cur [D.J 1 A,I m,I n] [D.J 1 A,I a,I b]] (aU.vals [.agg (bZ c C d e f g)]))::.k A 138 a b i j 14 k::l
theorem arX(h:ad (Ac A j k l C p m b c d e f n o [.b (f==0) true,.w A g i a,.k A 138 d e g i 6 a,.v (a-1)])):
 b' 278 [aN.cur [D.J 1 A,I n,I o] [D.J 1 A,I g,I i]] (aU.vals [.agg (bZ l C (a-1) m b c)]):=
 h.ca
theorem arY(h:ad (Ac A j k l C m p c d e f a n o [.b (a==0) false,.b (a==1) true,.w A g i b,.k A 138 e f g i 6 b,.v (b-1)])):
 b' 278 [aN.cur [D.J 1 A,I n,I o] [D.J 1 A,I g,I i]] (aU.vals [.agg (bZ l C m (b-1) c d)]):=
 h.ca
theorem arZ(h:ad (Ac A i j k C l m o b c d a n p [.b (a==0) false,.b (a==1) false,.b (a==2) true,.w A e f g,.p (bW prog 140 [aN.cur [D.J 1 A,I c,I d] [D.J 1 A,I e,I f],aN.ro (.one (.J 1 [[I (-1)],[I 0],[I 1000000000],[I 1000000001]]))] (aU.vals [ag g]))])):
 b' 278 [aN.cur [D.J 1 A,I n,I p] [D.J 1 A,I e,I f]] (aU.vals [.agg (bZ k C l m g b)]):=
 h.ca
def Ng(C:ae)(b:Int)(A:ae)(c d e f g i a:Int):aJ:=bj 44 [(0,aR 1000000000),(2,aR 2),(3,aR 3),(4,aR 1000000000),(5,aL.aI (bn.agg [au b,aB 60001 5 A,au c,au d,au e,au f])),(6,aR 1000000000),(7,a6 a),(8,.aI (.one (.bg (a==0)))),(9,.aI (.one (.bg (a==0)))),(14,.aI (.one (.bg (a==1)))),(15,.aI (.one (.bg (a==1)))),(20,.aI (.one (.bg (a==2)))),(21,.aI (.one (.bg (a==2)))),(26,.aI (.one (.bg (a==3)))),(27,.aI (.one (.bg (a==3))))] [(3,[au b,aB 60001 5 A,au c,au d,au e,au f]),(2,[au 0,.v (aQ),au 0,au 0,au 0,au 0]),(1000000000,[.dw 1000000100 1 C,au g,au i])]
def Nh(P:Program)(W:Array Oper)(A:ae)(n:Int)(C:ae)(o p a b c d e f g i j k l m:Int):aJ:=
 mx P W [[],[],[],[.dp [some [D.J 1 A,I f,I g]] (aU.vals [.agg (aS i j k l m)])],[],[],[],[]] (Ng A n C o p a b c d e)
theorem ar0{A:ae}{n:Int}{C:ae}{o p i j f g k l m a b c d e:Int}
  (h:cL [bW prog 178 [aN.cur [D.J 1 A,I f,I g] [D.J 1 A,I l,I m]] (aU.vals [.agg (aS a b c d e)]),(C.length+[(aS a b c d e)].length)*40<=140737488355328,C.length+[(aS a b c d e)].length<=9223372036854775807,Flat [(aS a b c d e)]]):
  et prog (cI f278 10) (Ng A n C o p i j f g k) (Nh prog (cI f278 10) A n C o p i j f g k l m a b c d e):=
 .mQ [0,0,0,1,0,3,0,0] h
theorem ar1(h:ad (Ac A a0 bX d C e f b c g i a cO d0 [.b (a==0) false,.b (a==1) false,.b (a==2) false,.b (a==3) true,.a (.iy (Nh prog (cI f278 10) A d C e f b c g i a j k l m n o p)),.p (et prog (cI f278 10) (Ng A d C e f b c g i a) (Nh prog (cI f278 10) A d C e f b c g i a j k l m n o p))])):
 b' 278 [aN.cur [D.J 1 A,I cO,I d0] [D.J 1 A,I j,I k]] (aU.vals [.agg (bZ d (C++[(aS l m n o p)]) e f b c)]):=
 h.ca
theorem ar2(h:ad (Ac A d e f C g i k l b c a j m [.b (a==0) false,.b (a==1) false,.b (a==2) false,.b (a==3) false,.b (a==4) true,.v (1000000000-(C.length:Int))])):
 b' 278 [aN.cur [D.J 1 A,I j,I m] [D.J 1 A,I b,I c]] (aU.vals [.agg (bZ f C g i 1000000000 (1000000000-(C.length:Int)))]):=
 h.ca
theorem ar3(h:ad (Ac A f g i C j k b c d e a l m [.b (a==0) false,.b (a==1) false,.b (a==2) false,.b (a==3) false,.b (a==4) false])):
 b' 278 [aN.cur [D.J 1 A,I l,I m] [D.J 1 A,I d,I e]] (aU.vals [.agg (bZ i C j k b c)]):=
 h.ca
def G'(A:ae)(a b c d e f g i j:Int)(l:List O):List O:=.a (.dp [some [D.J 1 A,I a,I b]] (aU.vals [.agg (aS c d e f g)]))::.p (bW prog 271 [aN.cur [D.J 1 A,I i,I j] [D.J 1 A,I a,I b]] (aU.vals [.agg (aS c d e f g)]))::l
theorem ar4(h:ad (G' A m n bX b p c d o a0 [.b (decide ((C.length:Int)>0)) true,.w A e f g,.y A i j q,.k A 138 m n e f (C.length:Int) g,.m A 136 e f i j 4 q,.b q true,.w A k l a,.k A 138 i j k l 2 a,.v (5+a)])):
 b' 350 [aN.cur [D.J 1 A,I o,I a0] [D.J 1 A,I k,I l],aN.ro (.agg (bA C cO d0))] (aU.vals [.agg (aS g b (5+a) c d)]):=
 h.ca
theorem ar5(h:ad (G' A k l o a b c d m n [.b (decide ((C.length:Int)>0)) true,.w A e f g,.y A i j q,.k A 138 k l e f (C.length:Int) g,.m A 136 e f i j 4 q,.b q false])):
 b' 350 [aN.cur [D.J 1 A,I m,I n] [D.J 1 A,I i,I j],aN.ro (.agg (bA C p a0))] (aU.vals [.agg (aS g a b c d)]):=
 h.ca
theorem ar6(h:ad (G' A j k l b n c d m o [.b (decide ((C.length:Int)>0)) false,.y A e f q,.m A 136 j k e f 4 q,.b q true,.w A g i a,.k A 138 e f g i 2 a,.v (5+a)])):
 b' 350 [aN.cur [D.J 1 A,I m,I o] [D.J 1 A,I g,I i],aN.ro (.agg (bA C p a0))] (aU.vals [.agg (aS l b (5+a) c d)]):=
 h.ca
theorem arf(h:ad (G' A g i j a b c d k l [.b (decide ((C.length:Int)>0)) false,.y A e f q,.m A 136 g i e f 4 q,.b q false])):
 b' 350 [aN.cur [D.J 1 A,I k,I l] [D.J 1 A,I e,I f],aN.ro (.agg (bA C m n))] (aU.vals [.agg (aS j a b c d)]):=
 h.ca
def rE(A:ae)(a:Int)(E F G H af K L M C:ae)(b c d e:Int):aJ:=bj 48 [(0,aR 1000000000),(3,aR 3),(4,aR 4),(5,aR 5),(6,a6 a)] [(5,[aB 900006000 5 E,aB 900006001 5 F,aB 900006002 5 G,aB 900006003 4 H,aB 900006004 1 af,aB 900006005 1 K,aB 900006006 1 L,aB 900006007 2 M]),(4,[.v (aQ),.v (aQ),.v (aQ),.v (aQ),.v (aQ),.v (aQ),.v (aQ),.v (aQ)]),(3,[.J .free 4 C,au b,au c]),(1000000000,[.dw 1000000100 1 A,au d,au e])]
def G9(A:ae)(a b c d e f g i j:Int)(l:List O):List O:=G7 A a b c d e (.b (decide (f<c)) true::.w A g i j::.k A 138 a b g i 5 j::l)
theorem arh(h:ad (G9 A d e f k l a g i j [.b (j==0) true,.r 348 [.agg (bA C b c),.agg (aW E F G H af K L M)] [.agg (aW N Q R S bb V X Y),ai q],.u a])):
 a7 (ar f326 0) (rE A a E F G H af K L M C b c k l) .normal (rE A (a+1) N Q R S bb V X Y C b c g i):=
 h.q' [(6000000,900006000,5),(6000001,900006001,5),(6000002,900006002,5),(6000003,900006003,4),(6000004,900006004,1),(6000005,900006005,1),(6000006,900006006,1),(6000007,900006007,2)] [6,0,3,5,4] [5,4,3,1000000000]
def Ni(A:ae)(b:Int)(E F G H af K L M C:ae)(d e c f g a:Int):aJ:=bj 48 [(0,aR 1000000000),(3,aR 3),(4,aR 4),(5,aR 5),(6,a6 b),(10,a6 b),(11,aR 1000000000),(12,a6 c),(13,.aI (.one (.bg (decide (b<c))))),(16,aR 1000000000),(17,a6 a),(24,.aI (.one (.bg (a==0)))),(25,.aI (.one (.bg (a==0)))),(32,.aI (.one (.bg (a==1)))),(33,.aI (.one (.bg (a==1))))] [(5,[aB 900006000 5 E,aB 900006001 5 F,aB 900006002 5 G,aB 900006003 4 H,aB 900006004 1 af,aB 900006005 1 K,aB 900006006 1 L,aB 900006007 2 M]),(4,[.v (aQ),.v (aQ),.v (aQ),.v (aQ),.v (aQ),.v (aQ),.v (aQ),.v (aQ)]),(3,[.J .free 4 C,au d,au e]),(1000000000,[.dw 1000000100 1 A,au f,au g])]
def Nj(P:Program)(W:Array Oper)(A:ae)(a:Int)(C E F G H af K L M:ae)(b c d e f g i j k l m n o:Int)(N Q R S bb V X Y:ae):aJ:=
 mx P W [[],[],[],[.dp [some [D.J 1 A,I i,I j],none] (aU.vals [.agg (aS k l m n o)])],[.res [.agg (aW N Q R S bb V X Y)]],[]] (Ni A a C E F G H af K L M b c d e f g)
theorem ari{A:ae}{k:Int}{C E F G H af K L M:ae}{a b l c d m n o e f g i j:Int}{N Q R S bb V X Y:ae}
  (h:cL [bW prog 350 [aN.cur [D.J 1 A,I c,I d] [D.J 1 A,I n,I o],aN.ro (.agg (bA M a b))] (aU.vals [.agg (aS e f g i j)]),al 349 [.agg (aW C E F G H af K L),.agg (aS e f g i j)] [.agg (aW N Q R S bb V X Y)]]):
  et prog (cI f326 10) (Ni A k C E F G H af K L M a b l c d m) (Nj prog (cI f326 10) A k C E F G H af K L M a b l c d m n o e f g i j N Q R S bb V X Y):=
 .mQ [0,0,0,1,1,0] h
theorem arj(h:ad (G9 A i j c m n a f g b [.b (b==0) false,.b (b==1) true,.a (.iy (Nj prog (cI f326 10) A a E F G H af K L M C d e c f g b k l o p a0 bX cO N Q R S bb V X Y)),.p (et prog (cI f326 10) (Ni A a E F G H af K L M C d e c f g b) (Nj prog (cI f326 10) A a E F G H af K L M C d e c f g b k l o p a0 bX cO N Q R S bb V X Y)),.u a])):
 a7 (ar f326 0) (rE A a E F G H af K L M C d e m n) .normal (rE A (a+1) N Q R S bb V X Y C d e k l):=
 h.q' [(6000000,900006000,5),(6000001,900006001,5),(6000002,900006002,5),(6000003,900006003,4),(6000004,900006004,1),(6000005,900006005,1),(6000006,900006006,1),(6000007,900006007,2)] [6,0,3,5,4] [5,4,3,1000000000]
theorem WR(h:ad (G9 A c d e k l b f g a [.b (a==0) false,.b (a==1) false,.b (a==2) true,.r 351 [.agg (aW C E F G H af K L)] [.agg (aW N Q R S bb V X Y),.agg (aS m n o p a0),ai q],.u b])):
 a7 (ar f326 0) (rE A b C E F G H af K L M i j k l) .normal (rE A (b+1) N Q R S bb V X Y M i j f g):=
 h.q' [(6000000,900006000,5),(6000001,900006001,5),(6000002,900006002,5),(6000003,900006003,4),(6000004,900006004,1),(6000005,900006005,1),(6000006,900006006,1),(6000007,900006007,2)] [6,0,3,5,4] [5,4,3,1000000000]
theorem ark(h:ad (G9 A e f g k l b i j a [.b (a==0) false,.b (a==1) false,.b (a==2) false,.r 48 [.agg (bA C c d),.agg (aW E F G H af K L M)] [.agg (aW N Q R S bb V X Y),ai q],.u b])):
 a7 (ar f326 0) (rE A b E F G H af K L M C c d k l) .normal (rE A (b+1) N Q R S bb V X Y C c d i j):=
 h.q' [(6000000,900006000,5),(6000001,900006001,5),(6000002,900006002,5),(6000003,900006003,4),(6000004,900006004,1),(6000005,900006005,1),(6000006,900006006,1),(6000007,900006007,2)] [6,0,3,5,4] [5,4,3,1000000000]
def Nk(A C E F G H af K L:ae)(b a:Int):aJ:=bj 48 [(0,aR 1000000000),(4,aR 4),(5,aR 5)] [(5,[aB 900006000 5 C,aB 900006001 5 E,aB 900006002 5 F,aB 900006003 4 G,aB 900006004 1 H,aB 900006005 1 af,aB 900006006 1 K,aB 900006007 2 L]),(4,[.v (aQ),.v (aQ),.v (aQ),.v (aQ),.v (aQ),.v (aQ),.v (aQ),.v (aQ)]),(1000000000,[.dw 1000000100 1 A,au b,au a])]
theorem arl(h:ad (G7 A a b c e f [.b (decide (d<c)) false])):
 a7 (ar f326 0) (rE A d C E F G H af K L M g i e f) (.exit 0) (Nk A C E F G H af K L a b):=
 h.aY [5,4,0] [5,4,1000000000]
theorem arm(h:ad [.a (.dp [some [D.J 1 A,I a,I b]] (aU.vals [aC 5 C])),.p (bW prog 119 [aN.cur [D.J 1 A,I c,I d] [D.J 1 A,I a,I b]] (aU.vals [aC 5 C])),.r 124 [aC 5 C] [.agg (aW E F G H af K L M)],.l [(6000000,900006000,5),(6000001,900006001,5),(6000002,900006002,5),(6000003,900006003,4),(6000004,900006004,1),(6000005,900006005,1),(6000006,900006006,1),(6000007,900006007,2)] [6,0,3,5,4] [5,4,3,1000000000] (ar f326 0) (rE A 0 E F G H af K L M Z g i a b) (.exit 0) (Nk A N Q R S bb V X Y e f)]):
 b' 326 [aN.cur [D.J 1 A,I c,I d] [D.J 1 A,I e,I f],aN.ro (.agg (bA Z g i))] (aU.vals [.agg (aW N Q R S bb V X Y)]):=
 h.ca
def Ou(M A:ae)(b c:Int)(F G H af K L C E:ae)(d e a:Int):aJ:=bj 80 [(0,aR 1000000000),(1,aL.aI (bn.agg [.J .free 4 A,au b,au c])),(3,aR 3),(4,aR 4),(5,aR 5),(6,aR 1000000000),(7,aL.aI (bn.agg [.J .free 4 A,au b,au c])),(8,aL.aI (bn.agg [aB 90000 5 F,aB 90001 5 G,aB 90002 5 H,aB 90003 4 af,aB 90004 1 K,aB 90005 1 L,aB 90006 1 C,aB 90007 2 E])),(9,aR 1000000000),(10,a6 a),(11,.aI (.one (.bg (a==0)))),(12,.aI (.one (.bg (a==0))))] [(5,[aB 90000 5 F,aB 90001 5 G,aB 90002 5 H,aB 90003 4 af,aB 90004 1 K,aB 90005 1 L,aB 90006 1 C,aB 90007 2 E]),(4,[.v (aQ),.v (aQ),.v (aQ),.v (aQ),.v (aQ),.v (aQ),.v (aQ),.v (aQ)]),(3,[.J .free 4 A,au b,au c]),(1000000000,[.dw 1000000100 1 M,au d,au e])]
def Ov(P:Program)(W:Array Oper)(A L:ae)(l m:Int)(M C E F G H af K:ae)(a b c d e f g i j k:Int):aJ:=
 mx P W [[],[],[],[.dp [some [D.J 1 A,I d,I e]] (aU.vals [.agg (aS f g i j k)])],[],[],[],[]] (Ou A L l m M C E F G H af K a b c)
theorem arn{A M:ae}{l m:Int}{C E F G H af K L:ae}{f g i j k a b c d e:Int}
  (h:cL [bW prog 178 [aN.cur [D.J 1 A,I f,I g] [D.J 1 A,I j,I k]] (aU.vals [.agg (aS a b c d e)]),(C.length+[(aS a b c d e)].length)*40<=140737488355328,C.length+[(aS a b c d e)].length<=9223372036854775807,Flat [(aS a b c d e)]]):
  et prog (cI f277 4) (Ou A M l m C E F G H af K L f g i) (Ov prog (cI f277 4) A M l m C E F G H af K L f g i j k a b c d e):=
 .mQ [0,0,0,1,0,3,0,0] h
def O6(A:ae)(a b:Int)(C E F G H af K L:ae)(c d e f g:Int)(M:ae)(i j:Int)(l:List O):List O:=.a (.dp [some [D.J 1 A,I a,I b],none] (aU.vals [.agg (aW C E F G H af K L)]))::.w A c d e::.p (bW prog 326 [aN.cur [D.J 1 A,I f,I g] [D.J 1 A,I a,I b],aN.ro (.agg (bA M i j))] (aU.vals [.agg (aW C E F G H af K L)]))::.k A 138 a b c d 16 e::l
theorem aro(h:ad (O6 A n o L C E F G H af K b c a p a0 M d e [.b (a==0) true,.a (.iy (Ov prog (cI f277 4) A M d e L C E F G H af K b c a f g i j k l m)),.p (et prog (cI f277 4) (Ou A M d e L C E F G H af K b c a) (Ov prog (cI f277 4) A M d e L C E F G H af K b c a f g i j k l m))])):
 b' 277 [aN.cur [D.J 1 A,I p,I a0] [D.J 1 A,I f,I g],aN.ro (.agg (bA M d e))] (aU.vals [.agg (aW (L++[(aS i j k l m)]) C E F G H af K)]):=
 h.ca
def Ow(M A:ae)(b c:Int)(F G H af K L C E:ae)(d e a:Int):aJ:=bj 80 [(0,aR 1000000000),(1,aL.aI (bn.agg [.J .free 4 A,au b,au c])),(3,aR 3),(4,aR 4),(5,aR 5),(6,aR 1000000000),(7,aL.aI (bn.agg [.J .free 4 A,au b,au c])),(8,aL.aI (bn.agg [aB 90000 5 F,aB 90001 5 G,aB 90002 5 H,aB 90003 4 af,aB 90004 1 K,aB 90005 1 L,aB 90006 1 C,aB 90007 2 E])),(9,aR 1000000000),(10,a6 a),(11,.aI (.one (.bg (a==0)))),(12,.aI (.one (.bg (a==0)))),(20,.aI (.one (.bg (a==1)))),(21,.aI (.one (.bg (a==1))))] [(5,[aB 90000 5 F,aB 90001 5 G,aB 90002 5 H,aB 90003 4 af,aB 90004 1 K,aB 90005 1 L,aB 90006 1 C,aB 90007 2 E]),(4,[.v (aQ),.v (aQ),.v (aQ),.v (aQ),.v (aQ),.v (aQ),.v (aQ),.v (aQ)]),(3,[.J .free 4 A,au b,au c]),(1000000000,[.dw 1000000100 1 M,au d,au e])]
def Ox(P:Program)(W:Array Oper)(A L:ae)(l m:Int)(M C E F G H af K:ae)(a b c d e f g i j k:Int):aJ:=
 mx P W [[],[],[],[.dp [some [D.J 1 A,I d,I e]] (aU.vals [.agg (aS f g i j k)])],[],[],[],[]] (Ow A L l m M C E F G H af K a b c)
theorem arp{A L:ae}{l m:Int}{M E C F G H af K:ae}{f g i j k a b c d e:Int}
  (h:cL [bW prog 271 [aN.cur [D.J 1 A,I f,I g] [D.J 1 A,I j,I k]] (aU.vals [.agg (aS a b c d e)]),(C.length+[(aS a b c d e)].length)*40<=140737488355328,C.length+[(aS a b c d e)].length<=9223372036854775807,Flat [(aS a b c d e)]]):
  et prog (cI f277 6) (Ow A L l m M E C F G H af K f g i) (Ox prog (cI f277 6) A L l m M E C F G H af K f g i j k a b c d e):=
 .mQ [0,0,0,1,0,3,0,0] h
theorem arq(h:ad (O6 A n o L C E F G H af K b c a p a0 M d e [.b (a==0) false,.b (a==1) true,.a (.iy (Ox prog (cI f277 6) A M d e L C E F G H af K b c a f g i j k l m)),.p (et prog (cI f277 6) (Ow A M d e L C E F G H af K b c a) (Ox prog (cI f277 6) A M d e L C E F G H af K b c a f g i j k l m))])):
 b' 277 [aN.cur [D.J 1 A,I p,I a0] [D.J 1 A,I f,I g],aN.ro (.agg (bA M d e))] (aU.vals [.agg (aW L C (E++[(aS i j k l m)]) F G H af K)]):=
 h.ca
def Oy(M A:ae)(b c:Int)(F G H af K L C E:ae)(d e a:Int):aJ:=bj 80 [(0,aR 1000000000),(1,aL.aI (bn.agg [.J .free 4 A,au b,au c])),(3,aR 3),(4,aR 4),(5,aR 5),(6,aR 1000000000),(7,aL.aI (bn.agg [.J .free 4 A,au b,au c])),(8,aL.aI (bn.agg [aB 90000 5 F,aB 90001 5 G,aB 90002 5 H,aB 90003 4 af,aB 90004 1 K,aB 90005 1 L,aB 90006 1 C,aB 90007 2 E])),(9,aR 1000000000),(10,a6 a),(11,.aI (.one (.bg (a==0)))),(12,.aI (.one (.bg (a==0)))),(20,.aI (.one (.bg (a==1)))),(21,.aI (.one (.bg (a==1)))),(29,.aI (.one (.bg (a==2)))),(30,.aI (.one (.bg (a==2))))] [(5,[aB 90000 5 F,aB 90001 5 G,aB 90002 5 H,aB 90003 4 af,aB 90004 1 K,aB 90005 1 L,aB 90006 1 C,aB 90007 2 E]),(4,[.v (aQ),.v (aQ),.v (aQ),.v (aQ),.v (aQ),.v (aQ),.v (aQ),.v (aQ)]),(3,[.J .free 4 A,au b,au c]),(1000000000,[.dw 1000000100 1 M,au d,au e])]
def Oz(P:Program)(W:Array Oper)(A L:ae)(g i:Int)(M C E F G H af K:ae)(a b c d e f:Int):aJ:=
 mx P W [[],[],[],[.dp [some [D.J 1 A,I d,I e],none] (aU.vals [ag f])],[.own],[],[]] (Oy A L g i M C E F G H af K a b c)
theorem ars{C L:ae}{g i:Int}{M E F G A H af K:ae}{b c d e f a:Int}
  (h:cL [bW prog 138 [aN.cur [D.J 1 C,I b,I c] [D.J 1 C,I e,I f],aN.ro (ag 4)] (aU.vals [ag a]),(0:Int)<=none.getD 0,none.getD 0<=(some a).getD (A.length:Int),(some a).getD (A.length:Int)<=(A.length:Int)]):
  et prog (cI f277 8) (Oy C L g i M E F G A H af K b c d) (Oz prog (cI f277 8) C L g i M E F G A H af K b c d e f a):=
 .mQ [0,0,0,1,3,0,0] h
def Ha(A:ae)(a b:Int)(C E F G H af K L:ae)(c d e f g:Int)(M:ae)(i j:Int)(l:List O):List O:=O6 A a b C E F G H af K L c d e f g M i j (.b (e==0) false::.b (e==1) false::l)
theorem art(h:ad (Ha A j k L E F G C H af K b c a l m M d e [.b (a==2) true,.a (.iy (Oz prog (cI f277 8) A M d e L E F G C H af K b c a f g i)),.p (et prog (cI f277 8) (Oy A M d e L E F G C H af K b c a) (Oz prog (cI f277 8) A M d e L E F G C H af K b c a f g i))])):
 b' 277 [aN.cur [D.J 1 A,I l,I m] [D.J 1 A,I f,I g],aN.ro (.agg (bA M d e))] (aU.vals [.agg [D.J 5 L,D.J 5 E,D.J 5 F,D.J 4 G,D.J 1 (List.take (((some i).getD (C.length:Int)).toNat-0) (List.drop 0 C)),D.J 1 H,D.J 1 af,D.J 2 K]]):=
 h.ca
def WS(M A:ae)(b c:Int)(F G H af K L C E:ae)(d e a:Int):aJ:=bj 80 [(0,aR 1000000000),(1,aL.aI (bn.agg [.J .free 4 A,au b,au c])),(3,aR 3),(4,aR 4),(5,aR 5),(6,aR 1000000000),(7,aL.aI (bn.agg [.J .free 4 A,au b,au c])),(8,aL.aI (bn.agg [aB 90000 5 F,aB 90001 5 G,aB 90002 5 H,aB 90003 4 af,aB 90004 1 K,aB 90005 1 L,aB 90006 1 C,aB 90007 2 E])),(9,aR 1000000000),(10,a6 a),(11,.aI (.one (.bg (a==0)))),(12,.aI (.one (.bg (a==0)))),(20,.aI (.one (.bg (a==1)))),(21,.aI (.one (.bg (a==1)))),(29,.aI (.one (.bg (a==2)))),(30,.aI (.one (.bg (a==2)))),(37,.aI (.one (.bg (a==3)))),(38,.aI (.one (.bg (a==3))))] [(5,[aB 90000 5 F,aB 90001 5 G,aB 90002 5 H,aB 90003 4 af,aB 90004 1 K,aB 90005 1 L,aB 90006 1 C,aB 90007 2 E]),(4,[.v (aQ),.v (aQ),.v (aQ),.v (aQ),.v (aQ),.v (aQ),.v (aQ),.v (aQ)]),(3,[.J .free 4 A,au b,au c]),(1000000000,[.dw 1000000100 1 M,au d,au e])]
def OA(M C:ae)(c d:Int)(G H af K A L E F:ae)(a e f b:Int):aJ:=bj 80 [(0,aR 1000000000),(1,aL.aI (bn.agg [.J .free 4 C,au c,au d])),(3,aR 3),(4,aR 4),(5,aR 5),(6,aR 1000000000),(7,aL.aI (bn.agg [.J .free 4 C,au c,au d])),(8,aL.aI (bn.agg [aB 90000 5 G,aB 90001 5 H,aB 90002 5 af,aB 90003 4 K,aB 90004 1 (A.set 0 [I b]),aB 90005 1 L,aB 90006 1 E,aB 90007 2 F])),(9,aR 1000000000),(10,a6 a),(11,.aI (.one (.bg (a==0)))),(12,.aI (.one (.bg (a==0)))),(20,.aI (.one (.bg (a==1)))),(21,.aI (.one (.bg (a==1)))),(29,.aI (.one (.bg (a==2)))),(30,.aI (.one (.bg (a==2)))),(37,.aI (.one (.bg (a==3)))),(38,.aI (.one (.bg (a==3)))),(39,.aI (.one (.ptr 5 4))),(40,aL.aI (bn.one (aB 90004 1 (A.set 0 [I b])))),(41,aR 1000000000),(42,.aI (.one (.J (.own 42) 1 [[I 1000000],[I 1000001],[I (-1000001)]]))),(43,a6 b),(44,.aI (.one (.cP (Tag.own 90004) 1 (A.set 0 [I b]) 0 0)))] [(5,[aB 90000 5 G,aB 90001 5 H,aB 90002 5 af,aB 90003 4 K,aB 90004 1 (A.set 0 [I b]),aB 90005 1 L,aB 90006 1 E,aB 90007 2 F]),(4,[.v (aQ),.v (aQ),.v (aQ),.v (aQ),.v (aQ),.v (aQ),.v (aQ),.v (aQ)]),(3,[.J .free 4 C,au c,au d]),(1000000000,[.dw 1000000100 1 M,au e,au f])]
theorem aru{A L:ae}{g i:Int}{M E F G C H af K:ae}{d e f a b c:Int}{d25:D}
  (h:cL [bW prog 140 [aN.cur [D.J 1 A,I d,I e] [D.J 1 A,I a,I b],aN.ro (.one (.J 1 [[I 1000000],[I 1000001],[I (-1000001)]]))] (aU.vals [ag c]),(0:Int)<=0,0<(C.length:Int),C[0]?=some [d25]]):
  et prog (cI f277 10) (WS A L g i M E F G C H af K d e f) (OA A L g i M E F G C H af K f a b c):=
 .of [[],[],[],[],[.dp [some [D.J 1 A,I a,I b],none] (aU.vals [ag c])],[],[.el [d25]]] [[],[],[],[],[bW prog 140 [aN.cur [D.J 1 A,I d,I e] [D.J 1 A,I a,I b],aN.ro (.one (.J 1 [[I 1000000],[I 1000001],[I (-1000001)]]))] (aU.vals [ag c])],[(0:Int)<=0,0<(C.length:Int)],[C[0]?=some [d25]]] (by kernel_rfl) (by kernel_rfl) (by kernel_rfl) h
theorem arv(h:ad (Ha A j k L C E F G H af K d e a l m M b c [.b (a==2) false,.b (a==3) true,.a (.iy (OA A M b c L C E F G H af K a f g i)),.p (et prog (cI f277 10) (WS A M b c L C E F G H af K d e a) (OA A M b c L C E F G H af K a f g i))])):
 b' 277 [aN.cur [D.J 1 A,I l,I m] [D.J 1 A,I f,I g],aN.ro (.agg (bA M b c))] (aU.vals [.agg (aW L C E F (G.set 0 [I i]) H af K)]):=
 h.ca
def OB(M A:ae)(b c:Int)(F G H af K L C E:ae)(d e a:Int):aJ:=bj 80 [(0,aR 1000000000),(1,aL.aI (bn.agg [.J .free 4 A,au b,au c])),(3,aR 3),(4,aR 4),(5,aR 5),(6,aR 1000000000),(7,aL.aI (bn.agg [.J .free 4 A,au b,au c])),(8,aL.aI (bn.agg [aB 90000 5 F,aB 90001 5 G,aB 90002 5 H,aB 90003 4 af,aB 90004 1 K,aB 90005 1 L,aB 90006 1 C,aB 90007 2 E])),(9,aR 1000000000),(10,a6 a),(11,.aI (.one (.bg (a==0)))),(12,.aI (.one (.bg (a==0)))),(20,.aI (.one (.bg (a==1)))),(21,.aI (.one (.bg (a==1)))),(29,.aI (.one (.bg (a==2)))),(30,.aI (.one (.bg (a==2)))),(37,.aI (.one (.bg (a==3)))),(38,.aI (.one (.bg (a==3)))),(45,.aI (.one (.bg (a==4)))),(46,.aI (.one (.bg (a==4))))] [(5,[aB 90000 5 F,aB 90001 5 G,aB 90002 5 H,aB 90003 4 af,aB 90004 1 K,aB 90005 1 L,aB 90006 1 C,aB 90007 2 E]),(4,[.v (aQ),.v (aQ),.v (aQ),.v (aQ),.v (aQ),.v (aQ),.v (aQ),.v (aQ)]),(3,[.J .free 4 A,au b,au c]),(1000000000,[.dw 1000000100 1 M,au d,au e])]
def OC(P:Program)(W:Array Oper)(A L:ae)(g i:Int)(M C E F G H af K:ae)(a b c d e f:Int):aJ:=
 mx P W [[],[],[],[.dp [some [D.J 1 A,I d,I e],none] (aU.vals [ag f])],[],[],[],[],[],[]] (OB A L g i M C E F G H af K a b c)
theorem arw{A L:ae}{g i:Int}{M E F G H af K C:ae}{b c d e f a:Int}
  (h:cL [bW prog 138 [aN.cur [D.J 1 A,I b,I c] [D.J 1 A,I e,I f],aN.ro (ag 6)] (aU.vals [ag a]),aD .i64 (a-1),(C.length+[[I (a-1),B false]].length)*16<=140737488355328,C.length+[[I (a-1),B false]].length<=9223372036854775807,Flat [[I (a-1),B false]]]):
  et prog (cI f277 12) (OB A L g i M E F G H af K C b c d) (OC prog (cI f277 12) A L g i M E F G H af K C b c d e f a):=
 .mQ [0,0,0,1,1,0,0,3,0,0] h
theorem arx(h:ad (Ha A j k L C E F G H af K b c a l m M d e [.b (a==2) false,.b (a==3) false,.b (a==4) true,.a (.iy (OC prog (cI f277 12) A M d e L C E F G H af K b c a f g i)),.p (et prog (cI f277 12) (OB A M d e L C E F G H af K b c a) (OC prog (cI f277 12) A M d e L C E F G H af K b c a f g i))])):
 b' 277 [aN.cur [D.J 1 A,I l,I m] [D.J 1 A,I f,I g],aN.ro (.agg (bA M d e))] (aU.vals [.agg (aW L C E F G H af (K++[[I (i-1),B false]]))]):=
 h.ca
def Hb(A:ae)(a b:Int)(C E F G H af K L:ae)(c d e f g:Int)(M:ae)(i j:Int)(l:List O):List O:=Ha A a b C E F G H af K L c d e f g M i j (.b (e==2) false::.b (e==3) false::.b (e==4) false::l)
theorem ary(h:ad (Hb A g i K C E F G H af L b c a j k M l m [.b (a==5) true,.w A d e f,.k A 138 b c d e 2 f])):
 b' 277 [aN.cur [D.J 1 A,I j,I k] [D.J 1 A,I d,I e],aN.ro (.agg (bA M l m))] (aU.vals [.agg [D.J 5 K,D.J 5 C,D.J 5 E,D.J 4 F,D.J 1 G,D.J 1 H,D.J 1 af,D.J 2 [[I 1,B false],[I f,B true]]]]):=
 h.ca
theorem arz(h:ad (Hb A d e L E F G H C af K b c a f g M i j [.b (a==5) false,.b (a==6) true,.g C [[B true]] 1,.h [[B true]]])):
 b' 277 [aN.cur [D.J 1 A,I f,I g] [D.J 1 A,I b,I c],aN.ro (.agg (bA M i j))] (aU.vals [.agg (aW L E F G H (C++[[B true]]) af K)]):=
 h.ca
theorem arA(h:ad (Hb A d e L E F C G H af K b c a f g M i j [.b (a==5) false,.b (a==6) false,.b (a==7) true,.g C [[I 0,I 0,I 0,I 0]] 32,.h [[I 0,I 0,I 0,I 0]]])):
 b' 277 [aN.cur [D.J 1 A,I f,I g] [D.J 1 A,I b,I c],aN.ro (.agg (bA M i j))] (aU.vals [.agg (aW L E F (C++[[I 0,I 0,I 0,I 0]]) G H af K)]):=
 h.ca
theorem arB(h:ad (Hb A d e L C E F G H af K b c a f g M i j [.b (a==5) false,.b (a==6) false,.b (a==7) false])):
 b' 277 [aN.cur [D.J 1 A,I f,I g] [D.J 1 A,I b,I c],aN.ro (.agg (bA M i j))] (aU.vals [.agg (aW L C E F G H af K)]):=
 h.ca
def Gd(H af:ae)(c d e f:Int)(K G:ae)(a b:Int)(A C E F:ae)(q:Bool):aJ:=bj 30 [(0,aR 1000000000),(2,aR 2),(3,aR 3),(4,.aI (.one (.bg q))),(5,aL.gf [bn.agg [aB 110000 4 G,au a,au b,aB 110003 8 A,aB 110004 6 C,aB 110005 5 E,aB 110006 3 F],bn.one (aH.bg q)]),(6,aR 1000000000),(7,aL.aI (bn.agg [aB 80000 4 af,au c,au d])),(8,aR 1000000000),(9,aL.aI (bn.one (aB 100000 5 K))),(10,aL.gf [bn.agg [aB 110000 4 G,au a,au b,aB 110003 8 A,aB 110004 6 C,aB 110005 5 E,aB 110006 3 F],bn.one (aH.bg q)]),(11,aL.aI (bn.agg [aB 110000 4 G,au a,au b,aB 110003 8 A,aB 110004 6 C,aB 110005 5 E,aB 110006 3 F])),(12,.aI (.one (.bg q)))] [(3,[aB 110000 4 G,au a,au b,aB 110003 8 A,aB 110004 6 C,aB 110005 5 E,aB 110006 3 F]),(2,[.v (aQ),au 0,au 0,.v (aQ),.v (aQ),.v (aQ),.v (aQ)]),(1000000000,[.dw 1000000100 1 H,au e,au f])]
def Cp(P:Program)(W:Array Oper)(A bb:ae)(j k a b:Int)(C E:ae)(c d:Int)(F G H af:ae)(q:Bool)(e f:Int)(K L:ae)(g i:Int)(M N Q R S:ae):aJ:=
 mx P W [[],[],[.dp [some [D.J 1 A,I e,I f],none] (aU.vals [aC 3 K])],[.res [.agg (cl L g i M N Q R),aC 1 S]],[],[],[],[]] (Gd A bb j k a b C E c d F G H af q)
theorem WT{A bb:ae}{j k a b:Int}{K C:ae}{c d:Int}{E F G H:ae}{q:Bool}{e f:Int}{af L:ae}{g i:Int}{M N Q R S:ae}
  (h:cL [bW prog 120 [aN.cur [D.J 1 A,I a,I b] [D.J 1 A,I e,I f],aN.ro (ag 40)] (aU.vals [aC 3 af]),al 15 [.agg (cl C c d E F G H),aC 3 af] [.agg (cl L g i M N Q R),aC 1 S]]):
  et prog (cI f166 2) (Gd A bb j k a b K C c d E F G H q) (Cp prog (cI f166 2) A bb j k a b K C c d E F G H q e f af L g i M N Q R S):=
 .mQ [0,0,1,1,0,0,0,0] h
def OD(Q R:ae)(e i:Int)(bb K:ae)(c d:Int)(L M A C:ae)(q:Bool)(S E:ae)(a b:Int)(F G H af N:ae)(f g:Int)(r:Bool):aJ:=bj 30 [(0,aR 1000000000),(2,aR 2),(3,aR 3),(4,.aI (.one (.bg q))),(5,aL.gf [bn.agg [aB 110000 4 K,au c,au d,aB 110003 8 L,aB 110004 6 M,aB 110005 5 A,aB 110006 3 C],bn.one (aH.bg q)]),(6,aR 1000000000),(7,aL.aI (bn.agg [aB 80000 4 R,au e,au i])),(8,aR 1000000000),(9,aL.aI (bn.one (aB 100000 5 bb))),(10,aL.gf [bn.agg [aB 110000 4 K,au c,au d,aB 110003 8 L,aB 110004 6 M,aB 110005 5 A,aB 110006 3 C],bn.one (aH.bg q)]),(11,aL.aI (bn.agg [aB 110000 4 K,au c,au d,aB 110003 8 L,aB 110004 6 M,aB 110005 5 A,aB 110006 3 C])),(12,.aI (.one (.bg q))),(13,aL.gf [bn.agg [aB 180000 4 E,au a,au b,aB 180003 8 F,aB 180004 6 G,aB 180005 5 H,aB 180006 3 af],bn.one (aB 180100 1 N)]),(14,aL.aI (bn.agg [aB 110000 4 K,au c,au d,aB 110003 8 L,aB 110004 6 M,aB 110005 5 A,aB 110006 3 C])),(15,aR 1000000000),(16,aL.aI (bn.one (aB 170000 3 S))),(17,aL.gf [bn.agg [aB 180000 4 E,au a,au b,aB 180003 8 F,aB 180004 6 G,aB 180005 5 H,aB 180006 3 af],bn.one (aB 180100 1 N)]),(18,aL.aI (bn.agg [aB 180000 4 E,au a,au b,aB 180003 8 F,aB 180004 6 G,aB 180005 5 H,aB 180006 3 af])),(19,aL.aI (bn.one (aB 180100 1 N))),(20,aR 1000000000),(21,.aI (.one (.bg r)))] [(3,[aB 180000 4 E,au a,au b,aB 180003 8 F,aB 180004 6 G,aB 180005 5 H,aB 180006 3 af]),(2,[.v (aQ),au 0,au 0,.v (aQ),.v (aQ),.v (aQ),.v (aQ)]),(1000000000,[.dw 1000000100 1 Q,au f,au g])]
def OE(P:Program)(W:Array Oper)(A c7:ae)(n o:Int)(C E:ae)(a b:Int)(F G H af:ae)(q:Bool)(K L:ae)(c d:Int)(M N Q R S:ae)(e f:Int)(r:Bool)(g i j:Int)(bb:ae)(k l:Int)(V X Y Z:ae)(m:Int):aJ:=
 mx P W [[],[],[.dp [some [D.J 1 A,I g,I i],none] (aU.vals [ag j])],[.res [.agg (cl bb k l V X Y Z),ag m]],[],[],[],[]] (OD A c7 n o C E a b F G H af q K L c d M N Q R S e f r)
theorem arC{A c7:ae}{n o:Int}{af K:ae}{f g:Int}{L M N Q:ae}{q:Bool}{R C:ae}{a b:Int}{E F G H S:ae}{c d:Int}{r:Bool}{i j e:Int}{bb:ae}{k l:Int}{V X Y Z:ae}{m:Int}
  (h:cL [bW prog 138 [aN.cur [D.J 1 A,I c,I d] [D.J 1 A,I i,I j],aN.ro (ag 12)] (aU.vals [ag e]),al 16 [.agg (cl C a b E F G H),ag e] [.agg (cl bb k l V X Y Z),ag m]]):
  et prog (cI f166 4) (OD A c7 n o af K f g L M N Q q R C a b E F G H S c d r) (OE prog (cI f166 4) A c7 n o af K f g L M N Q q R C a b E F G H S c d r i j e bb k l V X Y Z m):=
 .mQ [0,0,1,1,0,0,0,0] h
def Y8(A:ae)(a b:Int)(C:ae)(c d e f:Int)(E:ae)(g i:Int)(F:ae)(j k:Int)(G H af K:ae)(q:Bool)(l:List O):List O:=.a (.dp [some [D.J 1 A,I a,I b]] (aU.vals [.agg (bA C c d)]))::.a (.dp [some [D.J 1 A,I e,I f]] (aU.vals [aC 5 E]))::.p (bW prog 118 [aN.cur [D.J 1 A,I g,I i] [D.J 1 A,I a,I b]] (aU.vals [.agg (bA C c d)]))::.p (bW prog 119 [aN.cur [D.J 1 A,I a,I b] [D.J 1 A,I e,I f]] (aU.vals [aC 5 E]))::.r 14 [.agg (bA C c d),aC 5 E] [.agg (cl F j k G H af K),ai q]::l
theorem arD(h:ad (Y8 A p cO E a b e f C d0 bu F c d G H af K q [.a (.iy (Cp prog (cI f166 2) A E a b e f C F c d G H af K q l m L M g i N Q R S bb)),.y A j k r,.p (et prog (cI f166 2) (Gd A E a b e f C F c d G H af K q) (Cp prog (cI f166 2) A E a b e f C F c d G H af K q l m L M g i N Q R S bb)),.m A 136 l m j k 4 r,.b r true,.a (.iy (OE prog (cI f166 4) A E a b C F c d G H af K q L M g i N Q R S bb j k r n o f0 V a0 bX X Y Z c7 i0)),.p (et prog (cI f166 4) (OD A E a b C F c d G H af K q L M g i N Q R S bb j k r) (OE prog (cI f166 4) A E a b C F c d G H af K q L M g i N Q R S bb j k r n o f0 V a0 bX X Y Z c7 i0))])):
 b' 166 [aN.cur [D.J 1 A,I d0,I bu] [D.J 1 A,I n,I o]] (aU.vals [.agg (cl V a0 bX X Y Z c7)]):=
 h.ca
theorem arE(h:ad (Y8 A n o E a b c d C p a0 F e f G H af K q [.a (.iy (Cp prog (cI f166 2) A E a b c d C F e f G H af K q g i S L j k M N Q R bb)),.y A l m r,.p (et prog (cI f166 2) (Gd A E a b c d C F e f G H af K q) (Cp prog (cI f166 2) A E a b c d C F e f G H af K q g i S L j k M N Q R bb)),.m A 136 g i l m 4 r,.b r false])):
 b' 166 [aN.cur [D.J 1 A,I p,I a0] [D.J 1 A,I l,I m]] (aU.vals [.agg (cl L j k M N Q R)]):=
 h.ca
def WU(H C:ae)(b c:Int)(A E F G:ae)(d f e a:Int):aJ:=bj 82 [(0,aR 1000000000),(2,aR 2),(3,aR 3),(4,a6 d),(5,aR 1000000000),(6,aL.aI (bn.agg [aB 70000 4 C,au b,au c,aB 70003 8 A,aB 70004 6 E,aB 70005 5 F,aB 70006 3 G])),(7,aR 1000000000),(8,.aI (.one (.ptr 3 3))),(9,aL.aI (bn.one (aB 70003 8 A))),(10,a6 (A.length:Int)),(11,a6 d),(12,aR 1000000000),(13,a6 a),(14,.aI (.one (.bg (a==0)))),(15,.aI (.one (.bg (a==0))))] [(3,[aB 70000 4 C,au b,au c,aB 70003 8 A,aB 70004 6 E,aB 70005 5 F,aB 70006 3 G]),(2,[.v (aQ),au 0,au 0,.v (aQ),.v (aQ),.v (aQ),.v (aQ)]),(1000000000,[.dw 1000000100 1 H,au f,au e])]
def OF(S M:ae)(b c:Int)(A N Q R:ae)(a d e f:Int)(C E F G H af K L:ae):aJ:=bj 82 [(0,aR 1000000000),(2,aR 2),(3,aR 3),(4,a6 a),(5,aR 1000000000),(6,aL.aI (bn.agg [aB 70000 4 M,au b,au c,aB 70003 8 (A.set a.toNat (aW C E F G H af K L)),aB 70004 6 N,aB 70005 5 Q,aB 70006 3 R])),(7,aR 1000000000),(8,.aI (.one (.ptr 3 3))),(9,aL.aI (bn.one (aB 70003 8 (A.set a.toNat (aW C E F G H af K L))))),(10,a6 (A.length:Int)),(11,a6 a),(12,aR 1000000000),(13,a6 d),(14,.aI (.one (.bg (d==0)))),(15,.aI (.one (.bg (d==0)))),(16,.aI (.one (.ptr 3 3))),(17,aL.aI (bn.one (aB 70003 8 (A.set a.toNat (aW C E F G H af K L))))),(18,a6 a),(19,aR 1000000000),(20,aR 3),(21,aL.aI (bn.agg [aB 70000 4 M,au b,au c])),(22,aL.aI (bn.agg [.cA,.cA,.cA,.cA,.cA,.cA,.cA,.cA])),(23,.aI (.one (.cP (Tag.own 70003) 8 (A.set a.toNat (aW C E F G H af K L)) a.toNat 0)))] [(3,[aB 70000 4 M,au b,au c,aB 70003 8 (A.set a.toNat (aW C E F G H af K L)),aB 70004 6 N,aB 70005 5 Q,aB 70006 3 R]),(2,[.v (aQ),au 0,au 0,.v (aQ),.v (aQ),.v (aQ),.v (aQ)]),(1000000000,[.dw 1000000100 1 S,au e,au f])]
theorem arF{A N:ae}{d e:Int}{C Q R S:ae}{a f g i b c:Int}{E F G H af K L M:ae}{d32 d33 d34 d35 d36 d37 d38 d39:D}
  (h:cL [bW prog 277 [aN.cur [D.J 1 A,I f,I g] [D.J 1 A,I b,I c],aN.ro (.agg (bA N d e))] (aU.vals [.agg (aW E F G H af K L M)]),0<=a,a<(C.length:Int),C[a.toNat]?=some [d32,d33,d34,d35,d36,d37,d38,d39]]):
  et prog (cI f185 5) (WU A N d e C Q R S a f g i) (OF A N d e C Q R S a i b c E F G H af K L M):=
 .of [[],[],[],[],[],[],[.dp [some [D.J 1 A,I b,I c],none] (aU.vals [.agg (aW E F G H af K L M)])],[],[.el [d32,d33,d34,d35,d36,d37,d38,d39]]] [[],[],[],[],[],[],[bW prog 277 [aN.cur [D.J 1 A,I f,I g] [D.J 1 A,I b,I c],aN.ro (.agg (bA N d e))] (aU.vals [.agg (aW E F G H af K L M)])],[0<=a,a<(C.length:Int)],[C[a.toNat]?=some [d32,d33,d34,d35,d36,d37,d38,d39]]] (by kernel_rfl) (by kernel_rfl) (by kernel_rfl) h
def Pd(A:ae)(a b:Int)(C:ae)(c d:Int)(E F G H:ae)(e f g i j k m n:Int)(l:List O):List O:=.a (.dp [some [D.J 1 A,I a,I b]] (aU.vals [.agg (cl C c d E F G H)]))::.w A e f g::.w A i j k::.p (bW prog 166 [aN.cur [D.J 1 A,I m,I n] [D.J 1 A,I a,I b]] (aU.vals [.agg (cl C c d E F G H)]))::.k A 138 a b e f (E.length:Int) g::.k A 138 e f i j 20 k::l
theorem arG(h:ad (Pd A l m H c d C E F G e f a g i b n o [.b (b==0) true,.a (.iy (OF A H c d C E F G a b j k af K L M N Q R S)),.p (et prog (cI f185 5) (WU A H c d C E F G a g i b) (OF A H c d C E F G a b j k af K L M N Q R S))])):
 b' 185 [aN.cur [D.J 1 A,I n,I o] [D.J 1 A,I j,I k]] (aU.vals [.agg (cl H c d (C.set a.toNat (aW af K L M N Q R S)) E F G)]):=
 h.ca
def WV(H C:ae)(b c:Int)(A E F G:ae)(d f e a:Int):aJ:=bj 82 [(0,aR 1000000000),(2,aR 2),(3,aR 3),(4,a6 d),(5,aR 1000000000),(6,aL.aI (bn.agg [aB 70000 4 C,au b,au c,aB 70003 8 A,aB 70004 6 E,aB 70005 5 F,aB 70006 3 G])),(7,aR 1000000000),(8,.aI (.one (.ptr 3 3))),(9,aL.aI (bn.one (aB 70003 8 A))),(10,a6 (A.length:Int)),(11,a6 d),(12,aR 1000000000),(13,a6 a),(14,.aI (.one (.bg (a==0)))),(15,.aI (.one (.bg (a==0)))),(24,.aI (.one (.bg (a==1)))),(25,.aI (.one (.bg (a==1))))] [(3,[aB 70000 4 C,au b,au c,aB 70003 8 A,aB 70004 6 E,aB 70005 5 F,aB 70006 3 G]),(2,[.v (aQ),au 0,au 0,.v (aQ),.v (aQ),.v (aQ),.v (aQ)]),(1000000000,[.dw 1000000100 1 H,au f,au e])]
def OG(af F:ae)(i j:Int)(E A G H:ae)(k g a l m b:Int)(C:ae)(c d e f:Int):aJ:=bj 82 [(0,aR 1000000000),(2,aR 2),(3,aR 3),(4,a6 k),(5,aR 1000000000),(6,aL.aI (bn.agg [aB 70000 4 F,au i,au j,aB 70003 8 E,aB 70004 6 (A.set a.toNat (bZ b C c d e f)),aB 70005 5 G,aB 70006 3 H])),(7,aR 1000000000),(8,.aI (.one (.ptr 3 3))),(9,aL.aI (bn.one (aB 70003 8 E))),(10,a6 (E.length:Int)),(11,a6 k),(12,aR 1000000000),(13,a6 g),(14,.aI (.one (.bg (g==0)))),(15,.aI (.one (.bg (g==0)))),(24,.aI (.one (.bg (g==1)))),(25,.aI (.one (.bg (g==1)))),(26,.aI (.one (.ptr 3 4))),(27,aL.aI (bn.one (aB 70004 6 (A.set a.toNat (bZ b C c d e f))))),(28,aR 1000000000),(29,.aI (.one (.ptr 3 4))),(30,aL.aI (bn.one (aB 70004 6 (A.set a.toNat (bZ b C c d e f))))),(31,a6 (A.length:Int)),(32,a6 a),(33,aR 1000000000),(34,aL.aI (bn.agg [au b,.cA,au c,au d,au e,au f])),(35,.aI (.one (.cP (Tag.own 70004) 6 (A.set a.toNat (bZ b C c d e f)) a.toNat 0)))] [(3,[aB 70000 4 F,au i,au j,aB 70003 8 E,aB 70004 6 (A.set a.toNat (bZ b C c d e f)),aB 70005 5 G,aB 70006 3 H]),(2,[.v (aQ),au 0,au 0,.v (aQ),.v (aQ),.v (aQ),.v (aQ)]),(1000000000,[.dw 1000000100 1 af,au l,au m])]
theorem aq4{A H:ae}{p a0:Int}{af C F G:ae}{n l m o b c a d e f:Int}{E:ae}{g i j k:Int}{d34 d35 d36 d37 d38 d39:D}
  (h:cL [bW prog 138 [aN.cur [D.J 1 A,I l,I m] [D.J 1 A,I b,I c],aN.ro (ag (C.length:Int))] (aU.vals [ag a]),bW prog 278 [aN.cur [D.J 1 A,I b,I c] [D.J 1 A,I d,I e]] (aU.vals [.agg (bZ f E g i j k)]),0<=a,a<(C.length:Int),C[a.toNat]?=some [d34,d35,d36,d37,d38,d39]]):
  et prog (cI f185 7) (WV A H p a0 af C F G n l m o) (OG A H p a0 af C F G n o a d e f E g i j k):=
 .of [[],[],[],[],[],[],[.dp [some [D.J 1 A,I b,I c],none] (aU.vals [ag a])],[],[.dp [some [D.J 1 A,I d,I e]] (aU.vals [.agg (bZ f E g i j k)])],[],[.el [d34,d35,d36,d37,d38,d39]]] [[],[],[],[],[],[],[bW prog 138 [aN.cur [D.J 1 A,I l,I m] [D.J 1 A,I b,I c],aN.ro (ag (C.length:Int))] (aU.vals [ag a])],[],[bW prog 278 [aN.cur [D.J 1 A,I b,I c] [D.J 1 A,I d,I e]] (aU.vals [.agg (bZ f E g i j k)])],[0<=a,a<(C.length:Int)],[C[a.toNat]?=some [d34,d35,d36,d37,d38,d39]]] (by kernel_rfl) (by kernel_rfl) (by kernel_rfl) h
theorem aq5(h:ad (Pd A bX cO H b c C E F G e f d g i a d0 bu [.b (a==0) false,.b (a==1) true,.a (.iy (OG A H b c C E F G d a j k l m af n o p a0)),.p (et prog (cI f185 7) (WV A H b c C E F G d g i a) (OG A H b c C E F G d a j k l m af n o p a0))])):
 b' 185 [aN.cur [D.J 1 A,I d0,I bu] [D.J 1 A,I k,I l]] (aU.vals [.agg (cl H b c C (E.set j.toNat (bZ m af n o p a0)) F G)]):=
 h.ca
def WW(H C:ae)(b c:Int)(A E F G:ae)(d f e a:Int):aJ:=bj 82 [(0,aR 1000000000),(2,aR 2),(3,aR 3),(4,a6 d),(5,aR 1000000000),(6,aL.aI (bn.agg [aB 70000 4 C,au b,au c,aB 70003 8 A,aB 70004 6 E,aB 70005 5 F,aB 70006 3 G])),(7,aR 1000000000),(8,.aI (.one (.ptr 3 3))),(9,aL.aI (bn.one (aB 70003 8 A))),(10,a6 (A.length:Int)),(11,a6 d),(12,aR 1000000000),(13,a6 a),(14,.aI (.one (.bg (a==0)))),(15,.aI (.one (.bg (a==0)))),(24,.aI (.one (.bg (a==1)))),(25,.aI (.one (.bg (a==1)))),(36,.aI (.one (.bg (a==2)))),(37,.aI (.one (.bg (a==2))))] [(3,[aB 70000 4 C,au b,au c,aB 70003 8 A,aB 70004 6 E,aB 70005 5 F,aB 70006 3 G]),(2,[.v (aQ),au 0,au 0,.v (aQ),.v (aQ),.v (aQ),.v (aQ)]),(1000000000,[.dw 1000000100 1 H,au f,au e])]
def OH(H E:ae)(d e:Int)(C F A G:ae)(f c a g i b:Int)(d14 d15 d16 d17:D):aJ:=bj 82 [(0,aR 1000000000),(2,aR 2),(3,aR 3),(4,a6 f),(5,aR 1000000000),(6,aL.aI (bn.agg [aB 70000 4 E,au d,au e,aB 70003 8 C,aB 70004 6 F,aB 70005 5 (A.set a.toNat [d14,I (b-1),d15,d16,d17]),aB 70006 3 G])),(7,aR 1000000000),(8,.aI (.one (.ptr 3 3))),(9,aL.aI (bn.one (aB 70003 8 C))),(10,a6 (C.length:Int)),(11,a6 f),(12,aR 1000000000),(13,a6 c),(14,.aI (.one (.bg (c==0)))),(15,.aI (.one (.bg (c==0)))),(24,.aI (.one (.bg (c==1)))),(25,.aI (.one (.bg (c==1)))),(36,.aI (.one (.bg (c==2)))),(37,.aI (.one (.bg (c==2)))),(38,.aI (.one (.ptr 3 5))),(39,aL.aI (bn.one (aB 70005 5 (A.set a.toNat [d14,I (b-1),d15,d16,d17])))),(40,aR 1000000000),(41,a6 a),(42,aR 1000000000),(43,a6 b),(44,a6 (b-1)),(45,.aI (.one (.cP (Tag.own 70005) 5 (A.set a.toNat [d14,I (b-1),d15,d16,d17]) a.toNat 0))),(46,.aI (.one (.cP (Tag.own 70005) 5 (A.set a.toNat [d14,I (b-1),d15,d16,d17]) a.toNat 1)))] [(3,[aB 70000 4 E,au d,au e,aB 70003 8 C,aB 70004 6 F,aB 70005 5 (A.set a.toNat [d14,I (b-1),d15,d16,d17]),aB 70006 3 G]),(2,[.v (aQ),au 0,au 0,.v (aQ),.v (aQ),.v (aQ),.v (aQ)]),(1000000000,[.dw 1000000100 1 H,au g,au i])]
theorem aq6{A G:ae}{l m:Int}{H E C F:ae}{j g i k c d a e f b:Int}{d29 d30 d31 d32 d33:D}
  (h:cL [bW prog 138 [aN.cur [D.J 1 A,I g,I i] [D.J 1 A,I c,I d],aN.ro (ag 4)] (aU.vals [ag a]),bW prog 138 [aN.cur [D.J 1 A,I c,I d] [D.J 1 A,I e,I f],aN.ro (ag 6)] (aU.vals [ag b]),aD .i64 (b-1),0<=a,a<(C.length:Int),C[a.toNat]?=some [d29,d30,d31,d32,d33]]):
  et prog (cI f185 9) (WW A G l m H E C F j g i k) (OH A G l m H E C F j k a e f b d29 d31 d32 d33):=
 .of [[],[],[],[.dp [some [D.J 1 A,I c,I d],none] (aU.vals [ag a])],[],[.dp [some [D.J 1 A,I e,I f],none] (aU.vals [ag b])],[],[],[],[.el [d29,d30,d31,d32,d33]]] [[],[],[],[bW prog 138 [aN.cur [D.J 1 A,I g,I i] [D.J 1 A,I c,I d],aN.ro (ag 4)] (aU.vals [ag a])],[],[bW prog 138 [aN.cur [D.J 1 A,I c,I d] [D.J 1 A,I e,I f],aN.ro (ag 6)] (aU.vals [ag b])],[aD .i64 (b-1)],[0<=a,a<(C.length:Int)],[],[C[a.toNat]?=some [d29,d30,d31,d32,d33]]] (by kernel_rfl) (by kernel_rfl) (by kernel_rfl) h
def Ad(A:ae)(a b:Int)(C:ae)(c d:Int)(E F G H:ae)(e f g i j k m n:Int)(l:List O):List O:=Pd A a b C c d E F G H e f g i j k m n (.b (k==0) false::.b (k==1) false::l)
theorem aq7{A:ae}{p a0 n o:Int}{H:ae}{b c:Int}{C E F G:ae}{e f d g i a j k l m:Int}{d29 d31 d32 d33:D}(h:ad (Ad A n o H b c C E F G e f d g i a p a0 [.b (a==2) true,.a (.iy (OH A H b c C E F G d a j k l m d29 d31 d32 d33)),.p (et prog (cI f185 9) (WW A H b c C E F G d g i a) (OH A H b c C E F G d a j k l m d29 d31 d32 d33))])):
 b' 185 [aN.cur [D.J 1 A,I p,I a0] [D.J 1 A,I k,I l]] (aU.vals [.agg (cl H b c C E (F.set j.toNat [d29,I (m-1),d31,d32,d33]) G)]):=
 h.ca
def Yl(H C:ae)(b c:Int)(A E F G:ae)(d f e a:Int):aJ:=bj 82 [(0,aR 1000000000),(2,aR 2),(3,aR 3),(4,a6 d),(5,aR 1000000000),(6,aL.aI (bn.agg [aB 70000 4 C,au b,au c,aB 70003 8 A,aB 70004 6 E,aB 70005 5 F,aB 70006 3 G])),(7,aR 1000000000),(8,.aI (.one (.ptr 3 3))),(9,aL.aI (bn.one (aB 70003 8 A))),(10,a6 (A.length:Int)),(11,a6 d),(12,aR 1000000000),(13,a6 a),(14,.aI (.one (.bg (a==0)))),(15,.aI (.one (.bg (a==0)))),(24,.aI (.one (.bg (a==1)))),(25,.aI (.one (.bg (a==1)))),(36,.aI (.one (.bg (a==2)))),(37,.aI (.one (.bg (a==2)))),(47,.aI (.one (.bg (a==3)))),(48,.aI (.one (.bg (a==3))))] [(3,[aB 70000 4 C,au b,au c,aB 70003 8 A,aB 70004 6 E,aB 70005 5 F,aB 70006 3 G]),(2,[.v (aQ),au 0,au 0,.v (aQ),.v (aQ),.v (aQ),.v (aQ)]),(1000000000,[.dw 1000000100 1 H,au f,au e])]
def OI(H E:ae)(c d:Int)(C F A G:ae)(e a f g b:Int)(d13 d14 d15 d16:D):aJ:=bj 82 [(0,aR 1000000000),(2,aR 2),(3,aR 3),(4,a6 e),(5,aR 1000000000),(6,aL.aI (bn.agg [aB 70000 4 E,au c,au d,aB 70003 8 C,aB 70004 6 F,aB 70005 5 (A.set 0 [d13,d14,I b,d15,d16]),aB 70006 3 G])),(7,aR 1000000000),(8,.aI (.one (.ptr 3 3))),(9,aL.aI (bn.one (aB 70003 8 C))),(10,a6 (C.length:Int)),(11,a6 e),(12,aR 1000000000),(13,a6 a),(14,.aI (.one (.bg (a==0)))),(15,.aI (.one (.bg (a==0)))),(24,.aI (.one (.bg (a==1)))),(25,.aI (.one (.bg (a==1)))),(36,.aI (.one (.bg (a==2)))),(37,.aI (.one (.bg (a==2)))),(47,.aI (.one (.bg (a==3)))),(48,.aI (.one (.bg (a==3)))),(49,.aI (.one (.ptr 3 5))),(50,aL.aI (bn.one (aB 70005 5 (A.set 0 [d13,d14,I b,d15,d16])))),(51,aR 1000000000),(52,.aI (.one (.J (.own 52) 1 [[I 1000000],[I 1000001],[I (-1000001)],[I 3]]))),(53,a6 b),(54,.aI (.one (.cP (Tag.own 70005) 5 (A.set 0 [d13,d14,I b,d15,d16]) 0 0))),(55,.aI (.one (.cP (Tag.own 70005) 5 (A.set 0 [d13,d14,I b,d15,d16]) 0 2)))] [(3,[aB 70000 4 E,au c,au d,aB 70003 8 C,aB 70004 6 F,aB 70005 5 (A.set 0 [d13,d14,I b,d15,d16]),aB 70006 3 G]),(2,[.v (aQ),au 0,au 0,.v (aQ),.v (aQ),.v (aQ),.v (aQ)]),(1000000000,[.dw 1000000100 1 H,au f,au g])]
theorem aq8{A G:ae}{i j:Int}{H E C F:ae}{f d e g a b c:Int}{d25 d26 d27 d28 d29:D}
  (h:cL [bW prog 140 [aN.cur [D.J 1 A,I d,I e] [D.J 1 A,I a,I b],aN.ro (.one (.J 1 [[I 1000000],[I 1000001],[I (-1000001)],[I 3]]))] (aU.vals [ag c]),(0:Int)<=0,0<(C.length:Int),C[0]?=some [d25,d26,d27,d28,d29]]):
  et prog (cI f185 11) (Yl A G i j H E C F f d e g) (OI A G i j H E C F f g a b c d25 d26 d28 d29):=
 .of [[],[],[],[],[.dp [some [D.J 1 A,I a,I b],none] (aU.vals [ag c])],[],[],[.el [d25,d26,d27,d28,d29]]] [[],[],[],[],[bW prog 140 [aN.cur [D.J 1 A,I d,I e] [D.J 1 A,I a,I b],aN.ro (.one (.J 1 [[I 1000000],[I 1000001],[I (-1000001)],[I 3]]))] (aU.vals [ag c])],[(0:Int)<=0,0<(C.length:Int)],[],[C[0]?=some [d25,d26,d27,d28,d29]]] (by kernel_rfl) (by kernel_rfl) (by kernel_rfl) h
theorem aq9{A:ae}{o p m n:Int}{H:ae}{b c:Int}{C E F G:ae}{e f d g i a j k l:Int}{d25 d26 d28 d29:D}(h:ad (Ad A m n H b c C E F G e f d g i a o p [.b (a==2) false,.b (a==3) true,.a (.iy (OI A H b c C E F G d a j k l d25 d26 d28 d29)),.p (et prog (cI f185 11) (Yl A H b c C E F G d g i a) (OI A H b c C E F G d a j k l d25 d26 d28 d29))])):
 b' 185 [aN.cur [D.J 1 A,I o,I p] [D.J 1 A,I j,I k]] (aU.vals [.agg (cl H b c C E (F.set 0 [d25,d26,I l,d28,d29]) G)]):=
 h.ca
def Ym(H C:ae)(b c:Int)(A E F G:ae)(d f e a:Int):aJ:=bj 82 [(0,aR 1000000000),(2,aR 2),(3,aR 3),(4,a6 d),(5,aR 1000000000),(6,aL.aI (bn.agg [aB 70000 4 C,au b,au c,aB 70003 8 A,aB 70004 6 E,aB 70005 5 F,aB 70006 3 G])),(7,aR 1000000000),(8,.aI (.one (.ptr 3 3))),(9,aL.aI (bn.one (aB 70003 8 A))),(10,a6 (A.length:Int)),(11,a6 d),(12,aR 1000000000),(13,a6 a),(14,.aI (.one (.bg (a==0)))),(15,.aI (.one (.bg (a==0)))),(24,.aI (.one (.bg (a==1)))),(25,.aI (.one (.bg (a==1)))),(36,.aI (.one (.bg (a==2)))),(37,.aI (.one (.bg (a==2)))),(47,.aI (.one (.bg (a==3)))),(48,.aI (.one (.bg (a==3)))),(56,.aI (.one (.bg (a==4)))),(57,.aI (.one (.bg (a==4))))] [(3,[aB 70000 4 C,au b,au c,aB 70003 8 A,aB 70004 6 E,aB 70005 5 F,aB 70006 3 G]),(2,[.v (aQ),au 0,au 0,.v (aQ),.v (aQ),.v (aQ),.v (aQ)]),(1000000000,[.dw 1000000100 1 H,au f,au e])]
def OJ(H E:ae)(d e:Int)(A F G C:ae)(f a b g i c:Int):aJ:=bj 82 [(0,aR 1000000000),(2,aR 2),(3,aR 3),(4,a6 f),(5,aR 1000000000),(6,aL.aI (bn.agg [aB 70000 4 E,au d,au e,aB 70003 8 A,aB 70004 6 F,aB 70005 5 G,.J (Tag.ro 70006) 3 C])),(7,aR 1000000000),(8,.aI (.one (.ptr 3 3))),(9,aL.aI (bn.one (aB 70003 8 A))),(10,a6 (A.length:Int)),(11,a6 f),(12,aR 1000000000),(13,a6 a),(14,.aI (.one (.bg (a==0)))),(15,.aI (.one (.bg (a==0)))),(24,.aI (.one (.bg (a==1)))),(25,.aI (.one (.bg (a==1)))),(36,.aI (.one (.bg (a==2)))),(37,.aI (.one (.bg (a==2)))),(47,.aI (.one (.bg (a==3)))),(48,.aI (.one (.bg (a==3)))),(56,.aI (.one (.bg (a==4)))),(57,.aI (.one (.bg (a==4)))),(58,.aI (.one (.ptr 3 6))),(59,.aI (.one (.J (Tag.ro 70006) 3 C))),(60,aR 1000000000),(61,a6 b),(62,a6 (b-1)),(63,aR 1000000000),(64,a6 c),(65,a6 (c-1)),(66,aL.aI (bn.agg [au (b-1),au (c-1),.v (Value.bool false)])),(67,.aI (.one (.J (.own 67) 3 [[I (b-1),I (c-1),B false]]))),(68,aL.aI (bn.one (aB 70006 3 (C++[[I (b-1),I (c-1),B false]])))),(69,.aI (.one (.ptr 3 6)))] [(3,[aB 70000 4 E,au d,au e,aB 70003 8 A,aB 70004 6 F,aB 70005 5 G,aB 70006 3 (C++[[I (b-1),I (c-1),B false]])]),(2,[.v (aQ),au 0,au 0,.v (aQ),.v (aQ),.v (aQ),.v (aQ)]),(1000000000,[.dw 1000000100 1 H,au g,au i])]
theorem ara{A G:ae}{l m:Int}{H E F C:ae}{j g i k c d a e f b:Int}
  (h:cL [bW prog 138 [aN.cur [D.J 1 A,I g,I i] [D.J 1 A,I c,I d],aN.ro (ag 6)] (aU.vals [ag a]),aD .i64 (a-1),bW prog 138 [aN.cur [D.J 1 A,I c,I d] [D.J 1 A,I e,I f],aN.ro (ag 6)] (aU.vals [ag b]),aD .i64 (b-1),(C.length+[[I (a-1),I (b-1),B false]].length)*24<=140737488355328,C.length+[[I (a-1),I (b-1),B false]].length<=9223372036854775807,Flat [[I (a-1),I (b-1),B false]]]):
  et prog (cI f185 13) (Ym A G l m H E F C j g i k) (OJ A G l m H E F C j k a e f b):=
 .of [[],[],[],[.dp [some [D.J 1 A,I c,I d],none] (aU.vals [ag a])],[],[],[.dp [some [D.J 1 A,I e,I f],none] (aU.vals [ag b])],[],[],[],[],[],[]] [[],[],[],[bW prog 138 [aN.cur [D.J 1 A,I g,I i] [D.J 1 A,I c,I d],aN.ro (ag 6)] (aU.vals [ag a])],[aD .i64 (a-1)],[],[bW prog 138 [aN.cur [D.J 1 A,I c,I d] [D.J 1 A,I e,I f],aN.ro (ag 6)] (aU.vals [ag b])],[aD .i64 (b-1)],[],[],[(C.length+[[I (a-1),I (b-1),B false]].length)*24<=140737488355328,C.length+[[I (a-1),I (b-1),B false]].length<=9223372036854775807,Flat [[I (a-1),I (b-1),B false]]],[],[]] (by kernel_rfl) (by kernel_rfl) (by kernel_rfl) h
theorem arb(h:ad (Ad A n o H b c C E F G e f d g i a p a0 [.b (a==2) false,.b (a==3) false,.b (a==4) true,.a (.iy (OJ A H b c C E F G d a j k l m)),.p (et prog (cI f185 13) (Ym A H b c C E F G d g i a) (OJ A H b c C E F G d a j k l m))])):
 b' 185 [aN.cur [D.J 1 A,I p,I a0] [D.J 1 A,I k,I l]] (aU.vals [.agg (cl H b c C E F (G++[[I (j-1),I (m-1),B false]]))]):=
 h.ca
theorem arc(h:ad (Ad A k l af p a0 C E F G b c n d e a m o [.b (a==2) false,.b (a==3) false,.b (a==4) false,.b (a==5) true,.a (.dp [some [D.J 1 A,I f,I g]] (aU.vals [.agg (bA H i j)])),.p (bW prog 137 [aN.cur [D.J 1 A,I d,I e] [D.J 1 A,I f,I g]] (aU.vals [.agg (bA H i j)]))])):
 b' 185 [aN.cur [D.J 1 A,I m,I o] [D.J 1 A,I f,I g]] (aU.vals [.agg (cl H i j C E F G)]):=
 h.ca
theorem ard(h:ad (Ad A f g H i j E F C G b c l d e a k m [.b (a==2) false,.b (a==3) false,.b (a==4) false,.b (a==5) false,.b (a==6) true,.a .own,.p ((0:Int)<=none.getD 0),.p (none.getD 0<=(some (3:Int)).getD (C.length:Int)),.p ((some (3:Int)).getD (C.length:Int)<=(C.length:Int))])):
 b' 185 [aN.cur [D.J 1 A,I k,I m] [D.J 1 A,I d,I e]] (aU.vals [.agg (cl H i j E F (List.take (3-0) (List.drop 0 C)) G)]):=
 h.ca
theorem asI(h:ad (Ad A f g H i j C E F G b c l d e a k m [.b (a==2) false,.b (a==3) false,.b (a==4) false,.b (a==5) false,.b (a==6) false])):
 b' 185 [aN.cur [D.J 1 A,I k,I m] [D.J 1 A,I d,I e]] (aU.vals [.agg (cl H i j C E F G)]):=
 h.ca
def Hk(A:ae)(a b c d e f g i j k:Int)(l:List O):List O:=.a (.dp [some [D.J 1 A,I a,I b]] (aU.vals [.agg [I c,I d,I e]]))::.w A f g i::.p (bW prog 242 [aN.cur [D.J 1 A,I j,I k] [D.J 1 A,I a,I b]] (aU.vals [.agg [I c,I d,I e]]))::.k A 138 a b f g 10 i::l
theorem asJ(h:ad (Hk A g i n j k b c d l m [.b (d==0) true,.w A e f a,.k A 138 b c e f 10 a,.v (a-1)])):
 b' 222 [aN.cur [D.J 1 A,I l,I m] [D.J 1 A,I e,I f]] (aU.vals [.agg [I (a-1),I j,I k]]):=
 h.ca
theorem asK(h:ad (Hk A g i j n k b c a l m [.b (a==0) false,.b (a==1) true,.w A d e f,.p (bW prog 140 [aN.cur [D.J 1 A,I b,I c] [D.J 1 A,I d,I e],aN.ro (.one (.J 1 [[I (-1)],[I 3],[I 4],[I 9223372036854775807]]))] (aU.vals [ag f]))])):
 b' 222 [aN.cur [D.J 1 A,I l,I m] [D.J 1 A,I d,I e]] (aU.vals [.agg [I j,I f,I k]]):=
 h.ca
theorem asL(h:ad (Hk A g i j k n b c a l m [.b (a==0) false,.b (a==1) false,.b (a==2) true,.w A d e f,.p (bW prog 140 [aN.cur [D.J 1 A,I b,I c] [D.J 1 A,I d,I e],aN.ro (.one (.J 1 [[I (-1)],[I 0],[I 3],[I (-9223372036854775808)]]))] (aU.vals [ag f]))])):
 b' 222 [aN.cur [D.J 1 A,I l,I m] [D.J 1 A,I d,I e]] (aU.vals [.agg [I j,I k,I f]]):=
 h.ca
theorem asM(h:ad (Hk A d e f g i b c a j k [.b (a==0) false,.b (a==1) false,.b (a==2) false])):
 b' 222 [aN.cur [D.J 1 A,I j,I k] [D.J 1 A,I b,I c]] (aU.vals [.agg [I f,I g,I i]]):=
 h.ca
def Y9(A:ae)(a b:Int)(l:List O):List O:=.a (.dp [none] (aU.iX [some 0,none,none] [D.J 1 A,I a,I b]))::l
def Y'(A:ae)(a b c d:Int)(C:ae)(e f:Int)(E F G H:ae)(g i j k m:Int)(l:List O):List O:=Y9 A a b (.a (.dp [some [D.J 1 A,I c,I d]] (aU.vals [.agg (cl C e f E F G H)]))::.a (.dp [some [D.J 1 A,I g,I i]] (aU.vals [.agg [I j,I k,I m]]))::.p (bW prog 117 [aN.ro (aC 1 A)] (aU.iX [some 0,none,none] [D.J 1 A,I a,I b]))::.p (bW prog 185 [aN.cur [D.J 1 A,I a,I b] [D.J 1 A,I c,I d]] (aU.vals [.agg (cl C e f E F G H)]))::.p (bW prog 222 [aN.cur [D.J 1 A,I c,I d] [D.J 1 A,I g,I i]] (aU.vals [.agg [I j,I k,I m]]))::l)
theorem asN(h:ad (Y' A d e f g H i j C E F G k l a b c [])):
 al 86 [aC 1 A] [.agg (cl H i j C E F G),.agg [I a,I b,I c]]:=
 h.of
def OK(H af:ae)(d f:Int)(K L M N:ae)(g i c:Int)(A:ae)(a b:Int)(C E F G:ae)(q:Bool)(j k e:Int):aJ:=bj 39 [(0,dO 1 H),(2,aR 2),(3,aR 3),(4,aR 4),(5,aR 11),(6,aR 6),(7,aR 7),(8,aR 8),(9,.aI (.one (.bg q))),(10,dO 1 H),(11,aR 11),(12,aR 11),(13,aL.aI (bn.agg [aB 140000 4 af,au d,au f,aB 140003 8 K,aB 140004 6 L,aB 140005 5 M,aB 140006 3 N])),(14,aR 11),(15,aL.aI (bn.agg [au g,au i,au c])),(16,aL.gf [bn.agg [aB 200000 4 A,au a,au b,aB 200003 8 C,aB 200004 6 E,aB 200005 5 F,aB 200006 3 G],bn.one (aH.bg q)]),(17,aL.aI (bn.agg [aB 140000 4 af,au d,au f,aB 140003 8 K,aB 140004 6 L,aB 140005 5 M,aB 140006 3 N])),(18,aL.aI (bn.agg [au g,au i,au c])),(19,aL.gf [bn.agg [aB 200000 4 A,au a,au b,aB 200003 8 C,aB 200004 6 E,aB 200005 5 F,aB 200006 3 G],bn.one (aH.bg q)]),(20,aL.aI (bn.agg [aB 200000 4 A,au a,au b,aB 200003 8 C,aB 200004 6 E,aB 200005 5 F,aB 200006 3 G])),(21,.aI (.one (.bg q))),(22,aR 11),(23,a6 e),(24,.aI (.one (.bg (e==0)))),(25,.aI (.one (.bg (e==0))))] [(8,[aB 200000 4 A,au a,au b,aB 200003 8 C,aB 200004 6 E,aB 200005 5 F,aB 200006 3 G]),(7,[au g,au i,au c]),(6,[aB 140000 4 af,au d,au f,aB 140003 8 K,aB 140004 6 L,aB 140005 5 M,aB 140006 3 N]),(11,[.J .free 1 H,au j,au k]),(4,[au 0,au 0,au 0]),(3,[.v (aQ),au 0,au 0,.v (aQ),.v (aQ),.v (aQ),.v (aQ)]),(2,[.v (aQ),au 0,au 0,.v (aQ),.v (aQ),.v (aQ),.v (aQ)])]
def OL(P:Program)(W:Array Oper)(A V:ae)(n o:Int)(C E F G:ae)(a b c:Int)(H:ae)(d e:Int)(af K L M:ae)(q:Bool)(f g i j k:Int)(N:ae)(l m:Int)(Q R S bb:ae):aJ:=
 mx P W [[],[],[.dp [some [D.J 1 A,I j,I k]] (aU.vals [.agg (cl N l m Q R S bb)])],[],[],[],[]] (OK A V n o C E F G a b c H d e af K L M q f g i)
theorem asO{A V:ae}{n o:Int}{C E F G:ae}{c d e:Int}{H:ae}{f g:Int}{af K L M:ae}{q:Bool}{a b i j k:Int}{N:ae}{l m:Int}{Q R S bb:ae}
  (h:cL [bW prog 185 [aN.cur [D.J 1 A,I a,I b] [D.J 1 A,I j,I k]] (aU.vals [.agg (cl N l m Q R S bb)])]):
  et prog (cI f90 7) (OK A V n o C E F G c d e H f g af K L M q a b i) (OL prog (cI f90 7) A V n o C E F G c d e H f g af K L M q a b i j k N l m Q R S bb):=
 .mQ [0,0,1,0,0,0,0] h
def Pe(A:ae)(a b c d:Int)(C:ae)(e f:Int)(E F G H:ae)(g i j k m:Int)(af:ae)(n o:Int)(K L M N:ae)(q:Bool)(p d' eC:Int)(l:List O):List O:=Y' A a b c d C e f E F G H g i j k m (.r 204 [.agg (cl C e f E F G H),.agg [I j,I k,I m]] [.agg (cl af n o K L M N),ai q]::.w A p d' eC::.k A 138 g i p d' 6 eC::l)
theorem asP(h:ad (Pe A n o bX cO H d e C E F G l m a b c af j k K L M N q g i f [.b (f==0) true,.a (.iy (OL prog (cI f90 7) A H d e C E F G a b c af j k K L M N q g i f d0 bu Q p a0 R S bb V)),.p (et prog (cI f90 7) (OK A H d e C E F G a b c af j k K L M N q g i f) (OL prog (cI f90 7) A H d e C E F G a b c af j k K L M N q g i f d0 bu Q p a0 R S bb V))])):
 al 90 [aC 1 A] [.agg (cl H d e C E F G),.agg (cl Q p a0 R S bb V),.agg [I a,I b,I c]]:=
 h.of
def OM(H af:ae)(e f:Int)(K L M N:ae)(g i d:Int)(A:ae)(b c:Int)(C E F G:ae)(q:Bool)(j k a:Int):aJ:=bj 39 [(0,dO 1 H),(2,aR 2),(3,aR 3),(4,aR 4),(5,aR 11),(6,aR 6),(7,aR 7),(8,aR 8),(9,.aI (.one (.bg q))),(10,dO 1 H),(11,aR 11),(12,aR 11),(13,aL.aI (bn.agg [aB 140000 4 af,au e,au f,aB 140003 8 K,aB 140004 6 L,aB 140005 5 M,aB 140006 3 N])),(14,aR 11),(15,aL.aI (bn.agg [au g,au i,au d])),(16,aL.gf [bn.agg [aB 200000 4 A,au b,au c,aB 200003 8 C,aB 200004 6 E,aB 200005 5 F,aB 200006 3 G],bn.one (aH.bg q)]),(17,aL.aI (bn.agg [aB 140000 4 af,au e,au f,aB 140003 8 K,aB 140004 6 L,aB 140005 5 M,aB 140006 3 N])),(18,aL.aI (bn.agg [au g,au i,au d])),(19,aL.gf [bn.agg [aB 200000 4 A,au b,au c,aB 200003 8 C,aB 200004 6 E,aB 200005 5 F,aB 200006 3 G],bn.one (aH.bg q)]),(20,aL.aI (bn.agg [aB 200000 4 A,au b,au c,aB 200003 8 C,aB 200004 6 E,aB 200005 5 F,aB 200006 3 G])),(21,.aI (.one (.bg q))),(22,aR 11),(23,a6 a),(24,.aI (.one (.bg (a==0)))),(25,.aI (.one (.bg (a==0)))),(30,.aI (.one (.bg (a==1)))),(31,.aI (.one (.bg (a==1))))] [(8,[aB 200000 4 A,au b,au c,aB 200003 8 C,aB 200004 6 E,aB 200005 5 F,aB 200006 3 G]),(7,[au g,au i,au d]),(6,[aB 140000 4 af,au e,au f,aB 140003 8 K,aB 140004 6 L,aB 140005 5 M,aB 140006 3 N]),(11,[.J .free 1 H,au j,au k]),(4,[au 0,au 0,au 0]),(3,[.v (aQ),au 0,au 0,.v (aQ),.v (aQ),.v (aQ),.v (aQ)]),(2,[.v (aQ),au 0,au 0,.v (aQ),.v (aQ),.v (aQ),.v (aQ)])]
def ON(P:Program)(W:Array Oper)(A N:ae)(o p:Int)(C E F G:ae)(a b c:Int)(H:ae)(d e:Int)(af K L M:ae)(q:Bool)(f g i j k l m n:Int):aJ:=
 mx P W [[],[],[],[.dp [some [D.J 1 A,I j,I k]] (aU.vals [.agg [I l,I m,I n]])],[],[],[]] (OM A N o p C E F G a b c H d e af K L M q f g i)
theorem asQ{A N:ae}{o p:Int}{C E F G:ae}{c d e:Int}{H:ae}{f g:Int}{af K L M:ae}{q:Bool}{a b i j k l m n:Int}
  (h:cL [bW prog 222 [aN.cur [D.J 1 A,I a,I b] [D.J 1 A,I j,I k]] (aU.vals [.agg [I l,I m,I n]])]):
  et prog (cI f90 9) (OM A N o p C E F G c d e H f g af K L M q a b i) (ON prog (cI f90 9) A N o p C E F G c d e H f g af K L M q a b i j k l m n):=
 .mQ [0,0,0,1,0,0,0] h
theorem asR(h:ad (Pe A n o cO d0 H b c C E F G l m d e f af g i K L M N q j k a [.b (a==0) false,.b (a==1) true,.a (.iy (ON prog (cI f90 9) A H b c C E F G d e f af g i K L M N q j k a bu f0 p a0 bX)),.p (et prog (cI f90 9) (OM A H b c C E F G d e f af g i K L M N q j k a) (ON prog (cI f90 9) A H b c C E F G d e f af g i K L M N q j k a bu f0 p a0 bX))])):
 al 90 [aC 1 A] [.agg (cl H b c C E F G),.agg (cl af g i K L M N),.agg [I p,I a0,I bX]]:=
 h.of
theorem asS(h:ad (Pe A j k l m H e f C E F G g i a b c af n o K L M N q p a0 d [.b (d==0) false,.b (d==1) false])):
 al 90 [aC 1 A] [.agg (cl H e f C E F G),.agg (cl af n o K L M N),.agg [I a,I b,I c]]:=
 h.of
theorem asT(h:ad [.r 86 [aC 1 A] [.agg (cl C b c E F G H),.agg [I d,I e,I a]]]):
 al 91 [aC 1 A] [.agg (cl C b c E F G H),.agg [I d,I e,I a]]:=
 h.of
theorem asU(h:ad (Y9 A a b [.a (.dp [some [D.J 1 A,I c,I d]] (aU.vals [.agg [I e,I f,I g]])),.y A i j q,.p (bW prog 117 [aN.ro (aC 1 A)] (aU.iX [some 0,none,none] [D.J 1 A,I a,I b])),.p (bW prog 222 [aN.cur [D.J 1 A,I a,I b] [D.J 1 A,I c,I d]] (aU.vals [.agg [I e,I f,I g]])),.m A 136 c d i j 2 q])):
 al 95 [aC 1 A] [.agg [I e,I f,I g],ai q]:=
 h.of
