import Derived.Test.YtdchjefneblpgaaGreatGE
set_option linter.unusedVariables false
set_option linter.unusedSimpArgs false
namespace Go.Proofs.YtdchjefneblpgaaGreat
open Go.Sx Go.RowKit Go.Proofs.Tryz
variable {a b c d e f g i j k l m n o p a0 eE cc gC dk d0 bB f0 i0 j0 dq fo m0 sI B9 j9 : Int} {A C E F G H aj K L M N Q R S bi V X Y Z eg : ae} {q r : Bool}
def tp(A:ae)(a c d e:Int)(C:ae)(f g i j b:Int):aD:=bd 55 [(0,aQ 1000000000),(2,aQ 2),(3,aQ 3),(4,aW a)] [(3,[au c,au d,au e,aA 52 1 C]),(2,[au f,au g,au i,.v (aO)]),(1000000000,[.c' 1000000100 1 A,au j,au b])]
def Rm(A:ae)(a d e f:Int)(C:ae)(g i j k c b:Int):aD:=bd 55 [(0,aQ 1000000000),(2,aQ 2),(3,aQ 3),(4,aW a),(37,aW a),(38,aQ 1000000000),(39,aW b),(40,.aF (.one (.a' (decide (a<b)))))] [(3,[au d,au e,au f,aA 52 1 C]),(2,[au g,au i,au j,.v (aO)]),(1000000000,[.c' 1000000100 1 A,au k,au c])]
def Jm(C:ae)(a f g i:Int)(A:ae)(j k l c d e b:Int):aD:=bd 55 [(0,aQ 1000000000),(2,aQ 2),(3,aQ 3),(4,aW a),(37,aW a),(38,aQ 1000000000),(39,aW c),(40,.aF (.one (.a' (decide (a<c))))),(43,.aF (.one (.ptr 3 3))),(44,.aF (.one (.J (Tag.ro 52) 1 A))),(45,aW a),(46,aW (a*2)),(47,aW (1+a*2)),(48,aQ 1000000000),(49,aW b),(50,aW (1+a*2+b)),(51,.aF (.one (.J (.own 51) 1 [[I (1+a*2+b)]]))),(52,aE.aF (bm.one (aA 52 1 (A++[[I (1+a*2+b)]])))),(53,.aF (.one (.ptr 3 3)))] [(3,[au f,au g,au i,aA 52 1 (A++[[I (1+a*2+b)]])]),(2,[au j,au k,au l,.v (aO)]),(1000000000,[.c' 1000000100 1 C,au d,au e])]
theorem afj{A:ae}{a g i j:Int}{C:ae}{k l m e f n c d b:Int}
  (h:cA [aI .i64 (a*2),aI .i64 (1+a*2),bT prog 138 [aL.cur [D.J 1 A,I e,I f] [D.J 1 A,I c,I d],aL.ro (af 2)] (aT.vals [af b]),aI .i64 (1+a*2+b),(C.length+[[I (1+a*2+b)]].length)*8<=140737488355328,C.length+[[I (1+a*2+b)]].length<=9223372036854775807,Flat [[I (1+a*2+b)]]]):
  dZ prog (cN f319 14) (Rm A a g i j C k l m e f n) (Jm A a g i j C k l m n c d b):=
 .of [[],[],[],[],[],[],[.dg [some [D.J 1 A,I c,I d],none] (aT.vals [af b])],[],[],[],[],[]] [[],[],[],[aI .i64 (a*2)],[aI .i64 (1+a*2)],[],[bT prog 138 [aL.cur [D.J 1 A,I e,I f] [D.J 1 A,I c,I d],aL.ro (af 2)] (aT.vals [af b])],[aI .i64 (1+a*2+b)],[],[(C.length+[[I (1+a*2+b)]].length)*8<=140737488355328,C.length+[[I (1+a*2+b)]].length<=9223372036854775807,Flat [[I (1+a*2+b)]]],[],[]] (by kernel_rfl) (by kernel_rfl) (by kernel_rfl) h
theorem afk(h:ad [.w A j k b,.k A 138 o p j k 3 b,.b (decide (a<b)) true,.a (.hK (Jm A a c d e C f g i b l m n)),.p (dZ prog (cN f319 14) (Rm A a c d e C f g i j k b) (Jm A a c d e C f g i b l m n)),.u a]):
 aX (ao f319 0) (tp A a c d e C f g i o p) .normal (tp A (a+1) c d e (C++[[I (1+a*2+n)]]) f g i l m):=
 h.aV [4,0,3,2] [3,2,1000000000]
def wM(A:ae)(a b c:Int)(C:ae)(d e f g i:Int):aD:=bd 55 [(0,aQ 1000000000),(2,aQ 2),(3,aQ 3)] [(3,[au a,au b,au c,aA 52 1 C]),(2,[au d,au e,au f,.v (aO)]),(1000000000,[.c' 1000000100 1 A,au g,au i])]
theorem aev(h:ad [.w A a b c,.k A 138 l m a b 3 c,.b (decide (d<c)) false]):
 aX (ao f319 0) (tp A d e f g C i j k l m) (.exit 1) (wM A e f g C i j k a b):=
 h.aV [3,2,0] [3,2,1000000000]
def D2(A:ae)(a b c d e:Int)(l:List O):List O:=.w A a b c::.k A 138 d e a b 8 c::l
theorem aew(h:ad (D2 A c d a g n [.v (1+a),.b (1+a==2) true,.w A e f b,.p (bT prog 140 [aL.cur [D.J 1 A,I c,I d] [D.J 1 A,I e,I f],aL.ro (.one (.J 1 [[I 0],[I 1],[I 3],[I 10],[I 999]]))] (aT.vals [af b])),.b (1+a != 8) true,.l [(4000003,52,1)] [4,0,3,2] [3,2,1000000000] (ao f319 0) (tp A 0 (1+a) b 0 [] 0 0 0 e f) (.exit 1) (wM A i j k C o p a0 l m)])):
 bY 319 [aL.cur [D.J 1 A,I g,I n] [D.J 1 A,I l,I m]] (aT.vals [.agg (bf i j k C)]):=
 h.b1
def D3(A:ae)(a b c d e:Int)(l:List O):List O:=D2 A a b c d e (.v (1+c)::.b (1+c==2) false::l)
theorem aex(h:ad (D3 A f g a k o [.b (1+a==3) true,.w A i j b,.w A c d e,.k A 138 f g i j 4 b,.v (1+b),.k A 138 i j c d (1+b) e,.b (1+a != 8) true,.l [(4000003,52,1)] [4,0,3,2] [3,2,1000000000] (ao f319 0) (tp A 0 (1+a) (1+b) e [] 0 0 0 c d) (.exit 1) (wM A l m n C cc dk d0 p a0)])):
 bY 319 [aL.cur [D.J 1 A,I k,I o] [D.J 1 A,I p,I a0]] (aT.vals [.agg (bf l m n C)]):=
 h.b1
theorem aey(h:ad (D3 A c d a g n [.b (1+a==3) false,.b (1+a==4) true,.w A e f b,.p (bT prog 140 [aL.cur [D.J 1 A,I c,I d] [D.J 1 A,I e,I f],aL.ro (.one (.J 1 [[I 0],[I 1],[I 2],[I 3],[I 50],[I 99]]))] (aT.vals [af b])),.b (1+a != 8) true,.l [(4000003,52,1)] [4,0,3,2] [3,2,1000000000] (ao f319 0) (tp A 0 (1+a) b 0 [] 0 0 0 e f) (.exit 1) (wM A i j k C o p a0 l m)])):
 bY 319 [aL.cur [D.J 1 A,I g,I n] [D.J 1 A,I l,I m]] (aT.vals [.agg (bf i j k C)]):=
 h.b1
theorem aez(h:ad (D3 A b c a d g [.b (1+a==3) false,.b (1+a==4) false,.b (1+a != 8) true,.l [(4000003,52,1)] [4,0,3,2] [3,2,1000000000] (ao f319 0) (tp A 0 (1+a) 0 0 [] 0 0 0 b c) (.exit 1) (wM A i j k C l m n e f)])):
 bY 319 [aL.cur [D.J 1 A,I d,I g] [D.J 1 A,I e,I f]] (aT.vals [.agg (bf i j k C)]):=
 h.b1
theorem aeA(h:ad (D3 A b c a d e [.b (1+a==3) false,.b (1+a==4) false,.b (1+a != 8) false])):
 bY 319 [aL.cur [D.J 1 A,I d,I e] [D.J 1 A,I b,I c]] (aT.vals [.agg (bf (1+a) 0 0 [])]):=
 h.b1
def Al(A:ae)(a b c d e:Int)(C:ae)(f g i j k:Int)(l:List O):List O:=.a (.dg [some [D.J 1 A,I a,I b]] (aT.vals [.agg (bf c d e C)]))::.w A f g i::.p (bT prog 319 [aL.cur [D.J 1 A,I j,I k] [D.J 1 A,I a,I b]] (aT.vals [.agg (bf c d e C)]))::.k A 138 a b f g 12 i::l
theorem aeB(h:ad (Al A g i n j k C b c d l m [.b (d==0) true,.w A e f a,.k A 138 b c e f 11 a,.v (a-1)])):
 bY 252 [aL.cur [D.J 1 A,I l,I m] [D.J 1 A,I e,I f]] (aT.vals [.agg (bf (a-1) j k C)]):=
 h.b1
theorem aeC(h:ad (Al A g i j n k C b c a l m [.b (a==0) false,.b (a==1) true,.w A d e f,.p (bT prog 140 [aL.cur [D.J 1 A,I b,I c] [D.J 1 A,I d,I e],aL.ro (.one (.J 1 [[I (-1)],[I 0],[I 1000],[I 100],[I 11]]))] (aT.vals [af f]))])):
 bY 252 [aL.cur [D.J 1 A,I l,I m] [D.J 1 A,I d,I e]] (aT.vals [.agg (bf j f k C)]):=
 h.b1
theorem aeD(h:ad (Al A g i j k n C b c a l m [.b (a==0) false,.b (a==1) false,.b (a==2) true,.w A d e f,.p (bT prog 140 [aL.cur [D.J 1 A,I b,I c] [D.J 1 A,I d,I e],aL.ro (.one (.J 1 [[I (-1)],[I 1],[I 3]]))] (aT.vals [af f]))])):
 bY 252 [aL.cur [D.J 1 A,I l,I m] [D.J 1 A,I d,I e]] (aT.vals [.agg (bf j k f C)]):=
 h.b1
def Jn(C:ae)(b c d:Int)(A:ae)(e f a:Int):aD:=bd 37 [(0,aQ 1000000000),(2,aQ 2),(3,aQ 3),(4,aQ 1000000000),(5,aE.aF (bm.agg [au b,au c,au d,aA 60003 1 A])),(6,aQ 1000000000),(7,aW a),(8,.aF (.one (.a' (a==0)))),(9,.aF (.one (.a' (a==0)))),(14,.aF (.one (.a' (a==1)))),(15,.aF (.one (.a' (a==1)))),(20,.aF (.one (.a' (a==2)))),(21,.aF (.one (.a' (a==2)))),(26,.aF (.one (.a' (a==3)))),(27,.aF (.one (.a' (a==3))))] [(3,[au b,au c,au d,aA 60003 1 A]),(2,[au 0,au 0,au 0,.v (aO)]),(1000000000,[.c' 1000000100 1 C,au e,au f])]
def KB(P:Program)(W:Array Oper)(A:ae)(g i j:Int)(C:ae)(a b c d e f:Int):aD:=
 ml P W [[],[],[],[],[.dg [some [D.J 1 A,I d,I e],none] (aT.vals [af f])],[],[],[],[]] (Jn A g i j C a b c)
theorem aeE{A:ae}{g i j:Int}{C:ae}{b c d e f a:Int}
  (h:cA [bT prog 140 [aL.cur [D.J 1 A,I b,I c] [D.J 1 A,I e,I f],aL.ro (.one (.J 1 [[I 1],[I 7],[I 8],[I (-1)]]))] (aT.vals [af a]),(C.length+[[I a]].length)*8<=140737488355328,C.length+[[I a]].length<=9223372036854775807,Flat [[I a]]]):
  dZ prog (cN f252 10) (Jn A g i j C b c d) (KB prog (cN f252 10) A g i j C b c d e f a):=
 .m' [0,0,0,0,1,0,3,0,0] h
theorem aeF(h:ad (Al A k l b c d C e f a m n [.b (a==0) false,.b (a==1) false,.b (a==2) false,.b (a==3) true,.a (.hK (KB prog (cN f252 10) A b c d C e f a g i j)),.p (dZ prog (cN f252 10) (Jn A b c d C e f a) (KB prog (cN f252 10) A b c d C e f a g i j))])):
 bY 252 [aL.cur [D.J 1 A,I m,I n] [D.J 1 A,I g,I i]] (aT.vals [.agg (bf b c d (C++[[I j]]))]):=
 h.b1
theorem aeG(h:ad (Al A d e f g i C b c a j k [.b (a==0) false,.b (a==1) false,.b (a==2) false,.b (a==3) false])):
 bY 252 [aL.cur [D.J 1 A,I j,I k] [D.J 1 A,I b,I c]] (aT.vals [.agg (bf f g i C)]):=
 h.b1
def r1(A:ae)(a g:Int)(C:ae)(i j k l m n b c d e f:Int):aD:=bd 40 [(0,aQ 1000000000),(2,aQ 2),(3,aQ 3),(4,aW a)] [(3,[au g,aA 900004001 5 C,au i,au j,au k,au l]),(2,[au m,.v (aO),au n,au b,au c,au d]),(1000000000,[.c' 1000000100 1 A,au e,au f])]
def K'(A:ae)(a b c d e f g i j:Int)(l:List O):List O:=.w A a b c::.k A 138 d e a b 9 c::.b (decide (f<c)) true::.w A g i j::.k A 138 a b g i 4 j::l
theorem aeH(h:ad (K' A b c d dk d0 a e f g [.b (g==0) true,.r 260 [.agg (cd i C j k l m)] [.agg (cd bB E f0 i0 j0 dq),.agg (bj fo m0 sI B9 j9),ag q],.u a])):
 aX (ao f327 0) (r1 A a i C j k l m n o p a0 cc dk d0) .normal (r1 A (a+1) bB E f0 i0 j0 dq n o p a0 cc e f):=
 h.pd [(4000001,900004001,5)] [4,0,3,2] [3,2,1000000000]
theorem aeI(h:ad (K' A c d e dk d0 a f g b [.b (b==0) false,.b (b==1) true,.r 261 [.agg (cd i C j k l m)] [.agg (cd bB E f0 i0 j0 dq),ag q],.u a])):
 aX (ao f327 0) (r1 A a i C j k l m n o p a0 cc dk d0) .normal (r1 A (a+1) bB E f0 i0 j0 dq n o p a0 cc f g):=
 h.pd [(4000001,900004001,5)] [4,0,3,2] [3,2,1000000000]
def KC(A:ae)(b j:Int)(C:ae)(k l m n o p d e f c g i a:Int):aD:=bd 40 [(0,aQ 1000000000),(2,aQ 2),(3,aQ 3),(4,aW b),(9,aW b),(10,aQ 1000000000),(11,aW c),(12,.aF (.one (.a' (decide (b<c))))),(15,aQ 1000000000),(16,aW a),(24,.aF (.one (.a' (a==0)))),(25,.aF (.one (.a' (a==0)))),(32,.aF (.one (.a' (a==1)))),(33,.aF (.one (.a' (a==1))))] [(3,[au j,aA 900004001 5 C,au k,au l,au m,au n]),(2,[au o,.v (aO),au p,au d,au e,au f]),(1000000000,[.c' 1000000100 1 A,au g,au i])]
def KD(P:Program)(W:Array Oper)(A:ae)(a b:Int)(C:ae)(c d e f g i j k l m n o p a0 cc dk d0 bB f0 i0 j0:Int)(E:ae)(dq fo m0 sI:Int)(q:Bool):aD:=
 ml P W [[],[],[.dg [some [D.J 1 A,I a0,I cc]] (aT.vals [.agg (bj dk d0 bB f0 i0)])],[.res [.agg (cd j0 E dq fo m0 sI),ag q]],[],[],[],[]] (KC A a b C c d e f g i j k l m n o p)
theorem aeJ{A:ae}{n a:Int}{C:ae}{b c d e o p a0 cc dk d0 f g bB f0 i0 i j k l m j0:Int}{E:ae}{dq fo m0 sI:Int}{q:Bool}
  (h:cA [bT prog 271 [aL.cur [D.J 1 A,I f,I g] [D.J 1 A,I f0,I i0]] (aT.vals [.agg (bj i j k l m)]),ar 258 [.agg (cd a C b c d e),.agg (bj i j k l m)] [.agg (cd j0 E dq fo m0 sI),ag q]]):
  dZ prog (cN f327 6) (KC A n a C b c d e o p a0 cc dk d0 f g bB) (KD prog (cN f327 6) A n a C b c d e o p a0 cc dk d0 f g bB f0 i0 i j k l m j0 E dq fo m0 sI q):=
 .m' [0,0,1,1,0,0,0,0] h
theorem aeK(h:ad (K' A a0 cc c fo m0 a j k b [.b (b==0) false,.b (b==1) false,.a (.hK (KD prog (cN f327 6) A a l C m n o p d e f g i c j k b dk d0 sI B9 j9 eE gC bB E f0 i0 j0 dq q)),.p (dZ prog (cN f327 6) (KC A a l C m n o p d e f g i c j k b) (KD prog (cN f327 6) A a l C m n o p d e f g i c j k b dk d0 sI B9 j9 eE gC bB E f0 i0 j0 dq q)),.u a])):
 aX (ao f327 0) (r1 A a l C m n o p d e f g i fo m0) .normal (r1 A (a+1) bB E f0 i0 j0 dq d e f g i dk d0):=
 h.pd [(4000001,900004001,5)] [4,0,3,2] [3,2,1000000000]
def KE(A:ae)(a:Int)(C:ae)(f g i j k l m b c d e:Int):aD:=bd 40 [(0,aQ 1000000000),(2,aQ 2),(3,aQ 3)] [(3,[au a,aA 900004001 5 C,au f,au g,au i,au j]),(2,[au k,.v (aO),au l,au m,au b,au c]),(1000000000,[.c' 1000000100 1 A,au d,au e])]
theorem aeL(h:ad [.w A a b c,.k A 138 p a0 a b 9 c,.b (decide (d<c)) false]):
 aX (ao f327 0) (r1 A d e C f g i j k l m n o p a0) (.exit 0) (KE A e C f g i j k l m n o a b):=
 h.aV [3,2,0] [3,2,1000000000]
theorem aeM(h:ad [.w A b c a,.k A 138 d n b c 4 a,.v (1+a),.r 126 [af (1+a)] [.agg (cd a0 E cc e f g)],.l [(4000001,900004001,5)] [4,0,3,2] [3,2,1000000000] (ao f327 0) (r1 A 0 a0 E cc e f g 0 0 0 0 0 b c) (.exit 0) (KE A i C j k l m dk d0 bB f0 i0 o p)]):
 bY 327 [aL.cur [D.J 1 A,I d,I n] [D.J 1 A,I o,I p]] (aT.vals [.agg (cd i C j k l m)]):=
 h.b1
def xn(A:ae)(a b c:Int)(C:ae)(d e f g i j k m n:Int)(l:List O):List O:=.a (.dg [some [D.J 1 A,I a,I b]] (aT.vals [.agg (cd c C d e f g)]))::.w A i j k::.p (bT prog 327 [aL.cur [D.J 1 A,I m,I n] [D.J 1 A,I a,I b]] (aT.vals [.agg (cd c C d e f g)]))::.k A 138 a b i j 14 k::l
theorem aeN(h:ad (xn A j k l C p m b c d e f n o [.b (f==0) true,.w A g i a,.k A 138 d e g i 6 a,.v (a-1)])):
 bY 278 [aL.cur [D.J 1 A,I n,I o] [D.J 1 A,I g,I i]] (aT.vals [.agg (cd l C (a-1) m b c)]):=
 h.b1
theorem aeO(h:ad (xn A j k l C m p c d e f a n o [.b (a==0) false,.b (a==1) true,.w A g i b,.k A 138 e f g i 6 b,.v (b-1)])):
 bY 278 [aL.cur [D.J 1 A,I n,I o] [D.J 1 A,I g,I i]] (aT.vals [.agg (cd l C m (b-1) c d)]):=
 h.b1
theorem aeP(h:ad (xn A i j k C l m o b c d a n p [.b (a==0) false,.b (a==1) false,.b (a==2) true,.w A e f g,.p (bT prog 140 [aL.cur [D.J 1 A,I c,I d] [D.J 1 A,I e,I f],aL.ro (.one (.J 1 [[I (-1)],[I 0],[I 1000000000],[I 1000000001]]))] (aT.vals [af g]))])):
 bY 278 [aL.cur [D.J 1 A,I n,I p] [D.J 1 A,I e,I f]] (aT.vals [.agg (cd k C l m g b)]):=
 h.b1
def KF(C:ae)(b:Int)(A:ae)(c d e f g i a:Int):aD:=bd 44 [(0,aQ 1000000000),(2,aQ 2),(3,aQ 3),(4,aQ 1000000000),(5,aE.aF (bm.agg [au b,aA 60001 5 A,au c,au d,au e,au f])),(6,aQ 1000000000),(7,aW a),(8,.aF (.one (.a' (a==0)))),(9,.aF (.one (.a' (a==0)))),(14,.aF (.one (.a' (a==1)))),(15,.aF (.one (.a' (a==1)))),(20,.aF (.one (.a' (a==2)))),(21,.aF (.one (.a' (a==2)))),(26,.aF (.one (.a' (a==3)))),(27,.aF (.one (.a' (a==3))))] [(3,[au b,aA 60001 5 A,au c,au d,au e,au f]),(2,[au 0,.v (aO),au 0,au 0,au 0,au 0]),(1000000000,[.c' 1000000100 1 C,au g,au i])]
def KG(P:Program)(W:Array Oper)(A:ae)(n:Int)(C:ae)(o p a b c d e f g i j k l m:Int):aD:=
 ml P W [[],[],[],[.dg [some [D.J 1 A,I f,I g]] (aT.vals [.agg (bj i j k l m)])],[],[],[],[]] (KF A n C o p a b c d e)
theorem aeQ{A:ae}{n:Int}{C:ae}{o p i j f g k l m a b c d e:Int}
  (h:cA [bT prog 178 [aL.cur [D.J 1 A,I f,I g] [D.J 1 A,I l,I m]] (aT.vals [.agg (bj a b c d e)]),(C.length+[(bj a b c d e)].length)*40<=140737488355328,C.length+[(bj a b c d e)].length<=9223372036854775807,Flat [(bj a b c d e)]]):
  dZ prog (cN f278 10) (KF A n C o p i j f g k) (KG prog (cN f278 10) A n C o p i j f g k l m a b c d e):=
 .m' [0,0,0,1,0,3,0,0] h
theorem aeR(h:ad (xn A a0 cc d C e f b c g i a dk d0 [.b (a==0) false,.b (a==1) false,.b (a==2) false,.b (a==3) true,.a (.hK (KG prog (cN f278 10) A d C e f b c g i a j k l m n o p)),.p (dZ prog (cN f278 10) (KF A d C e f b c g i a) (KG prog (cN f278 10) A d C e f b c g i a j k l m n o p))])):
 bY 278 [aL.cur [D.J 1 A,I dk,I d0] [D.J 1 A,I j,I k]] (aT.vals [.agg (cd d (C++[(bj l m n o p)]) e f b c)]):=
 h.b1
theorem aeS(h:ad (xn A d e f C g i k l b c a j m [.b (a==0) false,.b (a==1) false,.b (a==2) false,.b (a==3) false,.b (a==4) true,.v (1000000000-(C.length:Int))])):
 bY 278 [aL.cur [D.J 1 A,I j,I m] [D.J 1 A,I b,I c]] (aT.vals [.agg (cd f C g i 1000000000 (1000000000-(C.length:Int)))]):=
 h.b1
theorem aeT(h:ad (xn A f g i C j k b c d e a l m [.b (a==0) false,.b (a==1) false,.b (a==2) false,.b (a==3) false,.b (a==4) false])):
 bY 278 [aL.cur [D.J 1 A,I l,I m] [D.J 1 A,I d,I e]] (aT.vals [.agg (cd i C j k b c)]):=
 h.b1
def D5(A:ae)(a b c d e f g i j:Int)(l:List O):List O:=.a (.dg [some [D.J 1 A,I a,I b]] (aT.vals [.agg (bj c d e f g)]))::.p (bT prog 271 [aL.cur [D.J 1 A,I i,I j] [D.J 1 A,I a,I b]] (aT.vals [.agg (bj c d e f g)]))::l
theorem aeU(h:ad (D5 A m n cc b p c d o a0 [.b (decide ((C.length:Int)>0)) true,.w A e f g,.y A i j q,.k A 138 m n e f (C.length:Int) g,.m A 136 e f i j 4 q,.b q true,.w A k l a,.k A 138 i j k l 2 a,.v (5+a)])):
 bY 350 [aL.cur [D.J 1 A,I o,I a0] [D.J 1 A,I k,I l],aL.ro (.agg (bk C dk d0))] (aT.vals [.agg (bj g b (5+a) c d)]):=
 h.b1
theorem ael(h:ad (D5 A k l o a b c d m n [.b (decide ((C.length:Int)>0)) true,.w A e f g,.y A i j q,.k A 138 k l e f (C.length:Int) g,.m A 136 e f i j 4 q,.b q false])):
 bY 350 [aL.cur [D.J 1 A,I m,I n] [D.J 1 A,I i,I j],aL.ro (.agg (bk C p a0))] (aT.vals [.agg (bj g a b c d)]):=
 h.b1
theorem aem(h:ad (D5 A j k l b n c d m o [.b (decide ((C.length:Int)>0)) false,.y A e f q,.m A 136 j k e f 4 q,.b q true,.w A g i a,.k A 138 e f g i 2 a,.v (5+a)])):
 bY 350 [aL.cur [D.J 1 A,I m,I o] [D.J 1 A,I g,I i],aL.ro (.agg (bk C p a0))] (aT.vals [.agg (bj l b (5+a) c d)]):=
 h.b1
theorem aen(h:ad (D5 A g i j a b c d k l [.b (decide ((C.length:Int)>0)) false,.y A e f q,.m A 136 g i e f 4 q,.b q false])):
 bY 350 [aL.cur [D.J 1 A,I k,I l] [D.J 1 A,I e,I f],aL.ro (.agg (bk C m n))] (aT.vals [.agg (bj j a b c d)]):=
 h.b1
def pG(A:ae)(a:Int)(E F G H aj K L M C:ae)(b c d e:Int):aD:=bd 48 [(0,aQ 1000000000),(3,aQ 3),(4,aQ 4),(5,aQ 5),(6,aW a)] [(5,[aA 900006000 5 E,aA 900006001 5 F,aA 900006002 5 G,aA 900006003 4 H,aA 900006004 1 aj,aA 900006005 1 K,aA 900006006 1 L,aA 900006007 2 M]),(4,[.v (aO),.v (aO),.v (aO),.v (aO),.v (aO),.v (aO),.v (aO),.v (aO)]),(3,[.J .free 4 C,au b,au c]),(1000000000,[.c' 1000000100 1 A,au d,au e])]
def D4(A:ae)(a b c d e f g i j:Int)(l:List O):List O:=D2 A a b c d e (.b (decide (f<c)) true::.w A g i j::.k A 138 a b g i 5 j::l)
theorem aeo(h:ad (D4 A d e f k l a g i j [.b (j==0) true,.r 348 [.agg (bk C b c),.agg (ba E F G H aj K L M)] [.agg (ba N Q R S bi V X Y),ag q],.u a])):
 aX (ao f326 0) (pG A a E F G H aj K L M C b c k l) .normal (pG A (a+1) N Q R S bi V X Y C b c g i):=
 h.pd [(6000000,900006000,5),(6000001,900006001,5),(6000002,900006002,5),(6000003,900006003,4),(6000004,900006004,1),(6000005,900006005,1),(6000006,900006006,1),(6000007,900006007,2)] [6,0,3,5,4] [5,4,3,1000000000]
def KH(A:ae)(b:Int)(E F G H aj K L M C:ae)(d e c f g a:Int):aD:=bd 48 [(0,aQ 1000000000),(3,aQ 3),(4,aQ 4),(5,aQ 5),(6,aW b),(10,aW b),(11,aQ 1000000000),(12,aW c),(13,.aF (.one (.a' (decide (b<c))))),(16,aQ 1000000000),(17,aW a),(24,.aF (.one (.a' (a==0)))),(25,.aF (.one (.a' (a==0)))),(32,.aF (.one (.a' (a==1)))),(33,.aF (.one (.a' (a==1))))] [(5,[aA 900006000 5 E,aA 900006001 5 F,aA 900006002 5 G,aA 900006003 4 H,aA 900006004 1 aj,aA 900006005 1 K,aA 900006006 1 L,aA 900006007 2 M]),(4,[.v (aO),.v (aO),.v (aO),.v (aO),.v (aO),.v (aO),.v (aO),.v (aO)]),(3,[.J .free 4 C,au d,au e]),(1000000000,[.c' 1000000100 1 A,au f,au g])]
def KI(P:Program)(W:Array Oper)(A:ae)(a:Int)(C E F G H aj K L M:ae)(b c d e f g i j k l m n o:Int)(N Q R S bi V X Y:ae):aD:=
 ml P W [[],[],[],[.dg [some [D.J 1 A,I i,I j],none] (aT.vals [.agg (bj k l m n o)])],[.res [.agg (ba N Q R S bi V X Y)]],[]] (KH A a C E F G H aj K L M b c d e f g)
theorem aep{A:ae}{k:Int}{C E F G H aj K L M:ae}{a b l c d m n o e f g i j:Int}{N Q R S bi V X Y:ae}
  (h:cA [bT prog 350 [aL.cur [D.J 1 A,I c,I d] [D.J 1 A,I n,I o],aL.ro (.agg (bk M a b))] (aT.vals [.agg (bj e f g i j)]),ar 349 [.agg (ba C E F G H aj K L),.agg (bj e f g i j)] [.agg (ba N Q R S bi V X Y)]]):
  dZ prog (cN f326 10) (KH A k C E F G H aj K L M a b l c d m) (KI prog (cN f326 10) A k C E F G H aj K L M a b l c d m n o e f g i j N Q R S bi V X Y):=
 .m' [0,0,0,1,1,0] h
theorem aeq(h:ad (D4 A i j c m n a f g b [.b (b==0) false,.b (b==1) true,.a (.hK (KI prog (cN f326 10) A a E F G H aj K L M C d e c f g b k l o p a0 cc dk N Q R S bi V X Y)),.p (dZ prog (cN f326 10) (KH A a E F G H aj K L M C d e c f g b) (KI prog (cN f326 10) A a E F G H aj K L M C d e c f g b k l o p a0 cc dk N Q R S bi V X Y)),.u a])):
 aX (ao f326 0) (pG A a E F G H aj K L M C d e m n) .normal (pG A (a+1) N Q R S bi V X Y C d e k l):=
 h.pd [(6000000,900006000,5),(6000001,900006001,5),(6000002,900006002,5),(6000003,900006003,4),(6000004,900006004,1),(6000005,900006005,1),(6000006,900006006,1),(6000007,900006007,2)] [6,0,3,5,4] [5,4,3,1000000000]
theorem Rn(h:ad (D4 A c d e k l b f g a [.b (a==0) false,.b (a==1) false,.b (a==2) true,.r 351 [.agg (ba C E F G H aj K L)] [.agg (ba N Q R S bi V X Y),.agg (bj m n o p a0),ag q],.u b])):
 aX (ao f326 0) (pG A b C E F G H aj K L M i j k l) .normal (pG A (b+1) N Q R S bi V X Y M i j f g):=
 h.pd [(6000000,900006000,5),(6000001,900006001,5),(6000002,900006002,5),(6000003,900006003,4),(6000004,900006004,1),(6000005,900006005,1),(6000006,900006006,1),(6000007,900006007,2)] [6,0,3,5,4] [5,4,3,1000000000]
theorem aer(h:ad (D4 A e f g k l b i j a [.b (a==0) false,.b (a==1) false,.b (a==2) false,.r 48 [.agg (bk C c d),.agg (ba E F G H aj K L M)] [.agg (ba N Q R S bi V X Y),ag q],.u b])):
 aX (ao f326 0) (pG A b E F G H aj K L M C c d k l) .normal (pG A (b+1) N Q R S bi V X Y C c d i j):=
 h.pd [(6000000,900006000,5),(6000001,900006001,5),(6000002,900006002,5),(6000003,900006003,4),(6000004,900006004,1),(6000005,900006005,1),(6000006,900006006,1),(6000007,900006007,2)] [6,0,3,5,4] [5,4,3,1000000000]
def KJ(A C E F G H aj K L:ae)(b a:Int):aD:=bd 48 [(0,aQ 1000000000),(4,aQ 4),(5,aQ 5)] [(5,[aA 900006000 5 C,aA 900006001 5 E,aA 900006002 5 F,aA 900006003 4 G,aA 900006004 1 H,aA 900006005 1 aj,aA 900006006 1 K,aA 900006007 2 L]),(4,[.v (aO),.v (aO),.v (aO),.v (aO),.v (aO),.v (aO),.v (aO),.v (aO)]),(1000000000,[.c' 1000000100 1 A,au b,au a])]
theorem aes(h:ad (D2 A a b c e f [.b (decide (d<c)) false])):
 aX (ao f326 0) (pG A d C E F G H aj K L M g i e f) (.exit 0) (KJ A C E F G H aj K L a b):=
 h.aV [5,4,0] [5,4,1000000000]
theorem aet(h:ad [.a (.dg [some [D.J 1 A,I a,I b]] (aT.vals [aP 5 C])),.p (bT prog 119 [aL.cur [D.J 1 A,I c,I d] [D.J 1 A,I a,I b]] (aT.vals [aP 5 C])),.r 124 [aP 5 C] [.agg (ba E F G H aj K L M)],.l [(6000000,900006000,5),(6000001,900006001,5),(6000002,900006002,5),(6000003,900006003,4),(6000004,900006004,1),(6000005,900006005,1),(6000006,900006006,1),(6000007,900006007,2)] [6,0,3,5,4] [5,4,3,1000000000] (ao f326 0) (pG A 0 E F G H aj K L M Z g i a b) (.exit 0) (KJ A N Q R S bi V X Y e f)]):
 bY 326 [aL.cur [D.J 1 A,I c,I d] [D.J 1 A,I e,I f],aL.ro (.agg (bk Z g i))] (aT.vals [.agg (ba N Q R S bi V X Y)]):=
 h.b1
def KK(M A:ae)(b c:Int)(F G H aj K L C E:ae)(d e a:Int):aD:=bd 80 [(0,aQ 1000000000),(1,aE.aF (bm.agg [.J .free 4 A,au b,au c])),(3,aQ 3),(4,aQ 4),(5,aQ 5),(6,aQ 1000000000),(7,aE.aF (bm.agg [.J .free 4 A,au b,au c])),(8,aE.aF (bm.agg [aA 90000 5 F,aA 90001 5 G,aA 90002 5 H,aA 90003 4 aj,aA 90004 1 K,aA 90005 1 L,aA 90006 1 C,aA 90007 2 E])),(9,aQ 1000000000),(10,aW a),(11,.aF (.one (.a' (a==0)))),(12,.aF (.one (.a' (a==0))))] [(5,[aA 90000 5 F,aA 90001 5 G,aA 90002 5 H,aA 90003 4 aj,aA 90004 1 K,aA 90005 1 L,aA 90006 1 C,aA 90007 2 E]),(4,[.v (aO),.v (aO),.v (aO),.v (aO),.v (aO),.v (aO),.v (aO),.v (aO)]),(3,[.J .free 4 A,au b,au c]),(1000000000,[.c' 1000000100 1 M,au d,au e])]
def KL(P:Program)(W:Array Oper)(A L:ae)(l m:Int)(M C E F G H aj K:ae)(a b c d e f g i j k:Int):aD:=
 ml P W [[],[],[],[.dg [some [D.J 1 A,I d,I e]] (aT.vals [.agg (bj f g i j k)])],[],[],[],[]] (KK A L l m M C E F G H aj K a b c)
theorem aeu{A M:ae}{l m:Int}{C E F G H aj K L:ae}{f g i j k a b c d e:Int}
  (h:cA [bT prog 178 [aL.cur [D.J 1 A,I f,I g] [D.J 1 A,I j,I k]] (aT.vals [.agg (bj a b c d e)]),(C.length+[(bj a b c d e)].length)*40<=140737488355328,C.length+[(bj a b c d e)].length<=9223372036854775807,Flat [(bj a b c d e)]]):
  dZ prog (cN f277 4) (KK A M l m C E F G H aj K L f g i) (KL prog (cN f277 4) A M l m C E F G H aj K L f g i j k a b c d e):=
 .m' [0,0,0,1,0,3,0,0] h
def La(A:ae)(a b:Int)(C E F G H aj K L:ae)(c d e f g:Int)(M:ae)(i j:Int)(l:List O):List O:=.a (.dg [some [D.J 1 A,I a,I b],none] (aT.vals [.agg (ba C E F G H aj K L)]))::.w A c d e::.p (bT prog 326 [aL.cur [D.J 1 A,I f,I g] [D.J 1 A,I a,I b],aL.ro (.agg (bk M i j))] (aT.vals [.agg (ba C E F G H aj K L)]))::.k A 138 a b c d 16 e::l
theorem afV(h:ad (La A n o L C E F G H aj K b c a p a0 M d e [.b (a==0) true,.a (.hK (KL prog (cN f277 4) A M d e L C E F G H aj K b c a f g i j k l m)),.p (dZ prog (cN f277 4) (KK A M d e L C E F G H aj K b c a) (KL prog (cN f277 4) A M d e L C E F G H aj K b c a f g i j k l m))])):
 bY 277 [aL.cur [D.J 1 A,I p,I a0] [D.J 1 A,I f,I g],aL.ro (.agg (bk M d e))] (aT.vals [.agg (ba (L++[(bj i j k l m)]) C E F G H aj K)]):=
 h.b1
def KM(M A:ae)(b c:Int)(F G H aj K L C E:ae)(d e a:Int):aD:=bd 80 [(0,aQ 1000000000),(1,aE.aF (bm.agg [.J .free 4 A,au b,au c])),(3,aQ 3),(4,aQ 4),(5,aQ 5),(6,aQ 1000000000),(7,aE.aF (bm.agg [.J .free 4 A,au b,au c])),(8,aE.aF (bm.agg [aA 90000 5 F,aA 90001 5 G,aA 90002 5 H,aA 90003 4 aj,aA 90004 1 K,aA 90005 1 L,aA 90006 1 C,aA 90007 2 E])),(9,aQ 1000000000),(10,aW a),(11,.aF (.one (.a' (a==0)))),(12,.aF (.one (.a' (a==0)))),(20,.aF (.one (.a' (a==1)))),(21,.aF (.one (.a' (a==1))))] [(5,[aA 90000 5 F,aA 90001 5 G,aA 90002 5 H,aA 90003 4 aj,aA 90004 1 K,aA 90005 1 L,aA 90006 1 C,aA 90007 2 E]),(4,[.v (aO),.v (aO),.v (aO),.v (aO),.v (aO),.v (aO),.v (aO),.v (aO)]),(3,[.J .free 4 A,au b,au c]),(1000000000,[.c' 1000000100 1 M,au d,au e])]
def KN(P:Program)(W:Array Oper)(A L:ae)(l m:Int)(M C E F G H aj K:ae)(a b c d e f g i j k:Int):aD:=
 ml P W [[],[],[],[.dg [some [D.J 1 A,I d,I e]] (aT.vals [.agg (bj f g i j k)])],[],[],[],[]] (KM A L l m M C E F G H aj K a b c)
theorem afW{A L:ae}{l m:Int}{M E C F G H aj K:ae}{f g i j k a b c d e:Int}
  (h:cA [bT prog 271 [aL.cur [D.J 1 A,I f,I g] [D.J 1 A,I j,I k]] (aT.vals [.agg (bj a b c d e)]),(C.length+[(bj a b c d e)].length)*40<=140737488355328,C.length+[(bj a b c d e)].length<=9223372036854775807,Flat [(bj a b c d e)]]):
  dZ prog (cN f277 6) (KM A L l m M E C F G H aj K f g i) (KN prog (cN f277 6) A L l m M E C F G H aj K f g i j k a b c d e):=
 .m' [0,0,0,1,0,3,0,0] h
theorem afX(h:ad (La A n o L C E F G H aj K b c a p a0 M d e [.b (a==0) false,.b (a==1) true,.a (.hK (KN prog (cN f277 6) A M d e L C E F G H aj K b c a f g i j k l m)),.p (dZ prog (cN f277 6) (KM A M d e L C E F G H aj K b c a) (KN prog (cN f277 6) A M d e L C E F G H aj K b c a f g i j k l m))])):
 bY 277 [aL.cur [D.J 1 A,I p,I a0] [D.J 1 A,I f,I g],aL.ro (.agg (bk M d e))] (aT.vals [.agg (ba L C (E++[(bj i j k l m)]) F G H aj K)]):=
 h.b1
def KO(M A:ae)(b c:Int)(F G H aj K L C E:ae)(d e a:Int):aD:=bd 80 [(0,aQ 1000000000),(1,aE.aF (bm.agg [.J .free 4 A,au b,au c])),(3,aQ 3),(4,aQ 4),(5,aQ 5),(6,aQ 1000000000),(7,aE.aF (bm.agg [.J .free 4 A,au b,au c])),(8,aE.aF (bm.agg [aA 90000 5 F,aA 90001 5 G,aA 90002 5 H,aA 90003 4 aj,aA 90004 1 K,aA 90005 1 L,aA 90006 1 C,aA 90007 2 E])),(9,aQ 1000000000),(10,aW a),(11,.aF (.one (.a' (a==0)))),(12,.aF (.one (.a' (a==0)))),(20,.aF (.one (.a' (a==1)))),(21,.aF (.one (.a' (a==1)))),(29,.aF (.one (.a' (a==2)))),(30,.aF (.one (.a' (a==2))))] [(5,[aA 90000 5 F,aA 90001 5 G,aA 90002 5 H,aA 90003 4 aj,aA 90004 1 K,aA 90005 1 L,aA 90006 1 C,aA 90007 2 E]),(4,[.v (aO),.v (aO),.v (aO),.v (aO),.v (aO),.v (aO),.v (aO),.v (aO)]),(3,[.J .free 4 A,au b,au c]),(1000000000,[.c' 1000000100 1 M,au d,au e])]
def KP(P:Program)(W:Array Oper)(A L:ae)(g i:Int)(M C E F G H aj K:ae)(a b c d e f:Int):aD:=
 ml P W [[],[],[],[.dg [some [D.J 1 A,I d,I e],none] (aT.vals [af f])],[.own],[],[]] (KO A L g i M C E F G H aj K a b c)
theorem afY{C L:ae}{g i:Int}{M E F G A H aj K:ae}{b c d e f a:Int}
  (h:cA [bT prog 138 [aL.cur [D.J 1 C,I b,I c] [D.J 1 C,I e,I f],aL.ro (af 4)] (aT.vals [af a]),(0:Int)<=none.getD 0,none.getD 0<=(some a).getD (A.length:Int),(some a).getD (A.length:Int)<=(A.length:Int)]):
  dZ prog (cN f277 8) (KO C L g i M E F G A H aj K b c d) (KP prog (cN f277 8) C L g i M E F G A H aj K b c d e f a):=
 .m' [0,0,0,1,3,0,0] h
def D6(A:ae)(a b:Int)(C E F G H aj K L:ae)(c d e f g:Int)(M:ae)(i j:Int)(l:List O):List O:=La A a b C E F G H aj K L c d e f g M i j (.b (e==0) false::.b (e==1) false::l)
theorem afZ(h:ad (D6 A j k L E F G C H aj K b c a l m M d e [.b (a==2) true,.a (.hK (KP prog (cN f277 8) A M d e L E F G C H aj K b c a f g i)),.p (dZ prog (cN f277 8) (KO A M d e L E F G C H aj K b c a) (KP prog (cN f277 8) A M d e L E F G C H aj K b c a f g i))])):
 bY 277 [aL.cur [D.J 1 A,I l,I m] [D.J 1 A,I f,I g],aL.ro (.agg (bk M d e))] (aT.vals [.agg [D.J 5 L,D.J 5 E,D.J 5 F,D.J 4 G,D.J 1 (List.take (((some i).getD (C.length:Int)).toNat-0) (List.drop 0 C)),D.J 1 H,D.J 1 aj,D.J 2 K]]):=
 h.b1
def Ro(M A:ae)(b c:Int)(F G H aj K L C E:ae)(d e a:Int):aD:=bd 80 [(0,aQ 1000000000),(1,aE.aF (bm.agg [.J .free 4 A,au b,au c])),(3,aQ 3),(4,aQ 4),(5,aQ 5),(6,aQ 1000000000),(7,aE.aF (bm.agg [.J .free 4 A,au b,au c])),(8,aE.aF (bm.agg [aA 90000 5 F,aA 90001 5 G,aA 90002 5 H,aA 90003 4 aj,aA 90004 1 K,aA 90005 1 L,aA 90006 1 C,aA 90007 2 E])),(9,aQ 1000000000),(10,aW a),(11,.aF (.one (.a' (a==0)))),(12,.aF (.one (.a' (a==0)))),(20,.aF (.one (.a' (a==1)))),(21,.aF (.one (.a' (a==1)))),(29,.aF (.one (.a' (a==2)))),(30,.aF (.one (.a' (a==2)))),(37,.aF (.one (.a' (a==3)))),(38,.aF (.one (.a' (a==3))))] [(5,[aA 90000 5 F,aA 90001 5 G,aA 90002 5 H,aA 90003 4 aj,aA 90004 1 K,aA 90005 1 L,aA 90006 1 C,aA 90007 2 E]),(4,[.v (aO),.v (aO),.v (aO),.v (aO),.v (aO),.v (aO),.v (aO),.v (aO)]),(3,[.J .free 4 A,au b,au c]),(1000000000,[.c' 1000000100 1 M,au d,au e])]
def KQ(M C:ae)(c d:Int)(G H aj K A L E F:ae)(a e f b:Int):aD:=bd 80 [(0,aQ 1000000000),(1,aE.aF (bm.agg [.J .free 4 C,au c,au d])),(3,aQ 3),(4,aQ 4),(5,aQ 5),(6,aQ 1000000000),(7,aE.aF (bm.agg [.J .free 4 C,au c,au d])),(8,aE.aF (bm.agg [aA 90000 5 G,aA 90001 5 H,aA 90002 5 aj,aA 90003 4 K,aA 90004 1 (A.set 0 [I b]),aA 90005 1 L,aA 90006 1 E,aA 90007 2 F])),(9,aQ 1000000000),(10,aW a),(11,.aF (.one (.a' (a==0)))),(12,.aF (.one (.a' (a==0)))),(20,.aF (.one (.a' (a==1)))),(21,.aF (.one (.a' (a==1)))),(29,.aF (.one (.a' (a==2)))),(30,.aF (.one (.a' (a==2)))),(37,.aF (.one (.a' (a==3)))),(38,.aF (.one (.a' (a==3)))),(39,.aF (.one (.ptr 5 4))),(40,aE.aF (bm.one (aA 90004 1 (A.set 0 [I b])))),(41,aQ 1000000000),(42,.aF (.one (.J (.own 42) 1 [[I 1000000],[I 1000001],[I (-1000001)]]))),(43,aW b),(44,.aF (.one (.cB (Tag.own 90004) 1 (A.set 0 [I b]) 0 0)))] [(5,[aA 90000 5 G,aA 90001 5 H,aA 90002 5 aj,aA 90003 4 K,aA 90004 1 (A.set 0 [I b]),aA 90005 1 L,aA 90006 1 E,aA 90007 2 F]),(4,[.v (aO),.v (aO),.v (aO),.v (aO),.v (aO),.v (aO),.v (aO),.v (aO)]),(3,[.J .free 4 C,au c,au d]),(1000000000,[.c' 1000000100 1 M,au e,au f])]
theorem af0{A L:ae}{g i:Int}{M E F G C H aj K:ae}{d e f a b c:Int}{d25:D}
  (h:cA [bT prog 140 [aL.cur [D.J 1 A,I d,I e] [D.J 1 A,I a,I b],aL.ro (.one (.J 1 [[I 1000000],[I 1000001],[I (-1000001)]]))] (aT.vals [af c]),(0:Int)<=0,0<(C.length:Int),C[0]?=some [d25]]):
  dZ prog (cN f277 10) (Ro A L g i M E F G C H aj K d e f) (KQ A L g i M E F G C H aj K f a b c):=
 .of [[],[],[],[],[.dg [some [D.J 1 A,I a,I b],none] (aT.vals [af c])],[],[.el [d25]]] [[],[],[],[],[bT prog 140 [aL.cur [D.J 1 A,I d,I e] [D.J 1 A,I a,I b],aL.ro (.one (.J 1 [[I 1000000],[I 1000001],[I (-1000001)]]))] (aT.vals [af c])],[(0:Int)<=0,0<(C.length:Int)],[C[0]?=some [d25]]] (by kernel_rfl) (by kernel_rfl) (by kernel_rfl) h
theorem af1(h:ad (D6 A j k L C E F G H aj K d e a l m M b c [.b (a==2) false,.b (a==3) true,.a (.hK (KQ A M b c L C E F G H aj K a f g i)),.p (dZ prog (cN f277 10) (Ro A M b c L C E F G H aj K d e a) (KQ A M b c L C E F G H aj K a f g i))])):
 bY 277 [aL.cur [D.J 1 A,I l,I m] [D.J 1 A,I f,I g],aL.ro (.agg (bk M b c))] (aT.vals [.agg (ba L C E F (G.set 0 [I i]) H aj K)]):=
 h.b1
def KR(M A:ae)(b c:Int)(F G H aj K L C E:ae)(d e a:Int):aD:=bd 80 [(0,aQ 1000000000),(1,aE.aF (bm.agg [.J .free 4 A,au b,au c])),(3,aQ 3),(4,aQ 4),(5,aQ 5),(6,aQ 1000000000),(7,aE.aF (bm.agg [.J .free 4 A,au b,au c])),(8,aE.aF (bm.agg [aA 90000 5 F,aA 90001 5 G,aA 90002 5 H,aA 90003 4 aj,aA 90004 1 K,aA 90005 1 L,aA 90006 1 C,aA 90007 2 E])),(9,aQ 1000000000),(10,aW a),(11,.aF (.one (.a' (a==0)))),(12,.aF (.one (.a' (a==0)))),(20,.aF (.one (.a' (a==1)))),(21,.aF (.one (.a' (a==1)))),(29,.aF (.one (.a' (a==2)))),(30,.aF (.one (.a' (a==2)))),(37,.aF (.one (.a' (a==3)))),(38,.aF (.one (.a' (a==3)))),(45,.aF (.one (.a' (a==4)))),(46,.aF (.one (.a' (a==4))))] [(5,[aA 90000 5 F,aA 90001 5 G,aA 90002 5 H,aA 90003 4 aj,aA 90004 1 K,aA 90005 1 L,aA 90006 1 C,aA 90007 2 E]),(4,[.v (aO),.v (aO),.v (aO),.v (aO),.v (aO),.v (aO),.v (aO),.v (aO)]),(3,[.J .free 4 A,au b,au c]),(1000000000,[.c' 1000000100 1 M,au d,au e])]
def KS(P:Program)(W:Array Oper)(A L:ae)(g i:Int)(M C E F G H aj K:ae)(a b c d e f:Int):aD:=
 ml P W [[],[],[],[.dg [some [D.J 1 A,I d,I e],none] (aT.vals [af f])],[],[],[],[],[],[]] (KR A L g i M C E F G H aj K a b c)
theorem af2{A L:ae}{g i:Int}{M E F G H aj K C:ae}{b c d e f a:Int}
  (h:cA [bT prog 138 [aL.cur [D.J 1 A,I b,I c] [D.J 1 A,I e,I f],aL.ro (af 6)] (aT.vals [af a]),aI .i64 (a-1),(C.length+[[I (a-1),B false]].length)*16<=140737488355328,C.length+[[I (a-1),B false]].length<=9223372036854775807,Flat [[I (a-1),B false]]]):
  dZ prog (cN f277 12) (KR A L g i M E F G H aj K C b c d) (KS prog (cN f277 12) A L g i M E F G H aj K C b c d e f a):=
 .m' [0,0,0,1,1,0,0,3,0,0] h
theorem af3(h:ad (D6 A j k L C E F G H aj K b c a l m M d e [.b (a==2) false,.b (a==3) false,.b (a==4) true,.a (.hK (KS prog (cN f277 12) A M d e L C E F G H aj K b c a f g i)),.p (dZ prog (cN f277 12) (KR A M d e L C E F G H aj K b c a) (KS prog (cN f277 12) A M d e L C E F G H aj K b c a f g i))])):
 bY 277 [aL.cur [D.J 1 A,I l,I m] [D.J 1 A,I f,I g],aL.ro (.agg (bk M d e))] (aT.vals [.agg (ba L C E F G H aj (K++[[I (i-1),B false]]))]):=
 h.b1
def Eb(A:ae)(a b:Int)(C E F G H aj K L:ae)(c d e f g:Int)(M:ae)(i j:Int)(l:List O):List O:=D6 A a b C E F G H aj K L c d e f g M i j (.b (e==2) false::.b (e==3) false::.b (e==4) false::l)
theorem af4(h:ad (Eb A g i K C E F G H aj L b c a j k M l m [.b (a==5) true,.w A d e f,.k A 138 b c d e 2 f])):
 bY 277 [aL.cur [D.J 1 A,I j,I k] [D.J 1 A,I d,I e],aL.ro (.agg (bk M l m))] (aT.vals [.agg [D.J 5 K,D.J 5 C,D.J 5 E,D.J 4 F,D.J 1 G,D.J 1 H,D.J 1 aj,D.J 2 [[I 1,B false],[I f,B true]]]]):=
 h.b1
theorem af5(h:ad (Eb A d e L E F G H C aj K b c a f g M i j [.b (a==5) false,.b (a==6) true,.g C [[B true]] 1,.h [[B true]]])):
 bY 277 [aL.cur [D.J 1 A,I f,I g] [D.J 1 A,I b,I c],aL.ro (.agg (bk M i j))] (aT.vals [.agg (ba L E F G H (C++[[B true]]) aj K)]):=
 h.b1
theorem af6(h:ad (Eb A d e L E F C G H aj K b c a f g M i j [.b (a==5) false,.b (a==6) false,.b (a==7) true,.g C [[I 0,I 0,I 0,I 0]] 32,.h [[I 0,I 0,I 0,I 0]]])):
 bY 277 [aL.cur [D.J 1 A,I f,I g] [D.J 1 A,I b,I c],aL.ro (.agg (bk M i j))] (aT.vals [.agg (ba L E F (C++[[I 0,I 0,I 0,I 0]]) G H aj K)]):=
 h.b1
theorem af7(h:ad (Eb A d e L C E F G H aj K b c a f g M i j [.b (a==5) false,.b (a==6) false,.b (a==7) false])):
 bY 277 [aL.cur [D.J 1 A,I f,I g] [D.J 1 A,I b,I c],aL.ro (.agg (bk M i j))] (aT.vals [.agg (ba L C E F G H aj K)]):=
 h.b1
def DG(H aj:ae)(c d e f:Int)(K G:ae)(a b:Int)(A C E F:ae)(q:Bool):aD:=bd 30 [(0,aQ 1000000000),(2,aQ 2),(3,aQ 3),(4,.aF (.one (.a' q))),(5,aE.fv [bm.agg [aA 110000 4 G,au a,au b,aA 110003 8 A,aA 110004 6 C,aA 110005 5 E,aA 110006 3 F],bm.one (az.a' q)]),(6,aQ 1000000000),(7,aE.aF (bm.agg [aA 80000 4 aj,au c,au d])),(8,aQ 1000000000),(9,aE.aF (bm.one (aA 100000 5 K))),(10,aE.fv [bm.agg [aA 110000 4 G,au a,au b,aA 110003 8 A,aA 110004 6 C,aA 110005 5 E,aA 110006 3 F],bm.one (az.a' q)]),(11,aE.aF (bm.agg [aA 110000 4 G,au a,au b,aA 110003 8 A,aA 110004 6 C,aA 110005 5 E,aA 110006 3 F])),(12,.aF (.one (.a' q)))] [(3,[aA 110000 4 G,au a,au b,aA 110003 8 A,aA 110004 6 C,aA 110005 5 E,aA 110006 3 F]),(2,[.v (aO),au 0,au 0,.v (aO),.v (aO),.v (aO),.v (aO)]),(1000000000,[.c' 1000000100 1 H,au e,au f])]
def zq(P:Program)(W:Array Oper)(A bi:ae)(j k a b:Int)(C E:ae)(c d:Int)(F G H aj:ae)(q:Bool)(e f:Int)(K L:ae)(g i:Int)(M N Q R S:ae):aD:=
 ml P W [[],[],[.dg [some [D.J 1 A,I e,I f],none] (aT.vals [aP 3 K])],[.res [.agg (cl L g i M N Q R),aP 1 S]],[],[],[],[]] (DG A bi j k a b C E c d F G H aj q)
theorem Rp{A bi:ae}{j k a b:Int}{K C:ae}{c d:Int}{E F G H:ae}{q:Bool}{e f:Int}{aj L:ae}{g i:Int}{M N Q R S:ae}
  (h:cA [bT prog 120 [aL.cur [D.J 1 A,I a,I b] [D.J 1 A,I e,I f],aL.ro (af 40)] (aT.vals [aP 3 aj]),ar 15 [.agg (cl C c d E F G H),aP 3 aj] [.agg (cl L g i M N Q R),aP 1 S]]):
  dZ prog (cN f166 2) (DG A bi j k a b K C c d E F G H q) (zq prog (cN f166 2) A bi j k a b K C c d E F G H q e f aj L g i M N Q R S):=
 .m' [0,0,1,1,0,0,0,0] h
def KT(Q R:ae)(e i:Int)(bi K:ae)(c d:Int)(L M A C:ae)(q:Bool)(S E:ae)(a b:Int)(F G H aj N:ae)(f g:Int)(r:Bool):aD:=bd 30 [(0,aQ 1000000000),(2,aQ 2),(3,aQ 3),(4,.aF (.one (.a' q))),(5,aE.fv [bm.agg [aA 110000 4 K,au c,au d,aA 110003 8 L,aA 110004 6 M,aA 110005 5 A,aA 110006 3 C],bm.one (az.a' q)]),(6,aQ 1000000000),(7,aE.aF (bm.agg [aA 80000 4 R,au e,au i])),(8,aQ 1000000000),(9,aE.aF (bm.one (aA 100000 5 bi))),(10,aE.fv [bm.agg [aA 110000 4 K,au c,au d,aA 110003 8 L,aA 110004 6 M,aA 110005 5 A,aA 110006 3 C],bm.one (az.a' q)]),(11,aE.aF (bm.agg [aA 110000 4 K,au c,au d,aA 110003 8 L,aA 110004 6 M,aA 110005 5 A,aA 110006 3 C])),(12,.aF (.one (.a' q))),(13,aE.fv [bm.agg [aA 180000 4 E,au a,au b,aA 180003 8 F,aA 180004 6 G,aA 180005 5 H,aA 180006 3 aj],bm.one (aA 180100 1 N)]),(14,aE.aF (bm.agg [aA 110000 4 K,au c,au d,aA 110003 8 L,aA 110004 6 M,aA 110005 5 A,aA 110006 3 C])),(15,aQ 1000000000),(16,aE.aF (bm.one (aA 170000 3 S))),(17,aE.fv [bm.agg [aA 180000 4 E,au a,au b,aA 180003 8 F,aA 180004 6 G,aA 180005 5 H,aA 180006 3 aj],bm.one (aA 180100 1 N)]),(18,aE.aF (bm.agg [aA 180000 4 E,au a,au b,aA 180003 8 F,aA 180004 6 G,aA 180005 5 H,aA 180006 3 aj])),(19,aE.aF (bm.one (aA 180100 1 N))),(20,aQ 1000000000),(21,.aF (.one (.a' r)))] [(3,[aA 180000 4 E,au a,au b,aA 180003 8 F,aA 180004 6 G,aA 180005 5 H,aA 180006 3 aj]),(2,[.v (aO),au 0,au 0,.v (aO),.v (aO),.v (aO),.v (aO)]),(1000000000,[.c' 1000000100 1 Q,au f,au g])]
def KU(P:Program)(W:Array Oper)(A eg:ae)(n o:Int)(C E:ae)(a b:Int)(F G H aj:ae)(q:Bool)(K L:ae)(c d:Int)(M N Q R S:ae)(e f:Int)(r:Bool)(g i j:Int)(bi:ae)(k l:Int)(V X Y Z:ae)(m:Int):aD:=
 ml P W [[],[],[.dg [some [D.J 1 A,I g,I i],none] (aT.vals [af j])],[.res [.agg (cl bi k l V X Y Z),af m]],[],[],[],[]] (KT A eg n o C E a b F G H aj q K L c d M N Q R S e f r)
theorem af8{A eg:ae}{n o:Int}{aj K:ae}{f g:Int}{L M N Q:ae}{q:Bool}{R C:ae}{a b:Int}{E F G H S:ae}{c d:Int}{r:Bool}{i j e:Int}{bi:ae}{k l:Int}{V X Y Z:ae}{m:Int}
  (h:cA [bT prog 138 [aL.cur [D.J 1 A,I c,I d] [D.J 1 A,I i,I j],aL.ro (af 12)] (aT.vals [af e]),ar 16 [.agg (cl C a b E F G H),af e] [.agg (cl bi k l V X Y Z),af m]]):
  dZ prog (cN f166 4) (KT A eg n o aj K f g L M N Q q R C a b E F G H S c d r) (KU prog (cN f166 4) A eg n o aj K f g L M N Q q R C a b E F G H S c d r i j e bi k l V X Y Z m):=
 .m' [0,0,1,1,0,0,0,0] h
def T1(A:ae)(a b:Int)(C:ae)(c d e f:Int)(E:ae)(g i:Int)(F:ae)(j k:Int)(G H aj K:ae)(q:Bool)(l:List O):List O:=.a (.dg [some [D.J 1 A,I a,I b]] (aT.vals [.agg (bk C c d)]))::.a (.dg [some [D.J 1 A,I e,I f]] (aT.vals [aP 5 E]))::.p (bT prog 118 [aL.cur [D.J 1 A,I g,I i] [D.J 1 A,I a,I b]] (aT.vals [.agg (bk C c d)]))::.p (bT prog 119 [aL.cur [D.J 1 A,I a,I b] [D.J 1 A,I e,I f]] (aT.vals [aP 5 E]))::.r 14 [.agg (bk C c d),aP 5 E] [.agg (cl F j k G H aj K),ag q]::l
theorem af9(h:ad (T1 A p dk E a b e f C d0 bB F c d G H aj K q [.a (.hK (zq prog (cN f166 2) A E a b e f C F c d G H aj K q l m L M g i N Q R S bi)),.y A j k r,.p (dZ prog (cN f166 2) (DG A E a b e f C F c d G H aj K q) (zq prog (cN f166 2) A E a b e f C F c d G H aj K q l m L M g i N Q R S bi)),.m A 136 l m j k 4 r,.b r true,.a (.hK (KU prog (cN f166 4) A E a b C F c d G H aj K q L M g i N Q R S bi j k r n o f0 V a0 cc X Y Z eg i0)),.p (dZ prog (cN f166 4) (KT A E a b C F c d G H aj K q L M g i N Q R S bi j k r) (KU prog (cN f166 4) A E a b C F c d G H aj K q L M g i N Q R S bi j k r n o f0 V a0 cc X Y Z eg i0))])):
 bY 166 [aL.cur [D.J 1 A,I d0,I bB] [D.J 1 A,I n,I o]] (aT.vals [.agg (cl V a0 cc X Y Z eg)]):=
 h.b1
theorem aga(h:ad (T1 A n o E a b c d C p a0 F e f G H aj K q [.a (.hK (zq prog (cN f166 2) A E a b c d C F e f G H aj K q g i S L j k M N Q R bi)),.y A l m r,.p (dZ prog (cN f166 2) (DG A E a b c d C F e f G H aj K q) (zq prog (cN f166 2) A E a b c d C F e f G H aj K q g i S L j k M N Q R bi)),.m A 136 g i l m 4 r,.b r false])):
 bY 166 [aL.cur [D.J 1 A,I p,I a0] [D.J 1 A,I l,I m]] (aT.vals [.agg (cl L j k M N Q R)]):=
 h.b1
def Rq(H C:ae)(b c:Int)(A E F G:ae)(d f e a:Int):aD:=bd 82 [(0,aQ 1000000000),(2,aQ 2),(3,aQ 3),(4,aW d),(5,aQ 1000000000),(6,aE.aF (bm.agg [aA 70000 4 C,au b,au c,aA 70003 8 A,aA 70004 6 E,aA 70005 5 F,aA 70006 3 G])),(7,aQ 1000000000),(8,.aF (.one (.ptr 3 3))),(9,aE.aF (bm.one (aA 70003 8 A))),(10,aW (A.length:Int)),(11,aW d),(12,aQ 1000000000),(13,aW a),(14,.aF (.one (.a' (a==0)))),(15,.aF (.one (.a' (a==0))))] [(3,[aA 70000 4 C,au b,au c,aA 70003 8 A,aA 70004 6 E,aA 70005 5 F,aA 70006 3 G]),(2,[.v (aO),au 0,au 0,.v (aO),.v (aO),.v (aO),.v (aO)]),(1000000000,[.c' 1000000100 1 H,au f,au e])]
def KV(S M:ae)(b c:Int)(A N Q R:ae)(a d e f:Int)(C E F G H aj K L:ae):aD:=bd 82 [(0,aQ 1000000000),(2,aQ 2),(3,aQ 3),(4,aW a),(5,aQ 1000000000),(6,aE.aF (bm.agg [aA 70000 4 M,au b,au c,aA 70003 8 (A.set a.toNat (ba C E F G H aj K L)),aA 70004 6 N,aA 70005 5 Q,aA 70006 3 R])),(7,aQ 1000000000),(8,.aF (.one (.ptr 3 3))),(9,aE.aF (bm.one (aA 70003 8 (A.set a.toNat (ba C E F G H aj K L))))),(10,aW (A.length:Int)),(11,aW a),(12,aQ 1000000000),(13,aW d),(14,.aF (.one (.a' (d==0)))),(15,.aF (.one (.a' (d==0)))),(16,.aF (.one (.ptr 3 3))),(17,aE.aF (bm.one (aA 70003 8 (A.set a.toNat (ba C E F G H aj K L))))),(18,aW a),(19,aQ 1000000000),(20,aQ 3),(21,aE.aF (bm.agg [aA 70000 4 M,au b,au c])),(22,aE.aF (bm.agg [.cj,.cj,.cj,.cj,.cj,.cj,.cj,.cj])),(23,.aF (.one (.cB (Tag.own 70003) 8 (A.set a.toNat (ba C E F G H aj K L)) a.toNat 0)))] [(3,[aA 70000 4 M,au b,au c,aA 70003 8 (A.set a.toNat (ba C E F G H aj K L)),aA 70004 6 N,aA 70005 5 Q,aA 70006 3 R]),(2,[.v (aO),au 0,au 0,.v (aO),.v (aO),.v (aO),.v (aO)]),(1000000000,[.c' 1000000100 1 S,au e,au f])]
theorem agb{A N:ae}{d e:Int}{C Q R S:ae}{a f g i b c:Int}{E F G H aj K L M:ae}{d32 d33 d34 d35 d36 d37 d38 d39:D}
  (h:cA [bT prog 277 [aL.cur [D.J 1 A,I f,I g] [D.J 1 A,I b,I c],aL.ro (.agg (bk N d e))] (aT.vals [.agg (ba E F G H aj K L M)]),0<=a,a<(C.length:Int),C[a.toNat]?=some [d32,d33,d34,d35,d36,d37,d38,d39]]):
  dZ prog (cN f185 5) (Rq A N d e C Q R S a f g i) (KV A N d e C Q R S a i b c E F G H aj K L M):=
 .of [[],[],[],[],[],[],[.dg [some [D.J 1 A,I b,I c],none] (aT.vals [.agg (ba E F G H aj K L M)])],[],[.el [d32,d33,d34,d35,d36,d37,d38,d39]]] [[],[],[],[],[],[],[bT prog 277 [aL.cur [D.J 1 A,I f,I g] [D.J 1 A,I b,I c],aL.ro (.agg (bk N d e))] (aT.vals [.agg (ba E F G H aj K L M)])],[0<=a,a<(C.length:Int)],[C[a.toNat]?=some [d32,d33,d34,d35,d36,d37,d38,d39]]] (by kernel_rfl) (by kernel_rfl) (by kernel_rfl) h
def Lf(A:ae)(a b:Int)(C:ae)(c d:Int)(E F G H:ae)(e f g i j k m n:Int)(l:List O):List O:=.a (.dg [some [D.J 1 A,I a,I b]] (aT.vals [.agg (cl C c d E F G H)]))::.w A e f g::.w A i j k::.p (bT prog 166 [aL.cur [D.J 1 A,I m,I n] [D.J 1 A,I a,I b]] (aT.vals [.agg (cl C c d E F G H)]))::.k A 138 a b e f (E.length:Int) g::.k A 138 e f i j 20 k::l
theorem agc(h:ad (Lf A l m H c d C E F G e f a g i b n o [.b (b==0) true,.a (.hK (KV A H c d C E F G a b j k aj K L M N Q R S)),.p (dZ prog (cN f185 5) (Rq A H c d C E F G a g i b) (KV A H c d C E F G a b j k aj K L M N Q R S))])):
 bY 185 [aL.cur [D.J 1 A,I n,I o] [D.J 1 A,I j,I k]] (aT.vals [.agg (cl H c d (C.set a.toNat (ba aj K L M N Q R S)) E F G)]):=
 h.b1
def Rr(H C:ae)(b c:Int)(A E F G:ae)(d f e a:Int):aD:=bd 82 [(0,aQ 1000000000),(2,aQ 2),(3,aQ 3),(4,aW d),(5,aQ 1000000000),(6,aE.aF (bm.agg [aA 70000 4 C,au b,au c,aA 70003 8 A,aA 70004 6 E,aA 70005 5 F,aA 70006 3 G])),(7,aQ 1000000000),(8,.aF (.one (.ptr 3 3))),(9,aE.aF (bm.one (aA 70003 8 A))),(10,aW (A.length:Int)),(11,aW d),(12,aQ 1000000000),(13,aW a),(14,.aF (.one (.a' (a==0)))),(15,.aF (.one (.a' (a==0)))),(24,.aF (.one (.a' (a==1)))),(25,.aF (.one (.a' (a==1))))] [(3,[aA 70000 4 C,au b,au c,aA 70003 8 A,aA 70004 6 E,aA 70005 5 F,aA 70006 3 G]),(2,[.v (aO),au 0,au 0,.v (aO),.v (aO),.v (aO),.v (aO)]),(1000000000,[.c' 1000000100 1 H,au f,au e])]
def KW(aj F:ae)(i j:Int)(E A G H:ae)(k g a l m b:Int)(C:ae)(c d e f:Int):aD:=bd 82 [(0,aQ 1000000000),(2,aQ 2),(3,aQ 3),(4,aW k),(5,aQ 1000000000),(6,aE.aF (bm.agg [aA 70000 4 F,au i,au j,aA 70003 8 E,aA 70004 6 (A.set a.toNat (cd b C c d e f)),aA 70005 5 G,aA 70006 3 H])),(7,aQ 1000000000),(8,.aF (.one (.ptr 3 3))),(9,aE.aF (bm.one (aA 70003 8 E))),(10,aW (E.length:Int)),(11,aW k),(12,aQ 1000000000),(13,aW g),(14,.aF (.one (.a' (g==0)))),(15,.aF (.one (.a' (g==0)))),(24,.aF (.one (.a' (g==1)))),(25,.aF (.one (.a' (g==1)))),(26,.aF (.one (.ptr 3 4))),(27,aE.aF (bm.one (aA 70004 6 (A.set a.toNat (cd b C c d e f))))),(28,aQ 1000000000),(29,.aF (.one (.ptr 3 4))),(30,aE.aF (bm.one (aA 70004 6 (A.set a.toNat (cd b C c d e f))))),(31,aW (A.length:Int)),(32,aW a),(33,aQ 1000000000),(34,aE.aF (bm.agg [au b,.cj,au c,au d,au e,au f])),(35,.aF (.one (.cB (Tag.own 70004) 6 (A.set a.toNat (cd b C c d e f)) a.toNat 0)))] [(3,[aA 70000 4 F,au i,au j,aA 70003 8 E,aA 70004 6 (A.set a.toNat (cd b C c d e f)),aA 70005 5 G,aA 70006 3 H]),(2,[.v (aO),au 0,au 0,.v (aO),.v (aO),.v (aO),.v (aO)]),(1000000000,[.c' 1000000100 1 aj,au l,au m])]
theorem agd{A H:ae}{p a0:Int}{aj C F G:ae}{n l m o b c a d e f:Int}{E:ae}{g i j k:Int}{d34 d35 d36 d37 d38 d39:D}
  (h:cA [bT prog 138 [aL.cur [D.J 1 A,I l,I m] [D.J 1 A,I b,I c],aL.ro (af (C.length:Int))] (aT.vals [af a]),bT prog 278 [aL.cur [D.J 1 A,I b,I c] [D.J 1 A,I d,I e]] (aT.vals [.agg (cd f E g i j k)]),0<=a,a<(C.length:Int),C[a.toNat]?=some [d34,d35,d36,d37,d38,d39]]):
  dZ prog (cN f185 7) (Rr A H p a0 aj C F G n l m o) (KW A H p a0 aj C F G n o a d e f E g i j k):=
 .of [[],[],[],[],[],[],[.dg [some [D.J 1 A,I b,I c],none] (aT.vals [af a])],[],[.dg [some [D.J 1 A,I d,I e]] (aT.vals [.agg (cd f E g i j k)])],[],[.el [d34,d35,d36,d37,d38,d39]]] [[],[],[],[],[],[],[bT prog 138 [aL.cur [D.J 1 A,I l,I m] [D.J 1 A,I b,I c],aL.ro (af (C.length:Int))] (aT.vals [af a])],[],[bT prog 278 [aL.cur [D.J 1 A,I b,I c] [D.J 1 A,I d,I e]] (aT.vals [.agg (cd f E g i j k)])],[0<=a,a<(C.length:Int)],[C[a.toNat]?=some [d34,d35,d36,d37,d38,d39]]] (by kernel_rfl) (by kernel_rfl) (by kernel_rfl) h
theorem age(h:ad (Lf A cc dk H b c C E F G e f d g i a d0 bB [.b (a==0) false,.b (a==1) true,.a (.hK (KW A H b c C E F G d a j k l m aj n o p a0)),.p (dZ prog (cN f185 7) (Rr A H b c C E F G d g i a) (KW A H b c C E F G d a j k l m aj n o p a0))])):
 bY 185 [aL.cur [D.J 1 A,I d0,I bB] [D.J 1 A,I k,I l]] (aT.vals [.agg (cl H b c C (E.set j.toNat (cd m aj n o p a0)) F G)]):=
 h.b1
def SU(H C:ae)(b c:Int)(A E F G:ae)(d f e a:Int):aD:=bd 82 [(0,aQ 1000000000),(2,aQ 2),(3,aQ 3),(4,aW d),(5,aQ 1000000000),(6,aE.aF (bm.agg [aA 70000 4 C,au b,au c,aA 70003 8 A,aA 70004 6 E,aA 70005 5 F,aA 70006 3 G])),(7,aQ 1000000000),(8,.aF (.one (.ptr 3 3))),(9,aE.aF (bm.one (aA 70003 8 A))),(10,aW (A.length:Int)),(11,aW d),(12,aQ 1000000000),(13,aW a),(14,.aF (.one (.a' (a==0)))),(15,.aF (.one (.a' (a==0)))),(24,.aF (.one (.a' (a==1)))),(25,.aF (.one (.a' (a==1)))),(36,.aF (.one (.a' (a==2)))),(37,.aF (.one (.a' (a==2))))] [(3,[aA 70000 4 C,au b,au c,aA 70003 8 A,aA 70004 6 E,aA 70005 5 F,aA 70006 3 G]),(2,[.v (aO),au 0,au 0,.v (aO),.v (aO),.v (aO),.v (aO)]),(1000000000,[.c' 1000000100 1 H,au f,au e])]
def KX(H E:ae)(d e:Int)(C F A G:ae)(f c a g i b:Int)(d14 d15 d16 d17:D):aD:=bd 82 [(0,aQ 1000000000),(2,aQ 2),(3,aQ 3),(4,aW f),(5,aQ 1000000000),(6,aE.aF (bm.agg [aA 70000 4 E,au d,au e,aA 70003 8 C,aA 70004 6 F,aA 70005 5 (A.set a.toNat [d14,I (b-1),d15,d16,d17]),aA 70006 3 G])),(7,aQ 1000000000),(8,.aF (.one (.ptr 3 3))),(9,aE.aF (bm.one (aA 70003 8 C))),(10,aW (C.length:Int)),(11,aW f),(12,aQ 1000000000),(13,aW c),(14,.aF (.one (.a' (c==0)))),(15,.aF (.one (.a' (c==0)))),(24,.aF (.one (.a' (c==1)))),(25,.aF (.one (.a' (c==1)))),(36,.aF (.one (.a' (c==2)))),(37,.aF (.one (.a' (c==2)))),(38,.aF (.one (.ptr 3 5))),(39,aE.aF (bm.one (aA 70005 5 (A.set a.toNat [d14,I (b-1),d15,d16,d17])))),(40,aQ 1000000000),(41,aW a),(42,aQ 1000000000),(43,aW b),(44,aW (b-1)),(45,.aF (.one (.cB (Tag.own 70005) 5 (A.set a.toNat [d14,I (b-1),d15,d16,d17]) a.toNat 0))),(46,.aF (.one (.cB (Tag.own 70005) 5 (A.set a.toNat [d14,I (b-1),d15,d16,d17]) a.toNat 1)))] [(3,[aA 70000 4 E,au d,au e,aA 70003 8 C,aA 70004 6 F,aA 70005 5 (A.set a.toNat [d14,I (b-1),d15,d16,d17]),aA 70006 3 G]),(2,[.v (aO),au 0,au 0,.v (aO),.v (aO),.v (aO),.v (aO)]),(1000000000,[.c' 1000000100 1 H,au g,au i])]
theorem agf{A G:ae}{l m:Int}{H E C F:ae}{j g i k c d a e f b:Int}{d29 d30 d31 d32 d33:D}
  (h:cA [bT prog 138 [aL.cur [D.J 1 A,I g,I i] [D.J 1 A,I c,I d],aL.ro (af 4)] (aT.vals [af a]),bT prog 138 [aL.cur [D.J 1 A,I c,I d] [D.J 1 A,I e,I f],aL.ro (af 6)] (aT.vals [af b]),aI .i64 (b-1),0<=a,a<(C.length:Int),C[a.toNat]?=some [d29,d30,d31,d32,d33]]):
  dZ prog (cN f185 9) (SU A G l m H E C F j g i k) (KX A G l m H E C F j k a e f b d29 d31 d32 d33):=
 .of [[],[],[],[.dg [some [D.J 1 A,I c,I d],none] (aT.vals [af a])],[],[.dg [some [D.J 1 A,I e,I f],none] (aT.vals [af b])],[],[],[],[.el [d29,d30,d31,d32,d33]]] [[],[],[],[bT prog 138 [aL.cur [D.J 1 A,I g,I i] [D.J 1 A,I c,I d],aL.ro (af 4)] (aT.vals [af a])],[],[bT prog 138 [aL.cur [D.J 1 A,I c,I d] [D.J 1 A,I e,I f],aL.ro (af 6)] (aT.vals [af b])],[aI .i64 (b-1)],[0<=a,a<(C.length:Int)],[],[C[a.toNat]?=some [d29,d30,d31,d32,d33]]] (by kernel_rfl) (by kernel_rfl) (by kernel_rfl) h
def xo(A:ae)(a b:Int)(C:ae)(c d:Int)(E F G H:ae)(e f g i j k m n:Int)(l:List O):List O:=Lf A a b C c d E F G H e f g i j k m n (.b (k==0) false::.b (k==1) false::l)
theorem agh{A:ae}{p a0 n o:Int}{H:ae}{b c:Int}{C E F G:ae}{e f d g i a j k l m:Int}{d29 d31 d32 d33:D}(h:ad (xo A n o H b c C E F G e f d g i a p a0 [.b (a==2) true,.a (.hK (KX A H b c C E F G d a j k l m d29 d31 d32 d33)),.p (dZ prog (cN f185 9) (SU A H b c C E F G d g i a) (KX A H b c C E F G d a j k l m d29 d31 d32 d33))])):
 bY 185 [aL.cur [D.J 1 A,I p,I a0] [D.J 1 A,I k,I l]] (aT.vals [.agg (cl H b c C E (F.set j.toNat [d29,I (m-1),d31,d32,d33]) G)]):=
 h.b1
def SV(H C:ae)(b c:Int)(A E F G:ae)(d f e a:Int):aD:=bd 82 [(0,aQ 1000000000),(2,aQ 2),(3,aQ 3),(4,aW d),(5,aQ 1000000000),(6,aE.aF (bm.agg [aA 70000 4 C,au b,au c,aA 70003 8 A,aA 70004 6 E,aA 70005 5 F,aA 70006 3 G])),(7,aQ 1000000000),(8,.aF (.one (.ptr 3 3))),(9,aE.aF (bm.one (aA 70003 8 A))),(10,aW (A.length:Int)),(11,aW d),(12,aQ 1000000000),(13,aW a),(14,.aF (.one (.a' (a==0)))),(15,.aF (.one (.a' (a==0)))),(24,.aF (.one (.a' (a==1)))),(25,.aF (.one (.a' (a==1)))),(36,.aF (.one (.a' (a==2)))),(37,.aF (.one (.a' (a==2)))),(47,.aF (.one (.a' (a==3)))),(48,.aF (.one (.a' (a==3))))] [(3,[aA 70000 4 C,au b,au c,aA 70003 8 A,aA 70004 6 E,aA 70005 5 F,aA 70006 3 G]),(2,[.v (aO),au 0,au 0,.v (aO),.v (aO),.v (aO),.v (aO)]),(1000000000,[.c' 1000000100 1 H,au f,au e])]
def KY(H E:ae)(c d:Int)(C F A G:ae)(e a f g b:Int)(d13 d14 d15 d16:D):aD:=bd 82 [(0,aQ 1000000000),(2,aQ 2),(3,aQ 3),(4,aW e),(5,aQ 1000000000),(6,aE.aF (bm.agg [aA 70000 4 E,au c,au d,aA 70003 8 C,aA 70004 6 F,aA 70005 5 (A.set 0 [d13,d14,I b,d15,d16]),aA 70006 3 G])),(7,aQ 1000000000),(8,.aF (.one (.ptr 3 3))),(9,aE.aF (bm.one (aA 70003 8 C))),(10,aW (C.length:Int)),(11,aW e),(12,aQ 1000000000),(13,aW a),(14,.aF (.one (.a' (a==0)))),(15,.aF (.one (.a' (a==0)))),(24,.aF (.one (.a' (a==1)))),(25,.aF (.one (.a' (a==1)))),(36,.aF (.one (.a' (a==2)))),(37,.aF (.one (.a' (a==2)))),(47,.aF (.one (.a' (a==3)))),(48,.aF (.one (.a' (a==3)))),(49,.aF (.one (.ptr 3 5))),(50,aE.aF (bm.one (aA 70005 5 (A.set 0 [d13,d14,I b,d15,d16])))),(51,aQ 1000000000),(52,.aF (.one (.J (.own 52) 1 [[I 1000000],[I 1000001],[I (-1000001)],[I 3]]))),(53,aW b),(54,.aF (.one (.cB (Tag.own 70005) 5 (A.set 0 [d13,d14,I b,d15,d16]) 0 0))),(55,.aF (.one (.cB (Tag.own 70005) 5 (A.set 0 [d13,d14,I b,d15,d16]) 0 2)))] [(3,[aA 70000 4 E,au c,au d,aA 70003 8 C,aA 70004 6 F,aA 70005 5 (A.set 0 [d13,d14,I b,d15,d16]),aA 70006 3 G]),(2,[.v (aO),au 0,au 0,.v (aO),.v (aO),.v (aO),.v (aO)]),(1000000000,[.c' 1000000100 1 H,au f,au g])]
theorem agi{A G:ae}{i j:Int}{H E C F:ae}{f d e g a b c:Int}{d25 d26 d27 d28 d29:D}
  (h:cA [bT prog 140 [aL.cur [D.J 1 A,I d,I e] [D.J 1 A,I a,I b],aL.ro (.one (.J 1 [[I 1000000],[I 1000001],[I (-1000001)],[I 3]]))] (aT.vals [af c]),(0:Int)<=0,0<(C.length:Int),C[0]?=some [d25,d26,d27,d28,d29]]):
  dZ prog (cN f185 11) (SV A G i j H E C F f d e g) (KY A G i j H E C F f g a b c d25 d26 d28 d29):=
 .of [[],[],[],[],[.dg [some [D.J 1 A,I a,I b],none] (aT.vals [af c])],[],[],[.el [d25,d26,d27,d28,d29]]] [[],[],[],[],[bT prog 140 [aL.cur [D.J 1 A,I d,I e] [D.J 1 A,I a,I b],aL.ro (.one (.J 1 [[I 1000000],[I 1000001],[I (-1000001)],[I 3]]))] (aT.vals [af c])],[(0:Int)<=0,0<(C.length:Int)],[],[C[0]?=some [d25,d26,d27,d28,d29]]] (by kernel_rfl) (by kernel_rfl) (by kernel_rfl) h
theorem agj{A:ae}{o p m n:Int}{H:ae}{b c:Int}{C E F G:ae}{e f d g i a j k l:Int}{d25 d26 d28 d29:D}(h:ad (xo A m n H b c C E F G e f d g i a o p [.b (a==2) false,.b (a==3) true,.a (.hK (KY A H b c C E F G d a j k l d25 d26 d28 d29)),.p (dZ prog (cN f185 11) (SV A H b c C E F G d g i a) (KY A H b c C E F G d a j k l d25 d26 d28 d29))])):
 bY 185 [aL.cur [D.J 1 A,I o,I p] [D.J 1 A,I j,I k]] (aT.vals [.agg (cl H b c C E (F.set 0 [d25,d26,I l,d28,d29]) G)]):=
 h.b1
def SX(H C:ae)(b c:Int)(A E F G:ae)(d f e a:Int):aD:=bd 82 [(0,aQ 1000000000),(2,aQ 2),(3,aQ 3),(4,aW d),(5,aQ 1000000000),(6,aE.aF (bm.agg [aA 70000 4 C,au b,au c,aA 70003 8 A,aA 70004 6 E,aA 70005 5 F,aA 70006 3 G])),(7,aQ 1000000000),(8,.aF (.one (.ptr 3 3))),(9,aE.aF (bm.one (aA 70003 8 A))),(10,aW (A.length:Int)),(11,aW d),(12,aQ 1000000000),(13,aW a),(14,.aF (.one (.a' (a==0)))),(15,.aF (.one (.a' (a==0)))),(24,.aF (.one (.a' (a==1)))),(25,.aF (.one (.a' (a==1)))),(36,.aF (.one (.a' (a==2)))),(37,.aF (.one (.a' (a==2)))),(47,.aF (.one (.a' (a==3)))),(48,.aF (.one (.a' (a==3)))),(56,.aF (.one (.a' (a==4)))),(57,.aF (.one (.a' (a==4))))] [(3,[aA 70000 4 C,au b,au c,aA 70003 8 A,aA 70004 6 E,aA 70005 5 F,aA 70006 3 G]),(2,[.v (aO),au 0,au 0,.v (aO),.v (aO),.v (aO),.v (aO)]),(1000000000,[.c' 1000000100 1 H,au f,au e])]
def KZ(H E:ae)(d e:Int)(A F G C:ae)(f a b g i c:Int):aD:=bd 82 [(0,aQ 1000000000),(2,aQ 2),(3,aQ 3),(4,aW f),(5,aQ 1000000000),(6,aE.aF (bm.agg [aA 70000 4 E,au d,au e,aA 70003 8 A,aA 70004 6 F,aA 70005 5 G,.J (Tag.ro 70006) 3 C])),(7,aQ 1000000000),(8,.aF (.one (.ptr 3 3))),(9,aE.aF (bm.one (aA 70003 8 A))),(10,aW (A.length:Int)),(11,aW f),(12,aQ 1000000000),(13,aW a),(14,.aF (.one (.a' (a==0)))),(15,.aF (.one (.a' (a==0)))),(24,.aF (.one (.a' (a==1)))),(25,.aF (.one (.a' (a==1)))),(36,.aF (.one (.a' (a==2)))),(37,.aF (.one (.a' (a==2)))),(47,.aF (.one (.a' (a==3)))),(48,.aF (.one (.a' (a==3)))),(56,.aF (.one (.a' (a==4)))),(57,.aF (.one (.a' (a==4)))),(58,.aF (.one (.ptr 3 6))),(59,.aF (.one (.J (Tag.ro 70006) 3 C))),(60,aQ 1000000000),(61,aW b),(62,aW (b-1)),(63,aQ 1000000000),(64,aW c),(65,aW (c-1)),(66,aE.aF (bm.agg [au (b-1),au (c-1),.v (Value.bool false)])),(67,.aF (.one (.J (.own 67) 3 [[I (b-1),I (c-1),B false]]))),(68,aE.aF (bm.one (aA 70006 3 (C++[[I (b-1),I (c-1),B false]])))),(69,.aF (.one (.ptr 3 6)))] [(3,[aA 70000 4 E,au d,au e,aA 70003 8 A,aA 70004 6 F,aA 70005 5 G,aA 70006 3 (C++[[I (b-1),I (c-1),B false]])]),(2,[.v (aO),au 0,au 0,.v (aO),.v (aO),.v (aO),.v (aO)]),(1000000000,[.c' 1000000100 1 H,au g,au i])]
theorem agk{A G:ae}{l m:Int}{H E F C:ae}{j g i k c d a e f b:Int}
  (h:cA [bT prog 138 [aL.cur [D.J 1 A,I g,I i] [D.J 1 A,I c,I d],aL.ro (af 6)] (aT.vals [af a]),aI .i64 (a-1),bT prog 138 [aL.cur [D.J 1 A,I c,I d] [D.J 1 A,I e,I f],aL.ro (af 6)] (aT.vals [af b]),aI .i64 (b-1),(C.length+[[I (a-1),I (b-1),B false]].length)*24<=140737488355328,C.length+[[I (a-1),I (b-1),B false]].length<=9223372036854775807,Flat [[I (a-1),I (b-1),B false]]]):
  dZ prog (cN f185 13) (SX A G l m H E F C j g i k) (KZ A G l m H E F C j k a e f b):=
 .of [[],[],[],[.dg [some [D.J 1 A,I c,I d],none] (aT.vals [af a])],[],[],[.dg [some [D.J 1 A,I e,I f],none] (aT.vals [af b])],[],[],[],[],[],[]] [[],[],[],[bT prog 138 [aL.cur [D.J 1 A,I g,I i] [D.J 1 A,I c,I d],aL.ro (af 6)] (aT.vals [af a])],[aI .i64 (a-1)],[],[bT prog 138 [aL.cur [D.J 1 A,I c,I d] [D.J 1 A,I e,I f],aL.ro (af 6)] (aT.vals [af b])],[aI .i64 (b-1)],[],[],[(C.length+[[I (a-1),I (b-1),B false]].length)*24<=140737488355328,C.length+[[I (a-1),I (b-1),B false]].length<=9223372036854775807,Flat [[I (a-1),I (b-1),B false]]],[],[]] (by kernel_rfl) (by kernel_rfl) (by kernel_rfl) h
theorem agl(h:ad (xo A n o H b c C E F G e f d g i a p a0 [.b (a==2) false,.b (a==3) false,.b (a==4) true,.a (.hK (KZ A H b c C E F G d a j k l m)),.p (dZ prog (cN f185 13) (SX A H b c C E F G d g i a) (KZ A H b c C E F G d a j k l m))])):
 bY 185 [aL.cur [D.J 1 A,I p,I a0] [D.J 1 A,I k,I l]] (aT.vals [.agg (cl H b c C E F (G++[[I (j-1),I (m-1),B false]]))]):=
 h.b1
theorem afv(h:ad (xo A k l aj p a0 C E F G b c n d e a m o [.b (a==2) false,.b (a==3) false,.b (a==4) false,.b (a==5) true,.a (.dg [some [D.J 1 A,I f,I g]] (aT.vals [.agg (bk H i j)])),.p (bT prog 137 [aL.cur [D.J 1 A,I d,I e] [D.J 1 A,I f,I g]] (aT.vals [.agg (bk H i j)]))])):
 bY 185 [aL.cur [D.J 1 A,I m,I o] [D.J 1 A,I f,I g]] (aT.vals [.agg (cl H i j C E F G)]):=
 h.b1
theorem afw(h:ad (xo A f g H i j E F C G b c l d e a k m [.b (a==2) false,.b (a==3) false,.b (a==4) false,.b (a==5) false,.b (a==6) true,.a .own,.p ((0:Int)<=none.getD 0),.p (none.getD 0<=(some (3:Int)).getD (C.length:Int)),.p ((some (3:Int)).getD (C.length:Int)<=(C.length:Int))])):
 bY 185 [aL.cur [D.J 1 A,I k,I m] [D.J 1 A,I d,I e]] (aT.vals [.agg (cl H i j E F (List.take (3-0) (List.drop 0 C)) G)]):=
 h.b1
theorem afx(h:ad (xo A f g H i j C E F G b c l d e a k m [.b (a==2) false,.b (a==3) false,.b (a==4) false,.b (a==5) false,.b (a==6) false])):
 bY 185 [aL.cur [D.J 1 A,I k,I m] [D.J 1 A,I d,I e]] (aT.vals [.agg (cl H i j C E F G)]):=
 h.b1
theorem afy(h:ad [.a (.dg [none] (aT.im [some 0,none,none] [D.J 1 A,I b,I c])),.a (.dg [some [D.J 1 A,I d,I e]] (aT.vals [.agg (cl H f g C E F G)])),.w A i j a,.p (bT prog 117 [aL.ro (aP 1 A)] (aT.im [some 0,none,none] [D.J 1 A,I b,I c])),.p (bT prog 185 [aL.cur [D.J 1 A,I b,I c] [D.J 1 A,I d,I e]] (aT.vals [.agg (cl H f g C E F G)])),.p (bT prog 140 [aL.cur [D.J 1 A,I d,I e] [D.J 1 A,I i,I j],aL.ro (.one (.J 1 [[I 0],[I 0],[I 1],[I 1],[I 2],[I 3],[I (-1)],[I 9223372036854775807]]))] (aT.vals [af a]))]):
 ar 143 [aP 1 A] [.agg (cl H f g C E F G),af a]:=
 h.of
theorem afz(h:ad [.r 143 [aP 1 A] [.agg (cl C a b E F G H),af c]]):
 ar 43 [aP 1 A] [.agg (cl C a b E F G H),af c]:=
 h.of
