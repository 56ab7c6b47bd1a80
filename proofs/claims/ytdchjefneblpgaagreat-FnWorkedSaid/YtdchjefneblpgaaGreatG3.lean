import Derived.Test.YtdchjefneblpgaaGreatGE
namespace Go.Proofs.YtdchjefneblpgaaGreat
open Go.Sx Go.RowKit Go.Proofs.Tryz
variable {a b c d e f g i j k l m n o p a0 eO cg gV dx d0 bE f0 i0 j0 da fx m0 s4 Cz kx : Int} {A C E F G H ao K L M N Q R S bm V X Y Z ew : ae} {q r : Bool}
def tL(A:ae)(a c d e:Int)(C:ae)(f g i j b:Int):aI:=bg 55 [(0,aQ 1000000000),(2,aQ 2),(3,aQ 3),(4,aY a)] [(3,[ax c,ax d,ax e,aC 52 1 C]),(2,[ax f,ax g,ax i,.v (aO)]),(1000000000,[.de 1000000100 1 A,ax j,ax b])]
def Tm(A:ae)(a d e f:Int)(C:ae)(g i j k c b:Int):aI:=bg 55 [(0,aQ 1000000000),(2,aQ 2),(3,aQ 3),(4,aY a),(37,aY a),(38,aQ 1000000000),(39,aY b),(40,.aK (.one (.ba (decide (a<b)))))] [(3,[ax d,ax e,ax f,aC 52 1 C]),(2,[ax g,ax i,ax j,.v (aO)]),(1000000000,[.de 1000000100 1 A,ax k,ax c])]
def K5(C:ae)(a f g i:Int)(A:ae)(j k l c d e b:Int):aI:=bg 55 [(0,aQ 1000000000),(2,aQ 2),(3,aQ 3),(4,aY a),(37,aY a),(38,aQ 1000000000),(39,aY c),(40,.aK (.one (.ba (decide (a<c))))),(43,.aK (.one (.ptr 3 3))),(44,.aK (.one (.J (Tag.ro 52) 1 A))),(45,aY a),(46,aY (a*2)),(47,aY (1+a*2)),(48,aQ 1000000000),(49,aY b),(50,aY (1+a*2+b)),(51,.aK (.one (.J (.own 51) 1 [[I (1+a*2+b)]]))),(52,aJ.aK (bu.one (aC 52 1 (A++[[I (1+a*2+b)]])))),(53,.aK (.one (.ptr 3 3)))] [(3,[ax f,ax g,ax i,aC 52 1 (A++[[I (1+a*2+b)]])]),(2,[ax j,ax k,ax l,.v (aO)]),(1000000000,[.de 1000000100 1 C,ax d,ax e])]
theorem afa{A:ae}{a g i j:Int}{C:ae}{k l m e f n c d b:Int}
  (h:cG [ay .i64 (a*2),ay .i64 (1+a*2),bY prog 138 [aM.cur [D.J 1 A,I e,I f] [D.J 1 A,I c,I d],aM.ro (af 2)] (aT.vals [af b]),ay .i64 (1+a*2+b),(C.length+[[I (1+a*2+b)]].length)*8<=140737488355328,C.length+[[I (1+a*2+b)]].length<=9223372036854775807,Flat [[I (1+a*2+b)]]]):
  ei prog (cR f319 14) (Tm A a g i j C k l m e f n) (K5 A a g i j C k l m n c d b):=
 .of [[],[],[],[],[],[],[.dr [some [D.J 1 A,I c,I d],none] (aT.vals [af b])],[],[],[],[],[]] [[],[],[],[ay .i64 (a*2)],[ay .i64 (1+a*2)],[],[bY prog 138 [aM.cur [D.J 1 A,I e,I f] [D.J 1 A,I c,I d],aM.ro (af 2)] (aT.vals [af b])],[ay .i64 (1+a*2+b)],[],[(C.length+[[I (1+a*2+b)]].length)*8<=140737488355328,C.length+[[I (1+a*2+b)]].length<=9223372036854775807,Flat [[I (1+a*2+b)]]],[],[]] (by kernel_rfl) (by kernel_rfl) (by kernel_rfl) h
theorem afb(h:ad [.w A j k b,.k A 138 o p j k 3 b,.b (decide (a<b)) true,.a (.ie (K5 A a c d e C f g i b l m n)),.p (ei prog (cR f319 14) (Tm A a c d e C f g i j k b) (K5 A a c d e C f g i b l m n)),.u a]):
a7 (aq f319 0) (tL A a c d e C f g i o p) .normal (tL A (a+1) c d e (C++[[I (1+a*2+n)]]) f g i l m):=
h.aX [4,0,3,2] [3,2,1000000000]
def xg(A:ae)(a b c:Int)(C:ae)(d e f g i:Int):aI:=bg 55 [(0,aQ 1000000000),(2,aQ 2),(3,aQ 3)] [(3,[ax a,ax b,ax c,aC 52 1 C]),(2,[ax d,ax e,ax f,.v (aO)]),(1000000000,[.de 1000000100 1 A,ax g,ax i])]
theorem afc(h:ad [.w A a b c,.k A 138 l m a b 3 c,.b (decide (d<c)) false]):
a7 (aq f319 0) (tL A d e f g C i j k l m) (.exit 1) (xg A e f g C i j k a b):=
h.aX [3,2,0] [3,2,1000000000]
def Ev(A:ae)(a b c d e:Int)(l:List O):List O:=.w A a b c::.k A 138 d e a b 8 c::l
theorem afd(h:ad (Ev A c d a g n [.v (1+a),.b (1+a==2) true,.w A e f b,.p (bY prog 140 [aM.cur [D.J 1 A,I c,I d] [D.J 1 A,I e,I f],aM.ro (.one (.J 1 [[I 0],[I 1],[I 3],[I 10],[I 999]]))] (aT.vals [af b])),.b (1+a != 8) true,.l [(4000003,52,1)] [4,0,3,2] [3,2,1000000000] (aq f319 0) (tL A 0 (1+a) b 0 [] 0 0 0 e f) (.exit 1) (xg A i j k C o p a0 l m)])):
b3 319 [aM.cur [D.J 1 A,I g,I n] [D.J 1 A,I l,I m]] (aT.vals [.agg (bj i j k C)]):=
h.b6
def Ew(A:ae)(a b c d e:Int)(l:List O):List O:=Ev A a b c d e (.v (1+c)::.b (1+c==2) false::l)
theorem afe(h:ad (Ew A f g a k o [.b (1+a==3) true,.w A i j b,.w A c d e,.k A 138 f g i j 4 b,.v (1+b),.k A 138 i j c d (1+b) e,.b (1+a != 8) true,.l [(4000003,52,1)] [4,0,3,2] [3,2,1000000000] (aq f319 0) (tL A 0 (1+a) (1+b) e [] 0 0 0 c d) (.exit 1) (xg A l m n C cg dx d0 p a0)])):
b3 319 [aM.cur [D.J 1 A,I k,I o] [D.J 1 A,I p,I a0]] (aT.vals [.agg (bj l m n C)]):=
h.b6
theorem aff(h:ad (Ew A c d a g n [.b (1+a==3) false,.b (1+a==4) true,.w A e f b,.p (bY prog 140 [aM.cur [D.J 1 A,I c,I d] [D.J 1 A,I e,I f],aM.ro (.one (.J 1 [[I 0],[I 1],[I 2],[I 3],[I 50],[I 99]]))] (aT.vals [af b])),.b (1+a != 8) true,.l [(4000003,52,1)] [4,0,3,2] [3,2,1000000000] (aq f319 0) (tL A 0 (1+a) b 0 [] 0 0 0 e f) (.exit 1) (xg A i j k C o p a0 l m)])):
b3 319 [aM.cur [D.J 1 A,I g,I n] [D.J 1 A,I l,I m]] (aT.vals [.agg (bj i j k C)]):=
h.b6
theorem afg(h:ad (Ew A b c a d g [.b (1+a==3) false,.b (1+a==4) false,.b (1+a != 8) true,.l [(4000003,52,1)] [4,0,3,2] [3,2,1000000000] (aq f319 0) (tL A 0 (1+a) 0 0 [] 0 0 0 b c) (.exit 1) (xg A i j k C l m n e f)])):
b3 319 [aM.cur [D.J 1 A,I d,I g] [D.J 1 A,I e,I f]] (aT.vals [.agg (bj i j k C)]):=
h.b6
theorem afh(h:ad (Ew A b c a d e [.b (1+a==3) false,.b (1+a==4) false,.b (1+a != 8) false])):
b3 319 [aM.cur [D.J 1 A,I d,I e] [D.J 1 A,I b,I c]] (aT.vals [.agg (bj (1+a) 0 0 [])]):=
h.b6
def AR(A:ae)(a b c d e:Int)(C:ae)(f g i j k:Int)(l:List O):List O:=.a (.dr [some [D.J 1 A,I a,I b]] (aT.vals [.agg (bj c d e C)]))::.w A f g i::.p (bY prog 319 [aM.cur [D.J 1 A,I j,I k] [D.J 1 A,I a,I b]] (aT.vals [.agg (bj c d e C)]))::.k A 138 a b f g 12 i::l
theorem afi(h:ad (AR A g i n j k C b c d l m [.b (d==0) true,.w A e f a,.k A 138 b c e f 11 a,.v (a-1)])):
b3 252 [aM.cur [D.J 1 A,I l,I m] [D.J 1 A,I e,I f]] (aT.vals [.agg (bj (a-1) j k C)]):=
h.b6
theorem afj(h:ad (AR A g i j n k C b c a l m [.b (a==0) false,.b (a==1) true,.w A d e f,.p (bY prog 140 [aM.cur [D.J 1 A,I b,I c] [D.J 1 A,I d,I e],aM.ro (.one (.J 1 [[I (-1)],[I 0],[I 1000],[I 100],[I 11]]))] (aT.vals [af f]))])):
b3 252 [aM.cur [D.J 1 A,I l,I m] [D.J 1 A,I d,I e]] (aT.vals [.agg (bj j f k C)]):=
h.b6
theorem afk(h:ad (AR A g i j k n C b c a l m [.b (a==0) false,.b (a==1) false,.b (a==2) true,.w A d e f,.p (bY prog 140 [aM.cur [D.J 1 A,I b,I c] [D.J 1 A,I d,I e],aM.ro (.one (.J 1 [[I (-1)],[I 1],[I 3]]))] (aT.vals [af f]))])):
b3 252 [aM.cur [D.J 1 A,I l,I m] [D.J 1 A,I d,I e]] (aT.vals [.agg (bj j k f C)]):=
h.b6
def K6(C:ae)(b c d:Int)(A:ae)(e f a:Int):aI:=bg 37 [(0,aQ 1000000000),(2,aQ 2),(3,aQ 3),(4,aQ 1000000000),(5,aJ.aK (bu.agg [ax b,ax c,ax d,aC 60003 1 A])),(6,aQ 1000000000),(7,aY a),(8,.aK (.one (.ba (a==0)))),(9,.aK (.one (.ba (a==0)))),(14,.aK (.one (.ba (a==1)))),(15,.aK (.one (.ba (a==1)))),(20,.aK (.one (.ba (a==2)))),(21,.aK (.one (.ba (a==2)))),(26,.aK (.one (.ba (a==3)))),(27,.aK (.one (.ba (a==3))))] [(3,[ax b,ax c,ax d,aC 60003 1 A]),(2,[ax 0,ax 0,ax 0,.v (aO)]),(1000000000,[.de 1000000100 1 C,ax e,ax f])]
def K7(P:Program)(W:Array Oper)(A:ae)(g i j:Int)(C:ae)(a b c d e f:Int):aI:=
 mO P W [[],[],[],[],[.dr [some [D.J 1 A,I d,I e],none] (aT.vals [af f])],[],[],[],[]] (K6 A g i j C a b c)
theorem afl{A:ae}{g i j:Int}{C:ae}{b c d e f a:Int}
  (h:cG [bY prog 140 [aM.cur [D.J 1 A,I b,I c] [D.J 1 A,I e,I f],aM.ro (.one (.J 1 [[I 1],[I 7],[I 8],[I (-1)]]))] (aT.vals [af a]),(C.length+[[I a]].length)*8<=140737488355328,C.length+[[I a]].length<=9223372036854775807,Flat [[I a]]]):
  ei prog (cR f252 10) (K6 A g i j C b c d) (K7 prog (cR f252 10) A g i j C b c d e f a):=
 .nH [0,0,0,0,1,0,3,0,0] h
theorem afm(h:ad (AR A k l b c d C e f a m n [.b (a==0) false,.b (a==1) false,.b (a==2) false,.b (a==3) true,.a (.ie (K7 prog (cR f252 10) A b c d C e f a g i j)),.p (ei prog (cR f252 10) (K6 A b c d C e f a) (K7 prog (cR f252 10) A b c d C e f a g i j))])):
b3 252 [aM.cur [D.J 1 A,I m,I n] [D.J 1 A,I g,I i]] (aT.vals [.agg (bj b c d (C++[[I j]]))]):=
h.b6
theorem afn(h:ad (AR A d e f g i C b c a j k [.b (a==0) false,.b (a==1) false,.b (a==2) false,.b (a==3) false])):
b3 252 [aM.cur [D.J 1 A,I j,I k] [D.J 1 A,I b,I c]] (aT.vals [.agg (bj f g i C)]):=
h.b6
def sg(A:ae)(a g:Int)(C:ae)(i j k l m n b c d e f:Int):aI:=bg 40 [(0,aQ 1000000000),(2,aQ 2),(3,aQ 3),(4,aY a)] [(3,[ax g,aC 900004001 5 C,ax i,ax j,ax k,ax l]),(2,[ax m,.v (aO),ax n,ax b,ax c,ax d]),(1000000000,[.de 1000000100 1 A,ax e,ax f])]
def LD(A:ae)(a b c d e f g i j:Int)(l:List O):List O:=.w A a b c::.k A 138 d e a b 9 c::.b (decide (f<c)) true::.w A g i j::.k A 138 a b g i 4 j::l
theorem afo(h:ad (LD A b c d dx d0 a e f g [.b (g==0) true,.r 260 [.agg (ch i C j k l m)] [.agg (ch bE E f0 i0 j0 da),.agg (bn fx m0 s4 Cz kx),ak q],.u a])):
a7 (aq f327 0) (sg A a i C j k l m n o p a0 cg dx d0) .normal (sg A (a+1) bE E f0 i0 j0 da n o p a0 cg e f):=
h.pF [(4000001,900004001,5)] [4,0,3,2] [3,2,1000000000]
theorem afp(h:ad (LD A c d e dx d0 a f g b [.b (b==0) false,.b (b==1) true,.r 261 [.agg (ch i C j k l m)] [.agg (ch bE E f0 i0 j0 da),ak q],.u a])):
a7 (aq f327 0) (sg A a i C j k l m n o p a0 cg dx d0) .normal (sg A (a+1) bE E f0 i0 j0 da n o p a0 cg f g):=
h.pF [(4000001,900004001,5)] [4,0,3,2] [3,2,1000000000]
def K8(A:ae)(b j:Int)(C:ae)(k l m n o p d e f c g i a:Int):aI:=bg 40 [(0,aQ 1000000000),(2,aQ 2),(3,aQ 3),(4,aY b),(9,aY b),(10,aQ 1000000000),(11,aY c),(12,.aK (.one (.ba (decide (b<c))))),(15,aQ 1000000000),(16,aY a),(24,.aK (.one (.ba (a==0)))),(25,.aK (.one (.ba (a==0)))),(32,.aK (.one (.ba (a==1)))),(33,.aK (.one (.ba (a==1))))] [(3,[ax j,aC 900004001 5 C,ax k,ax l,ax m,ax n]),(2,[ax o,.v (aO),ax p,ax d,ax e,ax f]),(1000000000,[.de 1000000100 1 A,ax g,ax i])]
def K9(P:Program)(W:Array Oper)(A:ae)(a b:Int)(C:ae)(c d e f g i j k l m n o p a0 cg dx d0 bE f0 i0 j0:Int)(E:ae)(da fx m0 s4:Int)(q:Bool):aI:=
 mO P W [[],[],[.dr [some [D.J 1 A,I a0,I cg]] (aT.vals [.agg (bn dx d0 bE f0 i0)])],[.res [.agg (ch j0 E da fx m0 s4),ak q]],[],[],[],[]] (K8 A a b C c d e f g i j k l m n o p)
theorem afq{A:ae}{n a:Int}{C:ae}{b c d e o p a0 cg dx d0 f g bE f0 i0 i j k l m j0:Int}{E:ae}{da fx m0 s4:Int}{q:Bool}
  (h:cG [bY prog 271 [aM.cur [D.J 1 A,I f,I g] [D.J 1 A,I f0,I i0]] (aT.vals [.agg (bn i j k l m)]),av 258 [.agg (ch a C b c d e),.agg (bn i j k l m)] [.agg (ch j0 E da fx m0 s4),ak q]]):
  ei prog (cR f327 6) (K8 A n a C b c d e o p a0 cg dx d0 f g bE) (K9 prog (cR f327 6) A n a C b c d e o p a0 cg dx d0 f g bE f0 i0 i j k l m j0 E da fx m0 s4 q):=
 .nH [0,0,1,1,0,0,0,0] h
theorem afr(h:ad (LD A a0 cg c fx m0 a j k b [.b (b==0) false,.b (b==1) false,.a (.ie (K9 prog (cR f327 6) A a l C m n o p d e f g i c j k b dx d0 s4 Cz kx eO gV bE E f0 i0 j0 da q)),.p (ei prog (cR f327 6) (K8 A a l C m n o p d e f g i c j k b) (K9 prog (cR f327 6) A a l C m n o p d e f g i c j k b dx d0 s4 Cz kx eO gV bE E f0 i0 j0 da q)),.u a])):
a7 (aq f327 0) (sg A a l C m n o p d e f g i fx m0) .normal (sg A (a+1) bE E f0 i0 j0 da d e f g i dx d0):=
h.pF [(4000001,900004001,5)] [4,0,3,2] [3,2,1000000000]
def K'(A:ae)(a:Int)(C:ae)(f g i j k l m b c d e:Int):aI:=bg 40 [(0,aQ 1000000000),(2,aQ 2),(3,aQ 3)] [(3,[ax a,aC 900004001 5 C,ax f,ax g,ax i,ax j]),(2,[ax k,.v (aO),ax l,ax m,ax b,ax c]),(1000000000,[.de 1000000100 1 A,ax d,ax e])]
theorem afs(h:ad [.w A a b c,.k A 138 p a0 a b 9 c,.b (decide (d<c)) false]):
a7 (aq f327 0) (sg A d e C f g i j k l m n o p a0) (.exit 0) (K' A e C f g i j k l m n o a b):=
h.aX [3,2,0] [3,2,1000000000]
theorem aft(h:ad [.w A b c a,.k A 138 d n b c 4 a,.v (1+a),.r 126 [af (1+a)] [.agg (ch a0 E cg e f g)],.l [(4000001,900004001,5)] [4,0,3,2] [3,2,1000000000] (aq f327 0) (sg A 0 a0 E cg e f g 0 0 0 0 0 b c) (.exit 0) (K' A i C j k l m dx d0 bE f0 i0 o p)]):
b3 327 [aM.cur [D.J 1 A,I d,I n] [D.J 1 A,I o,I p]] (aT.vals [.agg (ch i C j k l m)]):=
h.b6
def xQ(A:ae)(a b c:Int)(C:ae)(d e f g i j k m n:Int)(l:List O):List O:=.a (.dr [some [D.J 1 A,I a,I b]] (aT.vals [.agg (ch c C d e f g)]))::.w A i j k::.p (bY prog 327 [aM.cur [D.J 1 A,I m,I n] [D.J 1 A,I a,I b]] (aT.vals [.agg (ch c C d e f g)]))::.k A 138 a b i j 14 k::l
theorem afu(h:ad (xQ A j k l C p m b c d e f n o [.b (f==0) true,.w A g i a,.k A 138 d e g i 6 a,.v (a-1)])):
b3 278 [aM.cur [D.J 1 A,I n,I o] [D.J 1 A,I g,I i]] (aT.vals [.agg (ch l C (a-1) m b c)]):=
h.b6
theorem afv(h:ad (xQ A j k l C m p c d e f a n o [.b (a==0) false,.b (a==1) true,.w A g i b,.k A 138 e f g i 6 b,.v (b-1)])):
b3 278 [aM.cur [D.J 1 A,I n,I o] [D.J 1 A,I g,I i]] (aT.vals [.agg (ch l C m (b-1) c d)]):=
h.b6
theorem afw(h:ad (xQ A i j k C l m o b c d a n p [.b (a==0) false,.b (a==1) false,.b (a==2) true,.w A e f g,.p (bY prog 140 [aM.cur [D.J 1 A,I c,I d] [D.J 1 A,I e,I f],aM.ro (.one (.J 1 [[I (-1)],[I 0],[I 1000000000],[I 1000000001]]))] (aT.vals [af g]))])):
b3 278 [aM.cur [D.J 1 A,I n,I p] [D.J 1 A,I e,I f]] (aT.vals [.agg (ch k C l m g b)]):=
h.b6
def La(C:ae)(b:Int)(A:ae)(c d e f g i a:Int):aI:=bg 44 [(0,aQ 1000000000),(2,aQ 2),(3,aQ 3),(4,aQ 1000000000),(5,aJ.aK (bu.agg [ax b,aC 60001 5 A,ax c,ax d,ax e,ax f])),(6,aQ 1000000000),(7,aY a),(8,.aK (.one (.ba (a==0)))),(9,.aK (.one (.ba (a==0)))),(14,.aK (.one (.ba (a==1)))),(15,.aK (.one (.ba (a==1)))),(20,.aK (.one (.ba (a==2)))),(21,.aK (.one (.ba (a==2)))),(26,.aK (.one (.ba (a==3)))),(27,.aK (.one (.ba (a==3))))] [(3,[ax b,aC 60001 5 A,ax c,ax d,ax e,ax f]),(2,[ax 0,.v (aO),ax 0,ax 0,ax 0,ax 0]),(1000000000,[.de 1000000100 1 C,ax g,ax i])]
def Lb(P:Program)(W:Array Oper)(A:ae)(n:Int)(C:ae)(o p a b c d e f g i j k l m:Int):aI:=
 mO P W [[],[],[],[.dr [some [D.J 1 A,I f,I g]] (aT.vals [.agg (bn i j k l m)])],[],[],[],[]] (La A n C o p a b c d e)
theorem afx{A:ae}{n:Int}{C:ae}{o p i j f g k l m a b c d e:Int}
  (h:cG [bY prog 178 [aM.cur [D.J 1 A,I f,I g] [D.J 1 A,I l,I m]] (aT.vals [.agg (bn a b c d e)]),(C.length+[(bn a b c d e)].length)*40<=140737488355328,C.length+[(bn a b c d e)].length<=9223372036854775807,Flat [(bn a b c d e)]]):
  ei prog (cR f278 10) (La A n C o p i j f g k) (Lb prog (cR f278 10) A n C o p i j f g k l m a b c d e):=
 .nH [0,0,0,1,0,3,0,0] h
theorem afy(h:ad (xQ A a0 cg d C e f b c g i a dx d0 [.b (a==0) false,.b (a==1) false,.b (a==2) false,.b (a==3) true,.a (.ie (Lb prog (cR f278 10) A d C e f b c g i a j k l m n o p)),.p (ei prog (cR f278 10) (La A d C e f b c g i a) (Lb prog (cR f278 10) A d C e f b c g i a j k l m n o p))])):
b3 278 [aM.cur [D.J 1 A,I dx,I d0] [D.J 1 A,I j,I k]] (aT.vals [.agg (ch d (C++[(bn l m n o p)]) e f b c)]):=
h.b6
theorem aeZ(h:ad (xQ A d e f C g i k l b c a j m [.b (a==0) false,.b (a==1) false,.b (a==2) false,.b (a==3) false,.b (a==4) true,.v (1000000000-(C.length:Int))])):
b3 278 [aM.cur [D.J 1 A,I j,I m] [D.J 1 A,I b,I c]] (aT.vals [.agg (ch f C g i 1000000000 (1000000000-(C.length:Int)))]):=
h.b6
theorem ae0(h:ad (xQ A f g i C j k b c d e a l m [.b (a==0) false,.b (a==1) false,.b (a==2) false,.b (a==3) false,.b (a==4) false])):
b3 278 [aM.cur [D.J 1 A,I l,I m] [D.J 1 A,I d,I e]] (aT.vals [.agg (ch i C j k b c)]):=
h.b6
def Ey(A:ae)(a b c d e f g i j:Int)(l:List O):List O:=.a (.dr [some [D.J 1 A,I a,I b]] (aT.vals [.agg (bn c d e f g)]))::.p (bY prog 271 [aM.cur [D.J 1 A,I i,I j] [D.J 1 A,I a,I b]] (aT.vals [.agg (bn c d e f g)]))::l
theorem ae1(h:ad (Ey A m n cg b p c d o a0 [.b (decide ((C.length:Int)>0)) true,.w A e f g,.y A i j q,.k A 138 m n e f (C.length:Int) g,.m A 136 e f i j 4 q,.b q true,.w A k l a,.k A 138 i j k l 2 a,.v (5+a)])):
b3 350 [aM.cur [D.J 1 A,I o,I a0] [D.J 1 A,I k,I l],aM.ro (.agg (bq C dx d0))] (aT.vals [.agg (bn g b (5+a) c d)]):=
h.b6
theorem ae2(h:ad (Ey A k l o a b c d m n [.b (decide ((C.length:Int)>0)) true,.w A e f g,.y A i j q,.k A 138 k l e f (C.length:Int) g,.m A 136 e f i j 4 q,.b q false])):
b3 350 [aM.cur [D.J 1 A,I m,I n] [D.J 1 A,I i,I j],aM.ro (.agg (bq C p a0))] (aT.vals [.agg (bn g a b c d)]):=
h.b6
theorem ae3(h:ad (Ey A j k l b n c d m o [.b (decide ((C.length:Int)>0)) false,.y A e f q,.m A 136 j k e f 4 q,.b q true,.w A g i a,.k A 138 e f g i 2 a,.v (5+a)])):
b3 350 [aM.cur [D.J 1 A,I m,I o] [D.J 1 A,I g,I i],aM.ro (.agg (bq C p a0))] (aT.vals [.agg (bn l b (5+a) c d)]):=
h.b6
theorem ae4(h:ad (Ey A g i j a b c d k l [.b (decide ((C.length:Int)>0)) false,.y A e f q,.m A 136 g i e f 4 q,.b q false])):
b3 350 [aM.cur [D.J 1 A,I k,I l] [D.J 1 A,I e,I f],aM.ro (.agg (bq C m n))] (aT.vals [.agg (bn j a b c d)]):=
h.b6
def pZ(A:ae)(a:Int)(E F G H ao K L M C:ae)(b c d e:Int):aI:=bg 48 [(0,aQ 1000000000),(3,aQ 3),(4,aQ 4),(5,aQ 5),(6,aY a)] [(5,[aC 900006000 5 E,aC 900006001 5 F,aC 900006002 5 G,aC 900006003 4 H,aC 900006004 1 ao,aC 900006005 1 K,aC 900006006 1 L,aC 900006007 2 M]),(4,[.v (aO),.v (aO),.v (aO),.v (aO),.v (aO),.v (aO),.v (aO),.v (aO)]),(3,[.J .free 4 C,ax b,ax c]),(1000000000,[.de 1000000100 1 A,ax d,ax e])]
def Ex(A:ae)(a b c d e f g i j:Int)(l:List O):List O:=Ev A a b c d e (.b (decide (f<c)) true::.w A g i j::.k A 138 a b g i 5 j::l)
theorem ae5(h:ad (Ex A d e f k l a g i j [.b (j==0) true,.r 348 [.agg (bq C b c),.agg (bb E F G H ao K L M)] [.agg (bb N Q R S bm V X Y),ak q],.u a])):
a7 (aq f326 0) (pZ A a E F G H ao K L M C b c k l) .normal (pZ A (a+1) N Q R S bm V X Y C b c g i):=
h.pF [(6000000,900006000,5),(6000001,900006001,5),(6000002,900006002,5),(6000003,900006003,4),(6000004,900006004,1),(6000005,900006005,1),(6000006,900006006,1),(6000007,900006007,2)] [6,0,3,5,4] [5,4,3,1000000000]
def Lc(A:ae)(b:Int)(E F G H ao K L M C:ae)(d e c f g a:Int):aI:=bg 48 [(0,aQ 1000000000),(3,aQ 3),(4,aQ 4),(5,aQ 5),(6,aY b),(10,aY b),(11,aQ 1000000000),(12,aY c),(13,.aK (.one (.ba (decide (b<c))))),(16,aQ 1000000000),(17,aY a),(24,.aK (.one (.ba (a==0)))),(25,.aK (.one (.ba (a==0)))),(32,.aK (.one (.ba (a==1)))),(33,.aK (.one (.ba (a==1))))] [(5,[aC 900006000 5 E,aC 900006001 5 F,aC 900006002 5 G,aC 900006003 4 H,aC 900006004 1 ao,aC 900006005 1 K,aC 900006006 1 L,aC 900006007 2 M]),(4,[.v (aO),.v (aO),.v (aO),.v (aO),.v (aO),.v (aO),.v (aO),.v (aO)]),(3,[.J .free 4 C,ax d,ax e]),(1000000000,[.de 1000000100 1 A,ax f,ax g])]
def Ld(P:Program)(W:Array Oper)(A:ae)(a:Int)(C E F G H ao K L M:ae)(b c d e f g i j k l m n o:Int)(N Q R S bm V X Y:ae):aI:=
 mO P W [[],[],[],[.dr [some [D.J 1 A,I i,I j],none] (aT.vals [.agg (bn k l m n o)])],[.res [.agg (bb N Q R S bm V X Y)]],[]] (Lc A a C E F G H ao K L M b c d e f g)
theorem ae6{A:ae}{k:Int}{C E F G H ao K L M:ae}{a b l c d m n o e f g i j:Int}{N Q R S bm V X Y:ae}
  (h:cG [bY prog 350 [aM.cur [D.J 1 A,I c,I d] [D.J 1 A,I n,I o],aM.ro (.agg (bq M a b))] (aT.vals [.agg (bn e f g i j)]),av 349 [.agg (bb C E F G H ao K L),.agg (bn e f g i j)] [.agg (bb N Q R S bm V X Y)]]):
  ei prog (cR f326 10) (Lc A k C E F G H ao K L M a b l c d m) (Ld prog (cR f326 10) A k C E F G H ao K L M a b l c d m n o e f g i j N Q R S bm V X Y):=
 .nH [0,0,0,1,1,0] h
theorem ae7(h:ad (Ex A i j c m n a f g b [.b (b==0) false,.b (b==1) true,.a (.ie (Ld prog (cR f326 10) A a E F G H ao K L M C d e c f g b k l o p a0 cg dx N Q R S bm V X Y)),.p (ei prog (cR f326 10) (Lc A a E F G H ao K L M C d e c f g b) (Ld prog (cR f326 10) A a E F G H ao K L M C d e c f g b k l o p a0 cg dx N Q R S bm V X Y)),.u a])):
a7 (aq f326 0) (pZ A a E F G H ao K L M C d e m n) .normal (pZ A (a+1) N Q R S bm V X Y C d e k l):=
h.pF [(6000000,900006000,5),(6000001,900006001,5),(6000002,900006002,5),(6000003,900006003,4),(6000004,900006004,1),(6000005,900006005,1),(6000006,900006006,1),(6000007,900006007,2)] [6,0,3,5,4] [5,4,3,1000000000]
theorem Tn(h:ad (Ex A c d e k l b f g a [.b (a==0) false,.b (a==1) false,.b (a==2) true,.r 351 [.agg (bb C E F G H ao K L)] [.agg (bb N Q R S bm V X Y),.agg (bn m n o p a0),ak q],.u b])):
a7 (aq f326 0) (pZ A b C E F G H ao K L M i j k l) .normal (pZ A (b+1) N Q R S bm V X Y M i j f g):=
h.pF [(6000000,900006000,5),(6000001,900006001,5),(6000002,900006002,5),(6000003,900006003,4),(6000004,900006004,1),(6000005,900006005,1),(6000006,900006006,1),(6000007,900006007,2)] [6,0,3,5,4] [5,4,3,1000000000]
theorem ae8(h:ad (Ex A e f g k l b i j a [.b (a==0) false,.b (a==1) false,.b (a==2) false,.r 48 [.agg (bq C c d),.agg (bb E F G H ao K L M)] [.agg (bb N Q R S bm V X Y),ak q],.u b])):
a7 (aq f326 0) (pZ A b E F G H ao K L M C c d k l) .normal (pZ A (b+1) N Q R S bm V X Y C c d i j):=
h.pF [(6000000,900006000,5),(6000001,900006001,5),(6000002,900006002,5),(6000003,900006003,4),(6000004,900006004,1),(6000005,900006005,1),(6000006,900006006,1),(6000007,900006007,2)] [6,0,3,5,4] [5,4,3,1000000000]
def Le(A C E F G H ao K L:ae)(b a:Int):aI:=bg 48 [(0,aQ 1000000000),(4,aQ 4),(5,aQ 5)] [(5,[aC 900006000 5 C,aC 900006001 5 E,aC 900006002 5 F,aC 900006003 4 G,aC 900006004 1 H,aC 900006005 1 ao,aC 900006006 1 K,aC 900006007 2 L]),(4,[.v (aO),.v (aO),.v (aO),.v (aO),.v (aO),.v (aO),.v (aO),.v (aO)]),(1000000000,[.de 1000000100 1 A,ax b,ax a])]
theorem agA(h:ad (Ev A a b c e f [.b (decide (d<c)) false])):
a7 (aq f326 0) (pZ A d C E F G H ao K L M g i e f) (.exit 0) (Le A C E F G H ao K L a b):=
h.aX [5,4,0] [5,4,1000000000]
theorem agB(h:ad [.a (.dr [some [D.J 1 A,I a,I b]] (aT.vals [aP 5 C])),.p (bY prog 119 [aM.cur [D.J 1 A,I c,I d] [D.J 1 A,I a,I b]] (aT.vals [aP 5 C])),.r 124 [aP 5 C] [.agg (bb E F G H ao K L M)],.l [(6000000,900006000,5),(6000001,900006001,5),(6000002,900006002,5),(6000003,900006003,4),(6000004,900006004,1),(6000005,900006005,1),(6000006,900006006,1),(6000007,900006007,2)] [6,0,3,5,4] [5,4,3,1000000000] (aq f326 0) (pZ A 0 E F G H ao K L M Z g i a b) (.exit 0) (Le A N Q R S bm V X Y e f)]):
b3 326 [aM.cur [D.J 1 A,I c,I d] [D.J 1 A,I e,I f],aM.ro (.agg (bq Z g i))] (aT.vals [.agg (bb N Q R S bm V X Y)]):=
h.b6
def Lf(M A:ae)(b c:Int)(F G H ao K L C E:ae)(d e a:Int):aI:=bg 80 [(0,aQ 1000000000),(1,aJ.aK (bu.agg [.J .free 4 A,ax b,ax c])),(3,aQ 3),(4,aQ 4),(5,aQ 5),(6,aQ 1000000000),(7,aJ.aK (bu.agg [.J .free 4 A,ax b,ax c])),(8,aJ.aK (bu.agg [aC 90000 5 F,aC 90001 5 G,aC 90002 5 H,aC 90003 4 ao,aC 90004 1 K,aC 90005 1 L,aC 90006 1 C,aC 90007 2 E])),(9,aQ 1000000000),(10,aY a),(11,.aK (.one (.ba (a==0)))),(12,.aK (.one (.ba (a==0))))] [(5,[aC 90000 5 F,aC 90001 5 G,aC 90002 5 H,aC 90003 4 ao,aC 90004 1 K,aC 90005 1 L,aC 90006 1 C,aC 90007 2 E]),(4,[.v (aO),.v (aO),.v (aO),.v (aO),.v (aO),.v (aO),.v (aO),.v (aO)]),(3,[.J .free 4 A,ax b,ax c]),(1000000000,[.de 1000000100 1 M,ax d,ax e])]
def Lg(P:Program)(W:Array Oper)(A L:ae)(l m:Int)(M C E F G H ao K:ae)(a b c d e f g i j k:Int):aI:=
 mO P W [[],[],[],[.dr [some [D.J 1 A,I d,I e]] (aT.vals [.agg (bn f g i j k)])],[],[],[],[]] (Lf A L l m M C E F G H ao K a b c)
theorem agC{A M:ae}{l m:Int}{C E F G H ao K L:ae}{f g i j k a b c d e:Int}
  (h:cG [bY prog 178 [aM.cur [D.J 1 A,I f,I g] [D.J 1 A,I j,I k]] (aT.vals [.agg (bn a b c d e)]),(C.length+[(bn a b c d e)].length)*40<=140737488355328,C.length+[(bn a b c d e)].length<=9223372036854775807,Flat [(bn a b c d e)]]):
  ei prog (cR f277 4) (Lf A M l m C E F G H ao K L f g i) (Lg prog (cR f277 4) A M l m C E F G H ao K L f g i j k a b c d e):=
 .nH [0,0,0,1,0,3,0,0] h
def LF(A:ae)(a b:Int)(C E F G H ao K L:ae)(c d e f g:Int)(M:ae)(i j:Int)(l:List O):List O:=.a (.dr [some [D.J 1 A,I a,I b],none] (aT.vals [.agg (bb C E F G H ao K L)]))::.w A c d e::.p (bY prog 326 [aM.cur [D.J 1 A,I f,I g] [D.J 1 A,I a,I b],aM.ro (.agg (bq M i j))] (aT.vals [.agg (bb C E F G H ao K L)]))::.k A 138 a b c d 16 e::l
theorem agD(h:ad (LF A n o L C E F G H ao K b c a p a0 M d e [.b (a==0) true,.a (.ie (Lg prog (cR f277 4) A M d e L C E F G H ao K b c a f g i j k l m)),.p (ei prog (cR f277 4) (Lf A M d e L C E F G H ao K b c a) (Lg prog (cR f277 4) A M d e L C E F G H ao K b c a f g i j k l m))])):
b3 277 [aM.cur [D.J 1 A,I p,I a0] [D.J 1 A,I f,I g],aM.ro (.agg (bq M d e))] (aT.vals [.agg (bb (L++[(bn i j k l m)]) C E F G H ao K)]):=
h.b6
def Lh(M A:ae)(b c:Int)(F G H ao K L C E:ae)(d e a:Int):aI:=bg 80 [(0,aQ 1000000000),(1,aJ.aK (bu.agg [.J .free 4 A,ax b,ax c])),(3,aQ 3),(4,aQ 4),(5,aQ 5),(6,aQ 1000000000),(7,aJ.aK (bu.agg [.J .free 4 A,ax b,ax c])),(8,aJ.aK (bu.agg [aC 90000 5 F,aC 90001 5 G,aC 90002 5 H,aC 90003 4 ao,aC 90004 1 K,aC 90005 1 L,aC 90006 1 C,aC 90007 2 E])),(9,aQ 1000000000),(10,aY a),(11,.aK (.one (.ba (a==0)))),(12,.aK (.one (.ba (a==0)))),(20,.aK (.one (.ba (a==1)))),(21,.aK (.one (.ba (a==1))))] [(5,[aC 90000 5 F,aC 90001 5 G,aC 90002 5 H,aC 90003 4 ao,aC 90004 1 K,aC 90005 1 L,aC 90006 1 C,aC 90007 2 E]),(4,[.v (aO),.v (aO),.v (aO),.v (aO),.v (aO),.v (aO),.v (aO),.v (aO)]),(3,[.J .free 4 A,ax b,ax c]),(1000000000,[.de 1000000100 1 M,ax d,ax e])]
def Li(P:Program)(W:Array Oper)(A L:ae)(l m:Int)(M C E F G H ao K:ae)(a b c d e f g i j k:Int):aI:=
 mO P W [[],[],[],[.dr [some [D.J 1 A,I d,I e]] (aT.vals [.agg (bn f g i j k)])],[],[],[],[]] (Lh A L l m M C E F G H ao K a b c)
theorem agE{A L:ae}{l m:Int}{M E C F G H ao K:ae}{f g i j k a b c d e:Int}
  (h:cG [bY prog 271 [aM.cur [D.J 1 A,I f,I g] [D.J 1 A,I j,I k]] (aT.vals [.agg (bn a b c d e)]),(C.length+[(bn a b c d e)].length)*40<=140737488355328,C.length+[(bn a b c d e)].length<=9223372036854775807,Flat [(bn a b c d e)]]):
  ei prog (cR f277 6) (Lh A L l m M E C F G H ao K f g i) (Li prog (cR f277 6) A L l m M E C F G H ao K f g i j k a b c d e):=
 .nH [0,0,0,1,0,3,0,0] h
theorem agF(h:ad (LF A n o L C E F G H ao K b c a p a0 M d e [.b (a==0) false,.b (a==1) true,.a (.ie (Li prog (cR f277 6) A M d e L C E F G H ao K b c a f g i j k l m)),.p (ei prog (cR f277 6) (Lh A M d e L C E F G H ao K b c a) (Li prog (cR f277 6) A M d e L C E F G H ao K b c a f g i j k l m))])):
b3 277 [aM.cur [D.J 1 A,I p,I a0] [D.J 1 A,I f,I g],aM.ro (.agg (bq M d e))] (aT.vals [.agg (bb L C (E++[(bn i j k l m)]) F G H ao K)]):=
h.b6
def Lj(M A:ae)(b c:Int)(F G H ao K L C E:ae)(d e a:Int):aI:=bg 80 [(0,aQ 1000000000),(1,aJ.aK (bu.agg [.J .free 4 A,ax b,ax c])),(3,aQ 3),(4,aQ 4),(5,aQ 5),(6,aQ 1000000000),(7,aJ.aK (bu.agg [.J .free 4 A,ax b,ax c])),(8,aJ.aK (bu.agg [aC 90000 5 F,aC 90001 5 G,aC 90002 5 H,aC 90003 4 ao,aC 90004 1 K,aC 90005 1 L,aC 90006 1 C,aC 90007 2 E])),(9,aQ 1000000000),(10,aY a),(11,.aK (.one (.ba (a==0)))),(12,.aK (.one (.ba (a==0)))),(20,.aK (.one (.ba (a==1)))),(21,.aK (.one (.ba (a==1)))),(29,.aK (.one (.ba (a==2)))),(30,.aK (.one (.ba (a==2))))] [(5,[aC 90000 5 F,aC 90001 5 G,aC 90002 5 H,aC 90003 4 ao,aC 90004 1 K,aC 90005 1 L,aC 90006 1 C,aC 90007 2 E]),(4,[.v (aO),.v (aO),.v (aO),.v (aO),.v (aO),.v (aO),.v (aO),.v (aO)]),(3,[.J .free 4 A,ax b,ax c]),(1000000000,[.de 1000000100 1 M,ax d,ax e])]
def Lk(P:Program)(W:Array Oper)(A L:ae)(g i:Int)(M C E F G H ao K:ae)(a b c d e f:Int):aI:=
 mO P W [[],[],[],[.dr [some [D.J 1 A,I d,I e],none] (aT.vals [af f])],[.own],[],[]] (Lj A L g i M C E F G H ao K a b c)
theorem agG{C L:ae}{g i:Int}{M E F G A H ao K:ae}{b c d e f a:Int}
  (h:cG [bY prog 138 [aM.cur [D.J 1 C,I b,I c] [D.J 1 C,I e,I f],aM.ro (af 4)] (aT.vals [af a]),(0:Int)<=none.getD 0,none.getD 0<=(some a).getD (A.length:Int),(some a).getD (A.length:Int)<=(A.length:Int)]):
  ei prog (cR f277 8) (Lj C L g i M E F G A H ao K b c d) (Lk prog (cR f277 8) C L g i M E F G A H ao K b c d e f a):=
 .nH [0,0,0,1,3,0,0] h
def Ez(A:ae)(a b:Int)(C E F G H ao K L:ae)(c d e f g:Int)(M:ae)(i j:Int)(l:List O):List O:=LF A a b C E F G H ao K L c d e f g M i j (.b (e==0) false::.b (e==1) false::l)
theorem agH(h:ad (Ez A j k L E F G C H ao K b c a l m M d e [.b (a==2) true,.a (.ie (Lk prog (cR f277 8) A M d e L E F G C H ao K b c a f g i)),.p (ei prog (cR f277 8) (Lj A M d e L E F G C H ao K b c a) (Lk prog (cR f277 8) A M d e L E F G C H ao K b c a f g i))])):
b3 277 [aM.cur [D.J 1 A,I l,I m] [D.J 1 A,I f,I g],aM.ro (.agg (bq M d e))] (aT.vals [.agg [D.J 5 L,D.J 5 E,D.J 5 F,D.J 4 G,D.J 1 (List.take (((some i).getD (C.length:Int)).toNat-0) (List.drop 0 C)),D.J 1 H,D.J 1 ao,D.J 2 K]]):=
h.b6
def To(M A:ae)(b c:Int)(F G H ao K L C E:ae)(d e a:Int):aI:=bg 80 [(0,aQ 1000000000),(1,aJ.aK (bu.agg [.J .free 4 A,ax b,ax c])),(3,aQ 3),(4,aQ 4),(5,aQ 5),(6,aQ 1000000000),(7,aJ.aK (bu.agg [.J .free 4 A,ax b,ax c])),(8,aJ.aK (bu.agg [aC 90000 5 F,aC 90001 5 G,aC 90002 5 H,aC 90003 4 ao,aC 90004 1 K,aC 90005 1 L,aC 90006 1 C,aC 90007 2 E])),(9,aQ 1000000000),(10,aY a),(11,.aK (.one (.ba (a==0)))),(12,.aK (.one (.ba (a==0)))),(20,.aK (.one (.ba (a==1)))),(21,.aK (.one (.ba (a==1)))),(29,.aK (.one (.ba (a==2)))),(30,.aK (.one (.ba (a==2)))),(37,.aK (.one (.ba (a==3)))),(38,.aK (.one (.ba (a==3))))] [(5,[aC 90000 5 F,aC 90001 5 G,aC 90002 5 H,aC 90003 4 ao,aC 90004 1 K,aC 90005 1 L,aC 90006 1 C,aC 90007 2 E]),(4,[.v (aO),.v (aO),.v (aO),.v (aO),.v (aO),.v (aO),.v (aO),.v (aO)]),(3,[.J .free 4 A,ax b,ax c]),(1000000000,[.de 1000000100 1 M,ax d,ax e])]
def Ll(M C:ae)(c d:Int)(G H ao K A L E F:ae)(a e f b:Int):aI:=bg 80 [(0,aQ 1000000000),(1,aJ.aK (bu.agg [.J .free 4 C,ax c,ax d])),(3,aQ 3),(4,aQ 4),(5,aQ 5),(6,aQ 1000000000),(7,aJ.aK (bu.agg [.J .free 4 C,ax c,ax d])),(8,aJ.aK (bu.agg [aC 90000 5 G,aC 90001 5 H,aC 90002 5 ao,aC 90003 4 K,aC 90004 1 (A.set 0 [I b]),aC 90005 1 L,aC 90006 1 E,aC 90007 2 F])),(9,aQ 1000000000),(10,aY a),(11,.aK (.one (.ba (a==0)))),(12,.aK (.one (.ba (a==0)))),(20,.aK (.one (.ba (a==1)))),(21,.aK (.one (.ba (a==1)))),(29,.aK (.one (.ba (a==2)))),(30,.aK (.one (.ba (a==2)))),(37,.aK (.one (.ba (a==3)))),(38,.aK (.one (.ba (a==3)))),(39,.aK (.one (.ptr 5 4))),(40,aJ.aK (bu.one (aC 90004 1 (A.set 0 [I b])))),(41,aQ 1000000000),(42,.aK (.one (.J (.own 42) 1 [[I 1000000],[I 1000001],[I (-1000001)]]))),(43,aY b),(44,.aK (.one (.cE (Tag.own 90004) 1 (A.set 0 [I b]) 0 0)))] [(5,[aC 90000 5 G,aC 90001 5 H,aC 90002 5 ao,aC 90003 4 K,aC 90004 1 (A.set 0 [I b]),aC 90005 1 L,aC 90006 1 E,aC 90007 2 F]),(4,[.v (aO),.v (aO),.v (aO),.v (aO),.v (aO),.v (aO),.v (aO),.v (aO)]),(3,[.J .free 4 C,ax c,ax d]),(1000000000,[.de 1000000100 1 M,ax e,ax f])]
theorem agI{A L:ae}{g i:Int}{M E F G C H ao K:ae}{d e f a b c:Int}{d25:D}
  (h:cG [bY prog 140 [aM.cur [D.J 1 A,I d,I e] [D.J 1 A,I a,I b],aM.ro (.one (.J 1 [[I 1000000],[I 1000001],[I (-1000001)]]))] (aT.vals [af c]),(0:Int)<=0,0<(C.length:Int),C[0]?=some [d25]]):
  ei prog (cR f277 10) (To A L g i M E F G C H ao K d e f) (Ll A L g i M E F G C H ao K f a b c):=
 .of [[],[],[],[],[.dr [some [D.J 1 A,I a,I b],none] (aT.vals [af c])],[],[.el [d25]]] [[],[],[],[],[bY prog 140 [aM.cur [D.J 1 A,I d,I e] [D.J 1 A,I a,I b],aM.ro (.one (.J 1 [[I 1000000],[I 1000001],[I (-1000001)]]))] (aT.vals [af c])],[(0:Int)<=0,0<(C.length:Int)],[C[0]?=some [d25]]] (by kernel_rfl) (by kernel_rfl) (by kernel_rfl) h
theorem agJ(h:ad (Ez A j k L C E F G H ao K d e a l m M b c [.b (a==2) false,.b (a==3) true,.a (.ie (Ll A M b c L C E F G H ao K a f g i)),.p (ei prog (cR f277 10) (To A M b c L C E F G H ao K d e a) (Ll A M b c L C E F G H ao K a f g i))])):
b3 277 [aM.cur [D.J 1 A,I l,I m] [D.J 1 A,I f,I g],aM.ro (.agg (bq M b c))] (aT.vals [.agg (bb L C E F (G.set 0 [I i]) H ao K)]):=
h.b6
def Lm(M A:ae)(b c:Int)(F G H ao K L C E:ae)(d e a:Int):aI:=bg 80 [(0,aQ 1000000000),(1,aJ.aK (bu.agg [.J .free 4 A,ax b,ax c])),(3,aQ 3),(4,aQ 4),(5,aQ 5),(6,aQ 1000000000),(7,aJ.aK (bu.agg [.J .free 4 A,ax b,ax c])),(8,aJ.aK (bu.agg [aC 90000 5 F,aC 90001 5 G,aC 90002 5 H,aC 90003 4 ao,aC 90004 1 K,aC 90005 1 L,aC 90006 1 C,aC 90007 2 E])),(9,aQ 1000000000),(10,aY a),(11,.aK (.one (.ba (a==0)))),(12,.aK (.one (.ba (a==0)))),(20,.aK (.one (.ba (a==1)))),(21,.aK (.one (.ba (a==1)))),(29,.aK (.one (.ba (a==2)))),(30,.aK (.one (.ba (a==2)))),(37,.aK (.one (.ba (a==3)))),(38,.aK (.one (.ba (a==3)))),(45,.aK (.one (.ba (a==4)))),(46,.aK (.one (.ba (a==4))))] [(5,[aC 90000 5 F,aC 90001 5 G,aC 90002 5 H,aC 90003 4 ao,aC 90004 1 K,aC 90005 1 L,aC 90006 1 C,aC 90007 2 E]),(4,[.v (aO),.v (aO),.v (aO),.v (aO),.v (aO),.v (aO),.v (aO),.v (aO)]),(3,[.J .free 4 A,ax b,ax c]),(1000000000,[.de 1000000100 1 M,ax d,ax e])]
def Ln(P:Program)(W:Array Oper)(A L:ae)(g i:Int)(M C E F G H ao K:ae)(a b c d e f:Int):aI:=
 mO P W [[],[],[],[.dr [some [D.J 1 A,I d,I e],none] (aT.vals [af f])],[],[],[],[],[],[]] (Lm A L g i M C E F G H ao K a b c)
theorem agK{A L:ae}{g i:Int}{M E F G H ao K C:ae}{b c d e f a:Int}
  (h:cG [bY prog 138 [aM.cur [D.J 1 A,I b,I c] [D.J 1 A,I e,I f],aM.ro (af 6)] (aT.vals [af a]),ay .i64 (a-1),(C.length+[[I (a-1),B false]].length)*16<=140737488355328,C.length+[[I (a-1),B false]].length<=9223372036854775807,Flat [[I (a-1),B false]]]):
  ei prog (cR f277 12) (Lm A L g i M E F G H ao K C b c d) (Ln prog (cR f277 12) A L g i M E F G H ao K C b c d e f a):=
 .nH [0,0,0,1,1,0,0,3,0,0] h
theorem agL(h:ad (Ez A j k L C E F G H ao K b c a l m M d e [.b (a==2) false,.b (a==3) false,.b (a==4) true,.a (.ie (Ln prog (cR f277 12) A M d e L C E F G H ao K b c a f g i)),.p (ei prog (cR f277 12) (Lm A M d e L C E F G H ao K b c a) (Ln prog (cR f277 12) A M d e L C E F G H ao K b c a f g i))])):
b3 277 [aM.cur [D.J 1 A,I l,I m] [D.J 1 A,I f,I g],aM.ro (.agg (bq M d e))] (aT.vals [.agg (bb L C E F G H ao (K++[[I (i-1),B false]]))]):=
h.b6
def EF(A:ae)(a b:Int)(C E F G H ao K L:ae)(c d e f g:Int)(M:ae)(i j:Int)(l:List O):List O:=Ez A a b C E F G H ao K L c d e f g M i j (.b (e==2) false::.b (e==3) false::.b (e==4) false::l)
theorem agM(h:ad (EF A g i K C E F G H ao L b c a j k M l m [.b (a==5) true,.w A d e f,.k A 138 b c d e 2 f])):
b3 277 [aM.cur [D.J 1 A,I j,I k] [D.J 1 A,I d,I e],aM.ro (.agg (bq M l m))] (aT.vals [.agg [D.J 5 K,D.J 5 C,D.J 5 E,D.J 4 F,D.J 1 G,D.J 1 H,D.J 1 ao,D.J 2 [[I 1,B false],[I f,B true]]]]):=
h.b6
theorem agN(h:ad (EF A d e L E F G H C ao K b c a f g M i j [.b (a==5) false,.b (a==6) true,.g C [[B true]] 1,.h [[B true]]])):
b3 277 [aM.cur [D.J 1 A,I f,I g] [D.J 1 A,I b,I c],aM.ro (.agg (bq M i j))] (aT.vals [.agg (bb L E F G H (C++[[B true]]) ao K)]):=
h.b6
theorem agO(h:ad (EF A d e L E F C G H ao K b c a f g M i j [.b (a==5) false,.b (a==6) false,.b (a==7) true,.g C [[I 0,I 0,I 0,I 0]] 32,.h [[I 0,I 0,I 0,I 0]]])):
b3 277 [aM.cur [D.J 1 A,I f,I g] [D.J 1 A,I b,I c],aM.ro (.agg (bq M i j))] (aT.vals [.agg (bb L E F (C++[[I 0,I 0,I 0,I 0]]) G H ao K)]):=
h.b6
theorem agP(h:ad (EF A d e L C E F G H ao K b c a f g M i j [.b (a==5) false,.b (a==6) false,.b (a==7) false])):
b3 277 [aM.cur [D.J 1 A,I f,I g] [D.J 1 A,I b,I c],aM.ro (.agg (bq M i j))] (aT.vals [.agg (bb L C E F G H ao K)]):=
h.b6
def D7(H ao:ae)(c d e f:Int)(K G:ae)(a b:Int)(A C E F:ae)(q:Bool):aI:=bg 30 [(0,aQ 1000000000),(2,aQ 2),(3,aQ 3),(4,.aK (.one (.ba q))),(5,aJ.fJ [bu.agg [aC 110000 4 G,ax a,ax b,aC 110003 8 A,aC 110004 6 C,aC 110005 5 E,aC 110006 3 F],bu.one (aB.ba q)]),(6,aQ 1000000000),(7,aJ.aK (bu.agg [aC 80000 4 ao,ax c,ax d])),(8,aQ 1000000000),(9,aJ.aK (bu.one (aC 100000 5 K))),(10,aJ.fJ [bu.agg [aC 110000 4 G,ax a,ax b,aC 110003 8 A,aC 110004 6 C,aC 110005 5 E,aC 110006 3 F],bu.one (aB.ba q)]),(11,aJ.aK (bu.agg [aC 110000 4 G,ax a,ax b,aC 110003 8 A,aC 110004 6 C,aC 110005 5 E,aC 110006 3 F])),(12,.aK (.one (.ba q)))] [(3,[aC 110000 4 G,ax a,ax b,aC 110003 8 A,aC 110004 6 C,aC 110005 5 E,aC 110006 3 F]),(2,[.v (aO),ax 0,ax 0,.v (aO),.v (aO),.v (aO),.v (aO)]),(1000000000,[.de 1000000100 1 H,ax e,ax f])]
def zT(P:Program)(W:Array Oper)(A bm:ae)(j k a b:Int)(C E:ae)(c d:Int)(F G H ao:ae)(q:Bool)(e f:Int)(K L:ae)(g i:Int)(M N Q R S:ae):aI:=
 mO P W [[],[],[.dr [some [D.J 1 A,I e,I f],none] (aT.vals [aP 3 K])],[.res [.agg (cl L g i M N Q R),aP 1 S]],[],[],[],[]] (D7 A bm j k a b C E c d F G H ao q)
theorem Tp{A bm:ae}{j k a b:Int}{K C:ae}{c d:Int}{E F G H:ae}{q:Bool}{e f:Int}{ao L:ae}{g i:Int}{M N Q R S:ae}
  (h:cG [bY prog 120 [aM.cur [D.J 1 A,I a,I b] [D.J 1 A,I e,I f],aM.ro (af 40)] (aT.vals [aP 3 ao]),av 15 [.agg (cl C c d E F G H),aP 3 ao] [.agg (cl L g i M N Q R),aP 1 S]]):
  ei prog (cR f166 2) (D7 A bm j k a b K C c d E F G H q) (zT prog (cR f166 2) A bm j k a b K C c d E F G H q e f ao L g i M N Q R S):=
 .nH [0,0,1,1,0,0,0,0] h
def Lo(Q R:ae)(e i:Int)(bm K:ae)(c d:Int)(L M A C:ae)(q:Bool)(S E:ae)(a b:Int)(F G H ao N:ae)(f g:Int)(r:Bool):aI:=bg 30 [(0,aQ 1000000000),(2,aQ 2),(3,aQ 3),(4,.aK (.one (.ba q))),(5,aJ.fJ [bu.agg [aC 110000 4 K,ax c,ax d,aC 110003 8 L,aC 110004 6 M,aC 110005 5 A,aC 110006 3 C],bu.one (aB.ba q)]),(6,aQ 1000000000),(7,aJ.aK (bu.agg [aC 80000 4 R,ax e,ax i])),(8,aQ 1000000000),(9,aJ.aK (bu.one (aC 100000 5 bm))),(10,aJ.fJ [bu.agg [aC 110000 4 K,ax c,ax d,aC 110003 8 L,aC 110004 6 M,aC 110005 5 A,aC 110006 3 C],bu.one (aB.ba q)]),(11,aJ.aK (bu.agg [aC 110000 4 K,ax c,ax d,aC 110003 8 L,aC 110004 6 M,aC 110005 5 A,aC 110006 3 C])),(12,.aK (.one (.ba q))),(13,aJ.fJ [bu.agg [aC 180000 4 E,ax a,ax b,aC 180003 8 F,aC 180004 6 G,aC 180005 5 H,aC 180006 3 ao],bu.one (aC 180100 1 N)]),(14,aJ.aK (bu.agg [aC 110000 4 K,ax c,ax d,aC 110003 8 L,aC 110004 6 M,aC 110005 5 A,aC 110006 3 C])),(15,aQ 1000000000),(16,aJ.aK (bu.one (aC 170000 3 S))),(17,aJ.fJ [bu.agg [aC 180000 4 E,ax a,ax b,aC 180003 8 F,aC 180004 6 G,aC 180005 5 H,aC 180006 3 ao],bu.one (aC 180100 1 N)]),(18,aJ.aK (bu.agg [aC 180000 4 E,ax a,ax b,aC 180003 8 F,aC 180004 6 G,aC 180005 5 H,aC 180006 3 ao])),(19,aJ.aK (bu.one (aC 180100 1 N))),(20,aQ 1000000000),(21,.aK (.one (.ba r)))] [(3,[aC 180000 4 E,ax a,ax b,aC 180003 8 F,aC 180004 6 G,aC 180005 5 H,aC 180006 3 ao]),(2,[.v (aO),ax 0,ax 0,.v (aO),.v (aO),.v (aO),.v (aO)]),(1000000000,[.de 1000000100 1 Q,ax f,ax g])]
def Lp(P:Program)(W:Array Oper)(A ew:ae)(n o:Int)(C E:ae)(a b:Int)(F G H ao:ae)(q:Bool)(K L:ae)(c d:Int)(M N Q R S:ae)(e f:Int)(r:Bool)(g i j:Int)(bm:ae)(k l:Int)(V X Y Z:ae)(m:Int):aI:=
 mO P W [[],[],[.dr [some [D.J 1 A,I g,I i],none] (aT.vals [af j])],[.res [.agg (cl bm k l V X Y Z),af m]],[],[],[],[]] (Lo A ew n o C E a b F G H ao q K L c d M N Q R S e f r)
theorem agQ{A ew:ae}{n o:Int}{ao K:ae}{f g:Int}{L M N Q:ae}{q:Bool}{R C:ae}{a b:Int}{E F G H S:ae}{c d:Int}{r:Bool}{i j e:Int}{bm:ae}{k l:Int}{V X Y Z:ae}{m:Int}
  (h:cG [bY prog 138 [aM.cur [D.J 1 A,I c,I d] [D.J 1 A,I i,I j],aM.ro (af 12)] (aT.vals [af e]),av 16 [.agg (cl C a b E F G H),af e] [.agg (cl bm k l V X Y Z),af m]]):
  ei prog (cR f166 4) (Lo A ew n o ao K f g L M N Q q R C a b E F G H S c d r) (Lp prog (cR f166 4) A ew n o ao K f g L M N Q q R C a b E F G H S c d r i j e bm k l V X Y Z m):=
 .nH [0,0,1,1,0,0,0,0] h
def Uu(A:ae)(a b:Int)(C:ae)(c d e f:Int)(E:ae)(g i:Int)(F:ae)(j k:Int)(G H ao K:ae)(q:Bool)(l:List O):List O:=.a (.dr [some [D.J 1 A,I a,I b]] (aT.vals [.agg (bq C c d)]))::.a (.dr [some [D.J 1 A,I e,I f]] (aT.vals [aP 5 E]))::.p (bY prog 118 [aM.cur [D.J 1 A,I g,I i] [D.J 1 A,I a,I b]] (aT.vals [.agg (bq C c d)]))::.p (bY prog 119 [aM.cur [D.J 1 A,I a,I b] [D.J 1 A,I e,I f]] (aT.vals [aP 5 E]))::.r 14 [.agg (bq C c d),aP 5 E] [.agg (cl F j k G H ao K),ak q]::l
theorem agR(h:ad (Uu A p dx E a b e f C d0 bE F c d G H ao K q [.a (.ie (zT prog (cR f166 2) A E a b e f C F c d G H ao K q l m L M g i N Q R S bm)),.y A j k r,.p (ei prog (cR f166 2) (D7 A E a b e f C F c d G H ao K q) (zT prog (cR f166 2) A E a b e f C F c d G H ao K q l m L M g i N Q R S bm)),.m A 136 l m j k 4 r,.b r true,.a (.ie (Lp prog (cR f166 4) A E a b C F c d G H ao K q L M g i N Q R S bm j k r n o f0 V a0 cg X Y Z ew i0)),.p (ei prog (cR f166 4) (Lo A E a b C F c d G H ao K q L M g i N Q R S bm j k r) (Lp prog (cR f166 4) A E a b C F c d G H ao K q L M g i N Q R S bm j k r n o f0 V a0 cg X Y Z ew i0))])):
b3 166 [aM.cur [D.J 1 A,I d0,I bE] [D.J 1 A,I n,I o]] (aT.vals [.agg (cl V a0 cg X Y Z ew)]):=
h.b6
theorem agS(h:ad (Uu A n o E a b c d C p a0 F e f G H ao K q [.a (.ie (zT prog (cR f166 2) A E a b c d C F e f G H ao K q g i S L j k M N Q R bm)),.y A l m r,.p (ei prog (cR f166 2) (D7 A E a b c d C F e f G H ao K q) (zT prog (cR f166 2) A E a b c d C F e f G H ao K q g i S L j k M N Q R bm)),.m A 136 g i l m 4 r,.b r false])):
b3 166 [aM.cur [D.J 1 A,I p,I a0] [D.J 1 A,I l,I m]] (aT.vals [.agg (cl L j k M N Q R)]):=
h.b6
def Tq(H C:ae)(b c:Int)(A E F G:ae)(d f e a:Int):aI:=bg 82 [(0,aQ 1000000000),(2,aQ 2),(3,aQ 3),(4,aY d),(5,aQ 1000000000),(6,aJ.aK (bu.agg [aC 70000 4 C,ax b,ax c,aC 70003 8 A,aC 70004 6 E,aC 70005 5 F,aC 70006 3 G])),(7,aQ 1000000000),(8,.aK (.one (.ptr 3 3))),(9,aJ.aK (bu.one (aC 70003 8 A))),(10,aY (A.length:Int)),(11,aY d),(12,aQ 1000000000),(13,aY a),(14,.aK (.one (.ba (a==0)))),(15,.aK (.one (.ba (a==0))))] [(3,[aC 70000 4 C,ax b,ax c,aC 70003 8 A,aC 70004 6 E,aC 70005 5 F,aC 70006 3 G]),(2,[.v (aO),ax 0,ax 0,.v (aO),.v (aO),.v (aO),.v (aO)]),(1000000000,[.de 1000000100 1 H,ax f,ax e])]
def Lq(S M:ae)(b c:Int)(A N Q R:ae)(a d e f:Int)(C E F G H ao K L:ae):aI:=bg 82 [(0,aQ 1000000000),(2,aQ 2),(3,aQ 3),(4,aY a),(5,aQ 1000000000),(6,aJ.aK (bu.agg [aC 70000 4 M,ax b,ax c,aC 70003 8 (A.set a.toNat (bb C E F G H ao K L)),aC 70004 6 N,aC 70005 5 Q,aC 70006 3 R])),(7,aQ 1000000000),(8,.aK (.one (.ptr 3 3))),(9,aJ.aK (bu.one (aC 70003 8 (A.set a.toNat (bb C E F G H ao K L))))),(10,aY (A.length:Int)),(11,aY a),(12,aQ 1000000000),(13,aY d),(14,.aK (.one (.ba (d==0)))),(15,.aK (.one (.ba (d==0)))),(16,.aK (.one (.ptr 3 3))),(17,aJ.aK (bu.one (aC 70003 8 (A.set a.toNat (bb C E F G H ao K L))))),(18,aY a),(19,aQ 1000000000),(20,aQ 3),(21,aJ.aK (bu.agg [aC 70000 4 M,ax b,ax c])),(22,aJ.aK (bu.agg [.cq,.cq,.cq,.cq,.cq,.cq,.cq,.cq])),(23,.aK (.one (.cE (Tag.own 70003) 8 (A.set a.toNat (bb C E F G H ao K L)) a.toNat 0)))] [(3,[aC 70000 4 M,ax b,ax c,aC 70003 8 (A.set a.toNat (bb C E F G H ao K L)),aC 70004 6 N,aC 70005 5 Q,aC 70006 3 R]),(2,[.v (aO),ax 0,ax 0,.v (aO),.v (aO),.v (aO),.v (aO)]),(1000000000,[.de 1000000100 1 S,ax e,ax f])]
theorem agT{A N:ae}{d e:Int}{C Q R S:ae}{a f g i b c:Int}{E F G H ao K L M:ae}{d32 d33 d34 d35 d36 d37 d38 d39:D}
  (h:cG [bY prog 277 [aM.cur [D.J 1 A,I f,I g] [D.J 1 A,I b,I c],aM.ro (.agg (bq N d e))] (aT.vals [.agg (bb E F G H ao K L M)]),0<=a,a<(C.length:Int),C[a.toNat]?=some [d32,d33,d34,d35,d36,d37,d38,d39]]):
  ei prog (cR f185 5) (Tq A N d e C Q R S a f g i) (Lq A N d e C Q R S a i b c E F G H ao K L M):=
 .of [[],[],[],[],[],[],[.dr [some [D.J 1 A,I b,I c],none] (aT.vals [.agg (bb E F G H ao K L M)])],[],[.el [d32,d33,d34,d35,d36,d37,d38,d39]]] [[],[],[],[],[],[],[bY prog 277 [aM.cur [D.J 1 A,I f,I g] [D.J 1 A,I b,I c],aM.ro (.agg (bq N d e))] (aT.vals [.agg (bb E F G H ao K L M)])],[0<=a,a<(C.length:Int)],[C[a.toNat]?=some [d32,d33,d34,d35,d36,d37,d38,d39]]] (by kernel_rfl) (by kernel_rfl) (by kernel_rfl) h
def LK(A:ae)(a b:Int)(C:ae)(c d:Int)(E F G H:ae)(e f g i j k m n:Int)(l:List O):List O:=.a (.dr [some [D.J 1 A,I a,I b]] (aT.vals [.agg (cl C c d E F G H)]))::.w A e f g::.w A i j k::.p (bY prog 166 [aM.cur [D.J 1 A,I m,I n] [D.J 1 A,I a,I b]] (aT.vals [.agg (cl C c d E F G H)]))::.k A 138 a b e f (E.length:Int) g::.k A 138 e f i j 20 k::l
theorem agU(h:ad (LK A l m H c d C E F G e f a g i b n o [.b (b==0) true,.a (.ie (Lq A H c d C E F G a b j k ao K L M N Q R S)),.p (ei prog (cR f185 5) (Tq A H c d C E F G a g i b) (Lq A H c d C E F G a b j k ao K L M N Q R S))])):
b3 185 [aM.cur [D.J 1 A,I n,I o] [D.J 1 A,I j,I k]] (aT.vals [.agg (cl H c d (C.set a.toNat (bb ao K L M N Q R S)) E F G)]):=
h.b6
def Tr(H C:ae)(b c:Int)(A E F G:ae)(d f e a:Int):aI:=bg 82 [(0,aQ 1000000000),(2,aQ 2),(3,aQ 3),(4,aY d),(5,aQ 1000000000),(6,aJ.aK (bu.agg [aC 70000 4 C,ax b,ax c,aC 70003 8 A,aC 70004 6 E,aC 70005 5 F,aC 70006 3 G])),(7,aQ 1000000000),(8,.aK (.one (.ptr 3 3))),(9,aJ.aK (bu.one (aC 70003 8 A))),(10,aY (A.length:Int)),(11,aY d),(12,aQ 1000000000),(13,aY a),(14,.aK (.one (.ba (a==0)))),(15,.aK (.one (.ba (a==0)))),(24,.aK (.one (.ba (a==1)))),(25,.aK (.one (.ba (a==1))))] [(3,[aC 70000 4 C,ax b,ax c,aC 70003 8 A,aC 70004 6 E,aC 70005 5 F,aC 70006 3 G]),(2,[.v (aO),ax 0,ax 0,.v (aO),.v (aO),.v (aO),.v (aO)]),(1000000000,[.de 1000000100 1 H,ax f,ax e])]
def Lr(ao F:ae)(i j:Int)(E A G H:ae)(k g a l m b:Int)(C:ae)(c d e f:Int):aI:=bg 82 [(0,aQ 1000000000),(2,aQ 2),(3,aQ 3),(4,aY k),(5,aQ 1000000000),(6,aJ.aK (bu.agg [aC 70000 4 F,ax i,ax j,aC 70003 8 E,aC 70004 6 (A.set a.toNat (ch b C c d e f)),aC 70005 5 G,aC 70006 3 H])),(7,aQ 1000000000),(8,.aK (.one (.ptr 3 3))),(9,aJ.aK (bu.one (aC 70003 8 E))),(10,aY (E.length:Int)),(11,aY k),(12,aQ 1000000000),(13,aY g),(14,.aK (.one (.ba (g==0)))),(15,.aK (.one (.ba (g==0)))),(24,.aK (.one (.ba (g==1)))),(25,.aK (.one (.ba (g==1)))),(26,.aK (.one (.ptr 3 4))),(27,aJ.aK (bu.one (aC 70004 6 (A.set a.toNat (ch b C c d e f))))),(28,aQ 1000000000),(29,.aK (.one (.ptr 3 4))),(30,aJ.aK (bu.one (aC 70004 6 (A.set a.toNat (ch b C c d e f))))),(31,aY (A.length:Int)),(32,aY a),(33,aQ 1000000000),(34,aJ.aK (bu.agg [ax b,.cq,ax c,ax d,ax e,ax f])),(35,.aK (.one (.cE (Tag.own 70004) 6 (A.set a.toNat (ch b C c d e f)) a.toNat 0)))] [(3,[aC 70000 4 F,ax i,ax j,aC 70003 8 E,aC 70004 6 (A.set a.toNat (ch b C c d e f)),aC 70005 5 G,aC 70006 3 H]),(2,[.v (aO),ax 0,ax 0,.v (aO),.v (aO),.v (aO),.v (aO)]),(1000000000,[.de 1000000100 1 ao,ax l,ax m])]
theorem agV{A H:ae}{p a0:Int}{ao C F G:ae}{n l m o b c a d e f:Int}{E:ae}{g i j k:Int}{d34 d35 d36 d37 d38 d39:D}
  (h:cG [bY prog 138 [aM.cur [D.J 1 A,I l,I m] [D.J 1 A,I b,I c],aM.ro (af (C.length:Int))] (aT.vals [af a]),bY prog 278 [aM.cur [D.J 1 A,I b,I c] [D.J 1 A,I d,I e]] (aT.vals [.agg (ch f E g i j k)]),0<=a,a<(C.length:Int),C[a.toNat]?=some [d34,d35,d36,d37,d38,d39]]):
  ei prog (cR f185 7) (Tr A H p a0 ao C F G n l m o) (Lr A H p a0 ao C F G n o a d e f E g i j k):=
 .of [[],[],[],[],[],[],[.dr [some [D.J 1 A,I b,I c],none] (aT.vals [af a])],[],[.dr [some [D.J 1 A,I d,I e]] (aT.vals [.agg (ch f E g i j k)])],[],[.el [d34,d35,d36,d37,d38,d39]]] [[],[],[],[],[],[],[bY prog 138 [aM.cur [D.J 1 A,I l,I m] [D.J 1 A,I b,I c],aM.ro (af (C.length:Int))] (aT.vals [af a])],[],[bY prog 278 [aM.cur [D.J 1 A,I b,I c] [D.J 1 A,I d,I e]] (aT.vals [.agg (ch f E g i j k)])],[0<=a,a<(C.length:Int)],[C[a.toNat]?=some [d34,d35,d36,d37,d38,d39]]] (by kernel_rfl) (by kernel_rfl) (by kernel_rfl) h
theorem agW(h:ad (LK A cg dx H b c C E F G e f d g i a d0 bE [.b (a==0) false,.b (a==1) true,.a (.ie (Lr A H b c C E F G d a j k l m ao n o p a0)),.p (ei prog (cR f185 7) (Tr A H b c C E F G d g i a) (Lr A H b c C E F G d a j k l m ao n o p a0))])):
b3 185 [aM.cur [D.J 1 A,I d0,I bE] [D.J 1 A,I k,I l]] (aT.vals [.agg (cl H b c C (E.set j.toNat (ch m ao n o p a0)) F G)]):=
h.b6
def Ts(H C:ae)(b c:Int)(A E F G:ae)(d f e a:Int):aI:=bg 82 [(0,aQ 1000000000),(2,aQ 2),(3,aQ 3),(4,aY d),(5,aQ 1000000000),(6,aJ.aK (bu.agg [aC 70000 4 C,ax b,ax c,aC 70003 8 A,aC 70004 6 E,aC 70005 5 F,aC 70006 3 G])),(7,aQ 1000000000),(8,.aK (.one (.ptr 3 3))),(9,aJ.aK (bu.one (aC 70003 8 A))),(10,aY (A.length:Int)),(11,aY d),(12,aQ 1000000000),(13,aY a),(14,.aK (.one (.ba (a==0)))),(15,.aK (.one (.ba (a==0)))),(24,.aK (.one (.ba (a==1)))),(25,.aK (.one (.ba (a==1)))),(36,.aK (.one (.ba (a==2)))),(37,.aK (.one (.ba (a==2))))] [(3,[aC 70000 4 C,ax b,ax c,aC 70003 8 A,aC 70004 6 E,aC 70005 5 F,aC 70006 3 G]),(2,[.v (aO),ax 0,ax 0,.v (aO),.v (aO),.v (aO),.v (aO)]),(1000000000,[.de 1000000100 1 H,ax f,ax e])]
def Ls(H E:ae)(d e:Int)(C F A G:ae)(f c a g i b:Int)(d14 d15 d16 d17:D):aI:=bg 82 [(0,aQ 1000000000),(2,aQ 2),(3,aQ 3),(4,aY f),(5,aQ 1000000000),(6,aJ.aK (bu.agg [aC 70000 4 E,ax d,ax e,aC 70003 8 C,aC 70004 6 F,aC 70005 5 (A.set a.toNat [d14,I (b-1),d15,d16,d17]),aC 70006 3 G])),(7,aQ 1000000000),(8,.aK (.one (.ptr 3 3))),(9,aJ.aK (bu.one (aC 70003 8 C))),(10,aY (C.length:Int)),(11,aY f),(12,aQ 1000000000),(13,aY c),(14,.aK (.one (.ba (c==0)))),(15,.aK (.one (.ba (c==0)))),(24,.aK (.one (.ba (c==1)))),(25,.aK (.one (.ba (c==1)))),(36,.aK (.one (.ba (c==2)))),(37,.aK (.one (.ba (c==2)))),(38,.aK (.one (.ptr 3 5))),(39,aJ.aK (bu.one (aC 70005 5 (A.set a.toNat [d14,I (b-1),d15,d16,d17])))),(40,aQ 1000000000),(41,aY a),(42,aQ 1000000000),(43,aY b),(44,aY (b-1)),(45,.aK (.one (.cE (Tag.own 70005) 5 (A.set a.toNat [d14,I (b-1),d15,d16,d17]) a.toNat 0))),(46,.aK (.one (.cE (Tag.own 70005) 5 (A.set a.toNat [d14,I (b-1),d15,d16,d17]) a.toNat 1)))] [(3,[aC 70000 4 E,ax d,ax e,aC 70003 8 C,aC 70004 6 F,aC 70005 5 (A.set a.toNat [d14,I (b-1),d15,d16,d17]),aC 70006 3 G]),(2,[.v (aO),ax 0,ax 0,.v (aO),.v (aO),.v (aO),.v (aO)]),(1000000000,[.de 1000000100 1 H,ax g,ax i])]
theorem agX{A G:ae}{l m:Int}{H E C F:ae}{j g i k c d a e f b:Int}{d29 d30 d31 d32 d33:D}
  (h:cG [bY prog 138 [aM.cur [D.J 1 A,I g,I i] [D.J 1 A,I c,I d],aM.ro (af 4)] (aT.vals [af a]),bY prog 138 [aM.cur [D.J 1 A,I c,I d] [D.J 1 A,I e,I f],aM.ro (af 6)] (aT.vals [af b]),ay .i64 (b-1),0<=a,a<(C.length:Int),C[a.toNat]?=some [d29,d30,d31,d32,d33]]):
  ei prog (cR f185 9) (Ts A G l m H E C F j g i k) (Ls A G l m H E C F j k a e f b d29 d31 d32 d33):=
 .of [[],[],[],[.dr [some [D.J 1 A,I c,I d],none] (aT.vals [af a])],[],[.dr [some [D.J 1 A,I e,I f],none] (aT.vals [af b])],[],[],[],[.el [d29,d30,d31,d32,d33]]] [[],[],[],[bY prog 138 [aM.cur [D.J 1 A,I g,I i] [D.J 1 A,I c,I d],aM.ro (af 4)] (aT.vals [af a])],[],[bY prog 138 [aM.cur [D.J 1 A,I c,I d] [D.J 1 A,I e,I f],aM.ro (af 6)] (aT.vals [af b])],[ay .i64 (b-1)],[0<=a,a<(C.length:Int)],[],[C[a.toNat]?=some [d29,d30,d31,d32,d33]]] (by kernel_rfl) (by kernel_rfl) (by kernel_rfl) h
def xR(A:ae)(a b:Int)(C:ae)(c d:Int)(E F G H:ae)(e f g i j k m n:Int)(l:List O):List O:=LK A a b C c d E F G H e f g i j k m n (.b (k==0) false::.b (k==1) false::l)
theorem agY{A:ae}{p a0 n o:Int}{H:ae}{b c:Int}{C E F G:ae}{e f d g i a j k l m:Int}{d29 d31 d32 d33:D}(h:ad (xR A n o H b c C E F G e f d g i a p a0 [.b (a==2) true,.a (.ie (Ls A H b c C E F G d a j k l m d29 d31 d32 d33)),.p (ei prog (cR f185 9) (Ts A H b c C E F G d g i a) (Ls A H b c C E F G d a j k l m d29 d31 d32 d33))])):
b3 185 [aM.cur [D.J 1 A,I p,I a0] [D.J 1 A,I k,I l]] (aT.vals [.agg (cl H b c C E (F.set j.toNat [d29,I (m-1),d31,d32,d33]) G)]):=
h.b6
def Tt(H C:ae)(b c:Int)(A E F G:ae)(d f e a:Int):aI:=bg 82 [(0,aQ 1000000000),(2,aQ 2),(3,aQ 3),(4,aY d),(5,aQ 1000000000),(6,aJ.aK (bu.agg [aC 70000 4 C,ax b,ax c,aC 70003 8 A,aC 70004 6 E,aC 70005 5 F,aC 70006 3 G])),(7,aQ 1000000000),(8,.aK (.one (.ptr 3 3))),(9,aJ.aK (bu.one (aC 70003 8 A))),(10,aY (A.length:Int)),(11,aY d),(12,aQ 1000000000),(13,aY a),(14,.aK (.one (.ba (a==0)))),(15,.aK (.one (.ba (a==0)))),(24,.aK (.one (.ba (a==1)))),(25,.aK (.one (.ba (a==1)))),(36,.aK (.one (.ba (a==2)))),(37,.aK (.one (.ba (a==2)))),(47,.aK (.one (.ba (a==3)))),(48,.aK (.one (.ba (a==3))))] [(3,[aC 70000 4 C,ax b,ax c,aC 70003 8 A,aC 70004 6 E,aC 70005 5 F,aC 70006 3 G]),(2,[.v (aO),ax 0,ax 0,.v (aO),.v (aO),.v (aO),.v (aO)]),(1000000000,[.de 1000000100 1 H,ax f,ax e])]
def Lt(H E:ae)(c d:Int)(C F A G:ae)(e a f g b:Int)(d13 d14 d15 d16:D):aI:=bg 82 [(0,aQ 1000000000),(2,aQ 2),(3,aQ 3),(4,aY e),(5,aQ 1000000000),(6,aJ.aK (bu.agg [aC 70000 4 E,ax c,ax d,aC 70003 8 C,aC 70004 6 F,aC 70005 5 (A.set 0 [d13,d14,I b,d15,d16]),aC 70006 3 G])),(7,aQ 1000000000),(8,.aK (.one (.ptr 3 3))),(9,aJ.aK (bu.one (aC 70003 8 C))),(10,aY (C.length:Int)),(11,aY e),(12,aQ 1000000000),(13,aY a),(14,.aK (.one (.ba (a==0)))),(15,.aK (.one (.ba (a==0)))),(24,.aK (.one (.ba (a==1)))),(25,.aK (.one (.ba (a==1)))),(36,.aK (.one (.ba (a==2)))),(37,.aK (.one (.ba (a==2)))),(47,.aK (.one (.ba (a==3)))),(48,.aK (.one (.ba (a==3)))),(49,.aK (.one (.ptr 3 5))),(50,aJ.aK (bu.one (aC 70005 5 (A.set 0 [d13,d14,I b,d15,d16])))),(51,aQ 1000000000),(52,.aK (.one (.J (.own 52) 1 [[I 1000000],[I 1000001],[I (-1000001)],[I 3]]))),(53,aY b),(54,.aK (.one (.cE (Tag.own 70005) 5 (A.set 0 [d13,d14,I b,d15,d16]) 0 0))),(55,.aK (.one (.cE (Tag.own 70005) 5 (A.set 0 [d13,d14,I b,d15,d16]) 0 2)))] [(3,[aC 70000 4 E,ax c,ax d,aC 70003 8 C,aC 70004 6 F,aC 70005 5 (A.set 0 [d13,d14,I b,d15,d16]),aC 70006 3 G]),(2,[.v (aO),ax 0,ax 0,.v (aO),.v (aO),.v (aO),.v (aO)]),(1000000000,[.de 1000000100 1 H,ax f,ax g])]
theorem agZ{A G:ae}{i j:Int}{H E C F:ae}{f d e g a b c:Int}{d25 d26 d27 d28 d29:D}
  (h:cG [bY prog 140 [aM.cur [D.J 1 A,I d,I e] [D.J 1 A,I a,I b],aM.ro (.one (.J 1 [[I 1000000],[I 1000001],[I (-1000001)],[I 3]]))] (aT.vals [af c]),(0:Int)<=0,0<(C.length:Int),C[0]?=some [d25,d26,d27,d28,d29]]):
  ei prog (cR f185 11) (Tt A G i j H E C F f d e g) (Lt A G i j H E C F f g a b c d25 d26 d28 d29):=
 .of [[],[],[],[],[.dr [some [D.J 1 A,I a,I b],none] (aT.vals [af c])],[],[],[.el [d25,d26,d27,d28,d29]]] [[],[],[],[],[bY prog 140 [aM.cur [D.J 1 A,I d,I e] [D.J 1 A,I a,I b],aM.ro (.one (.J 1 [[I 1000000],[I 1000001],[I (-1000001)],[I 3]]))] (aT.vals [af c])],[(0:Int)<=0,0<(C.length:Int)],[],[C[0]?=some [d25,d26,d27,d28,d29]]] (by kernel_rfl) (by kernel_rfl) (by kernel_rfl) h
theorem af9{A:ae}{o p m n:Int}{H:ae}{b c:Int}{C E F G:ae}{e f d g i a j k l:Int}{d25 d26 d28 d29:D}(h:ad (xR A m n H b c C E F G e f d g i a o p [.b (a==2) false,.b (a==3) true,.a (.ie (Lt A H b c C E F G d a j k l d25 d26 d28 d29)),.p (ei prog (cR f185 11) (Tt A H b c C E F G d g i a) (Lt A H b c C E F G d a j k l d25 d26 d28 d29))])):
b3 185 [aM.cur [D.J 1 A,I o,I p] [D.J 1 A,I j,I k]] (aT.vals [.agg (cl H b c C E (F.set 0 [d25,d26,I l,d28,d29]) G)]):=
h.b6
def Tu(H C:ae)(b c:Int)(A E F G:ae)(d f e a:Int):aI:=bg 82 [(0,aQ 1000000000),(2,aQ 2),(3,aQ 3),(4,aY d),(5,aQ 1000000000),(6,aJ.aK (bu.agg [aC 70000 4 C,ax b,ax c,aC 70003 8 A,aC 70004 6 E,aC 70005 5 F,aC 70006 3 G])),(7,aQ 1000000000),(8,.aK (.one (.ptr 3 3))),(9,aJ.aK (bu.one (aC 70003 8 A))),(10,aY (A.length:Int)),(11,aY d),(12,aQ 1000000000),(13,aY a),(14,.aK (.one (.ba (a==0)))),(15,.aK (.one (.ba (a==0)))),(24,.aK (.one (.ba (a==1)))),(25,.aK (.one (.ba (a==1)))),(36,.aK (.one (.ba (a==2)))),(37,.aK (.one (.ba (a==2)))),(47,.aK (.one (.ba (a==3)))),(48,.aK (.one (.ba (a==3)))),(56,.aK (.one (.ba (a==4)))),(57,.aK (.one (.ba (a==4))))] [(3,[aC 70000 4 C,ax b,ax c,aC 70003 8 A,aC 70004 6 E,aC 70005 5 F,aC 70006 3 G]),(2,[.v (aO),ax 0,ax 0,.v (aO),.v (aO),.v (aO),.v (aO)]),(1000000000,[.de 1000000100 1 H,ax f,ax e])]
def KF(H E:ae)(d e:Int)(A F G C:ae)(f a b g i c:Int):aI:=bg 82 [(0,aQ 1000000000),(2,aQ 2),(3,aQ 3),(4,aY f),(5,aQ 1000000000),(6,aJ.aK (bu.agg [aC 70000 4 E,ax d,ax e,aC 70003 8 A,aC 70004 6 F,aC 70005 5 G,.J (Tag.ro 70006) 3 C])),(7,aQ 1000000000),(8,.aK (.one (.ptr 3 3))),(9,aJ.aK (bu.one (aC 70003 8 A))),(10,aY (A.length:Int)),(11,aY f),(12,aQ 1000000000),(13,aY a),(14,.aK (.one (.ba (a==0)))),(15,.aK (.one (.ba (a==0)))),(24,.aK (.one (.ba (a==1)))),(25,.aK (.one (.ba (a==1)))),(36,.aK (.one (.ba (a==2)))),(37,.aK (.one (.ba (a==2)))),(47,.aK (.one (.ba (a==3)))),(48,.aK (.one (.ba (a==3)))),(56,.aK (.one (.ba (a==4)))),(57,.aK (.one (.ba (a==4)))),(58,.aK (.one (.ptr 3 6))),(59,.aK (.one (.J (Tag.ro 70006) 3 C))),(60,aQ 1000000000),(61,aY b),(62,aY (b-1)),(63,aQ 1000000000),(64,aY c),(65,aY (c-1)),(66,aJ.aK (bu.agg [ax (b-1),ax (c-1),.v (Value.bool false)])),(67,.aK (.one (.J (.own 67) 3 [[I (b-1),I (c-1),B false]]))),(68,aJ.aK (bu.one (aC 70006 3 (C++[[I (b-1),I (c-1),B false]])))),(69,.aK (.one (.ptr 3 6)))] [(3,[aC 70000 4 E,ax d,ax e,aC 70003 8 A,aC 70004 6 F,aC 70005 5 G,aC 70006 3 (C++[[I (b-1),I (c-1),B false]])]),(2,[.v (aO),ax 0,ax 0,.v (aO),.v (aO),.v (aO),.v (aO)]),(1000000000,[.de 1000000100 1 H,ax g,ax i])]
theorem aga{A G:ae}{l m:Int}{H E F C:ae}{j g i k c d a e f b:Int}
  (h:cG [bY prog 138 [aM.cur [D.J 1 A,I g,I i] [D.J 1 A,I c,I d],aM.ro (af 6)] (aT.vals [af a]),ay .i64 (a-1),bY prog 138 [aM.cur [D.J 1 A,I c,I d] [D.J 1 A,I e,I f],aM.ro (af 6)] (aT.vals [af b]),ay .i64 (b-1),(C.length+[[I (a-1),I (b-1),B false]].length)*24<=140737488355328,C.length+[[I (a-1),I (b-1),B false]].length<=9223372036854775807,Flat [[I (a-1),I (b-1),B false]]]):
  ei prog (cR f185 13) (Tu A G l m H E F C j g i k) (KF A G l m H E F C j k a e f b):=
 .of [[],[],[],[.dr [some [D.J 1 A,I c,I d],none] (aT.vals [af a])],[],[],[.dr [some [D.J 1 A,I e,I f],none] (aT.vals [af b])],[],[],[],[],[],[]] [[],[],[],[bY prog 138 [aM.cur [D.J 1 A,I g,I i] [D.J 1 A,I c,I d],aM.ro (af 6)] (aT.vals [af a])],[ay .i64 (a-1)],[],[bY prog 138 [aM.cur [D.J 1 A,I c,I d] [D.J 1 A,I e,I f],aM.ro (af 6)] (aT.vals [af b])],[ay .i64 (b-1)],[],[],[(C.length+[[I (a-1),I (b-1),B false]].length)*24<=140737488355328,C.length+[[I (a-1),I (b-1),B false]].length<=9223372036854775807,Flat [[I (a-1),I (b-1),B false]]],[],[]] (by kernel_rfl) (by kernel_rfl) (by kernel_rfl) h
theorem agb(h:ad (xR A n o H b c C E F G e f d g i a p a0 [.b (a==2) false,.b (a==3) false,.b (a==4) true,.a (.ie (KF A H b c C E F G d a j k l m)),.p (ei prog (cR f185 13) (Tu A H b c C E F G d g i a) (KF A H b c C E F G d a j k l m))])):
b3 185 [aM.cur [D.J 1 A,I p,I a0] [D.J 1 A,I k,I l]] (aT.vals [.agg (cl H b c C E F (G++[[I (j-1),I (m-1),B false]]))]):=
h.b6
theorem agc(h:ad (xR A k l ao p a0 C E F G b c n d e a m o [.b (a==2) false,.b (a==3) false,.b (a==4) false,.b (a==5) true,.a (.dr [some [D.J 1 A,I f,I g]] (aT.vals [.agg (bq H i j)])),.p (bY prog 137 [aM.cur [D.J 1 A,I d,I e] [D.J 1 A,I f,I g]] (aT.vals [.agg (bq H i j)]))])):
b3 185 [aM.cur [D.J 1 A,I m,I o] [D.J 1 A,I f,I g]] (aT.vals [.agg (cl H i j C E F G)]):=
h.b6
theorem agd(h:ad (xR A f g H i j E F C G b c l d e a k m [.b (a==2) false,.b (a==3) false,.b (a==4) false,.b (a==5) false,.b (a==6) true,.a .own,.p ((0:Int)<=none.getD 0),.p (none.getD 0<=(some (3:Int)).getD (C.length:Int)),.p ((some (3:Int)).getD (C.length:Int)<=(C.length:Int))])):
b3 185 [aM.cur [D.J 1 A,I k,I m] [D.J 1 A,I d,I e]] (aT.vals [.agg (cl H i j E F (List.take (3-0) (List.drop 0 C)) G)]):=
h.b6
theorem age(h:ad (xR A f g H i j C E F G b c l d e a k m [.b (a==2) false,.b (a==3) false,.b (a==4) false,.b (a==5) false,.b (a==6) false])):
b3 185 [aM.cur [D.J 1 A,I k,I m] [D.J 1 A,I d,I e]] (aT.vals [.agg (cl H i j C E F G)]):=
h.b6
theorem agf(h:ad [.a (.dr [none] (aT.iN [some 0,none,none] [D.J 1 A,I b,I c])),.a (.dr [some [D.J 1 A,I d,I e]] (aT.vals [.agg (cl H f g C E F G)])),.w A i j a,.p (bY prog 117 [aM.ro (aP 1 A)] (aT.iN [some 0,none,none] [D.J 1 A,I b,I c])),.p (bY prog 185 [aM.cur [D.J 1 A,I b,I c] [D.J 1 A,I d,I e]] (aT.vals [.agg (cl H f g C E F G)])),.p (bY prog 140 [aM.cur [D.J 1 A,I d,I e] [D.J 1 A,I i,I j],aM.ro (.one (.J 1 [[I 0],[I 0],[I 1],[I 1],[I 2],[I 3],[I (-1)],[I 9223372036854775807]]))] (aT.vals [af a]))]):
av 143 [aP 1 A] [.agg (cl H f g C E F G),af a]:=
h.of
theorem agh(h:ad [.r 143 [aP 1 A] [.agg (cl C a b E F G H),af c]]):
av 43 [aP 1 A] [.agg (cl C a b E F G H),af c]:=
h.of
