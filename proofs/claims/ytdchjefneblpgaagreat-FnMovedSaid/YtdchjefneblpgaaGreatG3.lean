import Derived.Test.YtdchjefneblpgaaGreatGE
set_option linter.unusedVariables false
set_option linter.unusedSimpArgs false
namespace Go.Proofs.YtdchjefneblpgaaGreat
open Go.Sx Go.RowKit Go.Proofs.Tryz
variable {a b c d e f g i j k l m n o p a0 eC b4 cW d0 bz f0 g0 i0 j0 dh eP m0 HD Ct kP : Int} {A C E F G H al K L M N Q R S bl V X Y Z dL : af} {q r : Bool}
def tr(A:af)(a c d e:Int)(C:af)(f g i j b:Int):aH:=bj 55 [(0,aR 1000000000),(2,aR 2),(3,aR 3),(4,aZ a)] [(3,[aw c,aw d,aw e,aG 52 1 C]),(2,[aw f,aw g,aw i,.v (aO)]),(1000000000,[.dg 1000000100 1 A,aw j,aw b])]
def Tg(A:af)(a d e f:Int)(C:af)(g i j k c b:Int):aH:=bj 55 [(0,aR 1000000000),(2,aR 2),(3,aR 3),(4,aZ a),(37,aZ a),(38,aR 1000000000),(39,aZ b),(40,.aJ (.one (.bc (decide (a<b)))))] [(3,[aw d,aw e,aw f,aG 52 1 C]),(2,[aw g,aw i,aw j,.v (aO)]),(1000000000,[.dg 1000000100 1 A,aw k,aw c])]
def KZ(C:af)(a f g i:Int)(A:af)(j k l c d e b:Int):aH:=bj 55 [(0,aR 1000000000),(2,aR 2),(3,aR 3),(4,aZ a),(37,aZ a),(38,aR 1000000000),(39,aZ c),(40,.aJ (.one (.bc (decide (a<c))))),(43,.aJ (.one (.ptr 3 3))),(44,.aJ (.one (.J (Tag.ro 52) 1 A))),(45,aZ a),(46,aZ (a*2)),(47,aZ (1+a*2)),(48,aR 1000000000),(49,aZ b),(50,aZ (1+a*2+b)),(51,.aJ (.one (.J (.own 51) 1 [[I (1+a*2+b)]]))),(52,aI.aJ (bq.one (aG 52 1 (A++[[I (1+a*2+b)]])))),(53,.aJ (.one (.ptr 3 3)))] [(3,[aw f,aw g,aw i,aG 52 1 (A++[[I (1+a*2+b)]])]),(2,[aw j,aw k,aw l,.v (aO)]),(1000000000,[.dg 1000000100 1 C,aw d,aw e])]
theorem adU{A:af}{a g i j:Int}{C:af}{k l m e f n c d b:Int}
  (h:cE [az .i64 (a*2),az .i64 (1+a*2),bT prog 138 [aM.cur [D.J 1 A,I e,I f] [D.J 1 A,I c,I d],aM.ro (ae 2)] (aS.vals [ae b]),az .i64 (1+a*2+b),(C.length+[[I (1+a*2+b)]].length)*8<=140737488355328,C.length+[[I (1+a*2+b)]].length<=9223372036854775807,Flat [[I (1+a*2+b)]]]):
  ee prog (cO f319 14) (Tg A a g i j C k l m e f n) (KZ A a g i j C k l m n c d b):=
 .of [[],[],[],[],[],[],[.dj [some [D.J 1 A,I c,I d],none] (aS.vals [ae b])],[],[],[],[],[]] [[],[],[],[az .i64 (a*2)],[az .i64 (1+a*2)],[],[bT prog 138 [aM.cur [D.J 1 A,I e,I f] [D.J 1 A,I c,I d],aM.ro (ae 2)] (aS.vals [ae b])],[az .i64 (1+a*2+b)],[],[(C.length+[[I (1+a*2+b)]].length)*8<=140737488355328,C.length+[[I (1+a*2+b)]].length<=9223372036854775807,Flat [[I (1+a*2+b)]]],[],[]] (by kernel_rfl) (by kernel_rfl) (by kernel_rfl) h
theorem adV(h:ad [.w A j k b,.k A 138 o p j k 3 b,.b (decide (a<b)) true,.a (.ig (KZ A a c d e C f g i b l m n)),.p (ee prog (cO f319 14) (Tg A a c d e C f g i j k b) (KZ A a c d e C f g i b l m n)),.u a]):
 a1 (ar f319 0) (tr A a c d e C f g i o p) .normal (tr A (a+1) c d e (C++[[I (1+a*2+n)]]) f g i l m):=
 h.aW [4,0,3,2] [3,2,1000000000]
def xo(A:af)(a b c:Int)(C:af)(d e f g i:Int):aH:=bj 55 [(0,aR 1000000000),(2,aR 2),(3,aR 3)] [(3,[aw a,aw b,aw c,aG 52 1 C]),(2,[aw d,aw e,aw f,.v (aO)]),(1000000000,[.dg 1000000100 1 A,aw g,aw i])]
theorem adW(h:ad [.w A a b c,.k A 138 l m a b 3 c,.b (decide (d<c)) false]):
 a1 (ar f319 0) (tr A d e f g C i j k l m) (.exit 1) (xo A e f g C i j k a b):=
 h.aW [3,2,0] [3,2,1000000000]
def EB(A:af)(a b c d e:Int)(l:List O):List O:=.w A a b c::.k A 138 d e a b 8 c::l
theorem adX(h:ad (EB A c d a g n [.v (1+a),.b (1+a==2) true,.w A e f b,.p (bT prog 140 [aM.cur [D.J 1 A,I c,I d] [D.J 1 A,I e,I f],aM.ro (.one (.J 1 [[I 0],[I 1],[I 3],[I 10],[I 999]]))] (aS.vals [ae b])),.b (1+a != 8) true,.l [(4000003,52,1)] [4,0,3,2] [3,2,1000000000] (ar f319 0) (tr A 0 (1+a) b 0 [] 0 0 0 e f) (.exit 1) (xo A i j k C o p a0 l m)])):
 b3 319 [aM.cur [D.J 1 A,I g,I n] [D.J 1 A,I l,I m]] (aS.vals [.agg (bk i j k C)]):=
 h.b5
def EC(A:af)(a b c d e:Int)(l:List O):List O:=EB A a b c d e (.v (1+c)::.b (1+c==2) false::l)
theorem adY(h:ad (EC A f g a k o [.b (1+a==3) true,.w A i j b,.w A c d e,.k A 138 f g i j 4 b,.v (1+b),.k A 138 i j c d (1+b) e,.b (1+a != 8) true,.l [(4000003,52,1)] [4,0,3,2] [3,2,1000000000] (ar f319 0) (tr A 0 (1+a) (1+b) e [] 0 0 0 c d) (.exit 1) (xo A l m n C b4 cW d0 p a0)])):
 b3 319 [aM.cur [D.J 1 A,I k,I o] [D.J 1 A,I p,I a0]] (aS.vals [.agg (bk l m n C)]):=
 h.b5
theorem adZ(h:ad (EC A c d a g n [.b (1+a==3) false,.b (1+a==4) true,.w A e f b,.p (bT prog 140 [aM.cur [D.J 1 A,I c,I d] [D.J 1 A,I e,I f],aM.ro (.one (.J 1 [[I 0],[I 1],[I 2],[I 3],[I 50],[I 99]]))] (aS.vals [ae b])),.b (1+a != 8) true,.l [(4000003,52,1)] [4,0,3,2] [3,2,1000000000] (ar f319 0) (tr A 0 (1+a) b 0 [] 0 0 0 e f) (.exit 1) (xo A i j k C o p a0 l m)])):
 b3 319 [aM.cur [D.J 1 A,I g,I n] [D.J 1 A,I l,I m]] (aS.vals [.agg (bk i j k C)]):=
 h.b5
theorem afq(h:ad (EC A b c a d g [.b (1+a==3) false,.b (1+a==4) false,.b (1+a != 8) true,.l [(4000003,52,1)] [4,0,3,2] [3,2,1000000000] (ar f319 0) (tr A 0 (1+a) 0 0 [] 0 0 0 b c) (.exit 1) (xo A i j k C l m n e f)])):
 b3 319 [aM.cur [D.J 1 A,I d,I g] [D.J 1 A,I e,I f]] (aS.vals [.agg (bk i j k C)]):=
 h.b5
theorem afr(h:ad (EC A b c a d e [.b (1+a==3) false,.b (1+a==4) false,.b (1+a != 8) false])):
 b3 319 [aM.cur [D.J 1 A,I d,I e] [D.J 1 A,I b,I c]] (aS.vals [.agg (bk (1+a) 0 0 [])]):=
 h.b5
def AV(A:af)(a b c d e:Int)(C:af)(f g i j k:Int)(l:List O):List O:=.a (.dj [some [D.J 1 A,I a,I b]] (aS.vals [.agg (bk c d e C)]))::.w A f g i::.p (bT prog 319 [aM.cur [D.J 1 A,I j,I k] [D.J 1 A,I a,I b]] (aS.vals [.agg (bk c d e C)]))::.k A 138 a b f g 12 i::l
theorem afs(h:ad (AV A g i n j k C b c d l m [.b (d==0) true,.w A e f a,.k A 138 b c e f 11 a,.v (a-1)])):
 b3 252 [aM.cur [D.J 1 A,I l,I m] [D.J 1 A,I e,I f]] (aS.vals [.agg (bk (a-1) j k C)]):=
 h.b5
theorem aft(h:ad (AV A g i j n k C b c a l m [.b (a==0) false,.b (a==1) true,.w A d e f,.p (bT prog 140 [aM.cur [D.J 1 A,I b,I c] [D.J 1 A,I d,I e],aM.ro (.one (.J 1 [[I (-1)],[I 0],[I 1000],[I 100],[I 11]]))] (aS.vals [ae f]))])):
 b3 252 [aM.cur [D.J 1 A,I l,I m] [D.J 1 A,I d,I e]] (aS.vals [.agg (bk j f k C)]):=
 h.b5
theorem afu(h:ad (AV A g i j k n C b c a l m [.b (a==0) false,.b (a==1) false,.b (a==2) true,.w A d e f,.p (bT prog 140 [aM.cur [D.J 1 A,I b,I c] [D.J 1 A,I d,I e],aM.ro (.one (.J 1 [[I (-1)],[I 1],[I 3]]))] (aS.vals [ae f]))])):
 b3 252 [aM.cur [D.J 1 A,I l,I m] [D.J 1 A,I d,I e]] (aS.vals [.agg (bk j k f C)]):=
 h.b5
def K0(C:af)(b c d:Int)(A:af)(e f a:Int):aH:=bj 37 [(0,aR 1000000000),(2,aR 2),(3,aR 3),(4,aR 1000000000),(5,aI.aJ (bq.agg [aw b,aw c,aw d,aG 60003 1 A])),(6,aR 1000000000),(7,aZ a),(8,.aJ (.one (.bc (a==0)))),(9,.aJ (.one (.bc (a==0)))),(14,.aJ (.one (.bc (a==1)))),(15,.aJ (.one (.bc (a==1)))),(20,.aJ (.one (.bc (a==2)))),(21,.aJ (.one (.bc (a==2)))),(26,.aJ (.one (.bc (a==3)))),(27,.aJ (.one (.bc (a==3))))] [(3,[aw b,aw c,aw d,aG 60003 1 A]),(2,[aw 0,aw 0,aw 0,.v (aO)]),(1000000000,[.dg 1000000100 1 C,aw e,aw f])]
def K1(P:Program)(W:Array Oper)(A:af)(g i j:Int)(C:af)(a b c d e f:Int):aH:=
 mP P W [[],[],[],[],[.dj [some [D.J 1 A,I d,I e],none] (aS.vals [ae f])],[],[],[],[]] (K0 A g i j C a b c)
theorem afv{A:af}{g i j:Int}{C:af}{b c d e f a:Int}
  (h:cE [bT prog 140 [aM.cur [D.J 1 A,I b,I c] [D.J 1 A,I e,I f],aM.ro (.one (.J 1 [[I 1],[I 7],[I 8],[I (-1)]]))] (aS.vals [ae a]),(C.length+[[I a]].length)*8<=140737488355328,C.length+[[I a]].length<=9223372036854775807,Flat [[I a]]]):
  ee prog (cO f252 10) (K0 A g i j C b c d) (K1 prog (cO f252 10) A g i j C b c d e f a):=
 .nH [0,0,0,0,1,0,3,0,0] h
theorem afw(h:ad (AV A k l b c d C e f a m n [.b (a==0) false,.b (a==1) false,.b (a==2) false,.b (a==3) true,.a (.ig (K1 prog (cO f252 10) A b c d C e f a g i j)),.p (ee prog (cO f252 10) (K0 A b c d C e f a) (K1 prog (cO f252 10) A b c d C e f a g i j))])):
 b3 252 [aM.cur [D.J 1 A,I m,I n] [D.J 1 A,I g,I i]] (aS.vals [.agg (bk b c d (C++[[I j]]))]):=
 h.b5
theorem afx(h:ad (AV A d e f g i C b c a j k [.b (a==0) false,.b (a==1) false,.b (a==2) false,.b (a==3) false])):
 b3 252 [aM.cur [D.J 1 A,I j,I k] [D.J 1 A,I b,I c]] (aS.vals [.agg (bk f g i C)]):=
 h.b5
def sq(A:af)(a g:Int)(C:af)(i j k l m n b c d e f:Int):aH:=bj 40 [(0,aR 1000000000),(2,aR 2),(3,aR 3),(4,aZ a)] [(3,[aw g,aG 900004001 5 C,aw i,aw j,aw k,aw l]),(2,[aw m,.v (aO),aw n,aw b,aw c,aw d]),(1000000000,[.dg 1000000100 1 A,aw e,aw f])]
def Lu(A:af)(a b c d e f g i j:Int)(l:List O):List O:=.w A a b c::.k A 138 d e a b 9 c::.b (decide (f<c)) true::.w A g i j::.k A 138 a b g i 4 j::l
theorem afy(h:ad (Lu A b c d cW d0 a e f g [.b (g==0) true,.r 260 [.agg (bO i C j k l m)] [.agg (bO bz E f0 g0 i0 j0),.agg (bi dh eP m0 HD Ct),ao q],.u a])):
 a1 (ar f327 0) (sq A a i C j k l m n o p a0 b4 cW d0) .normal (sq A (a+1) bz E f0 g0 i0 j0 n o p a0 b4 e f):=
 h.pO [(4000001,900004001,5)] [4,0,3,2] [3,2,1000000000]
theorem afz(h:ad (Lu A c d e cW d0 a f g b [.b (b==0) false,.b (b==1) true,.r 261 [.agg (bO i C j k l m)] [.agg (bO bz E f0 g0 i0 j0),ao q],.u a])):
 a1 (ar f327 0) (sq A a i C j k l m n o p a0 b4 cW d0) .normal (sq A (a+1) bz E f0 g0 i0 j0 n o p a0 b4 f g):=
 h.pO [(4000001,900004001,5)] [4,0,3,2] [3,2,1000000000]
def K2(A:af)(b j:Int)(C:af)(k l m n o p d e f c g i a:Int):aH:=bj 40 [(0,aR 1000000000),(2,aR 2),(3,aR 3),(4,aZ b),(9,aZ b),(10,aR 1000000000),(11,aZ c),(12,.aJ (.one (.bc (decide (b<c))))),(15,aR 1000000000),(16,aZ a),(24,.aJ (.one (.bc (a==0)))),(25,.aJ (.one (.bc (a==0)))),(32,.aJ (.one (.bc (a==1)))),(33,.aJ (.one (.bc (a==1))))] [(3,[aw j,aG 900004001 5 C,aw k,aw l,aw m,aw n]),(2,[aw o,.v (aO),aw p,aw d,aw e,aw f]),(1000000000,[.dg 1000000100 1 A,aw g,aw i])]
def K3(P:Program)(W:Array Oper)(A:af)(a b:Int)(C:af)(c d e f g i j k l m n o p a0 b4 cW d0 bz f0 g0 i0:Int)(E:af)(j0 dh eP m0:Int)(q:Bool):aH:=
 mP P W [[],[],[.dj [some [D.J 1 A,I a0,I b4]] (aS.vals [.agg (bi cW d0 bz f0 g0)])],[.res [.agg (bO i0 E j0 dh eP m0),ao q]],[],[],[],[]] (K2 A a b C c d e f g i j k l m n o p)
theorem afA{A:af}{n a:Int}{C:af}{b c d e o p a0 b4 cW d0 f g bz f0 g0 i j k l m i0:Int}{E:af}{j0 dh eP m0:Int}{q:Bool}
  (h:cE [bT prog 271 [aM.cur [D.J 1 A,I f,I g] [D.J 1 A,I f0,I g0]] (aS.vals [.agg (bi i j k l m)]),av 258 [.agg (bO a C b c d e),.agg (bi i j k l m)] [.agg (bO i0 E j0 dh eP m0),ao q]]):
  ee prog (cO f327 6) (K2 A n a C b c d e o p a0 b4 cW d0 f g bz) (K3 prog (cO f327 6) A n a C b c d e o p a0 b4 cW d0 f g bz f0 g0 i j k l m i0 E j0 dh eP m0 q):=
 .nH [0,0,1,1,0,0,0,0] h
theorem afB(h:ad (Lu A a0 b4 c dh eP a j k b [.b (b==0) false,.b (b==1) false,.a (.ig (K3 prog (cO f327 6) A a l C m n o p d e f g i c j k b cW d0 m0 HD Ct kP eC bz E f0 g0 i0 j0 q)),.p (ee prog (cO f327 6) (K2 A a l C m n o p d e f g i c j k b) (K3 prog (cO f327 6) A a l C m n o p d e f g i c j k b cW d0 m0 HD Ct kP eC bz E f0 g0 i0 j0 q)),.u a])):
 a1 (ar f327 0) (sq A a l C m n o p d e f g i dh eP) .normal (sq A (a+1) bz E f0 g0 i0 j0 d e f g i cW d0):=
 h.pO [(4000001,900004001,5)] [4,0,3,2] [3,2,1000000000]
def K4(A:af)(a:Int)(C:af)(f g i j k l m b c d e:Int):aH:=bj 40 [(0,aR 1000000000),(2,aR 2),(3,aR 3)] [(3,[aw a,aG 900004001 5 C,aw f,aw g,aw i,aw j]),(2,[aw k,.v (aO),aw l,aw m,aw b,aw c]),(1000000000,[.dg 1000000100 1 A,aw d,aw e])]
theorem afC(h:ad [.w A a b c,.k A 138 p a0 a b 9 c,.b (decide (d<c)) false]):
 a1 (ar f327 0) (sq A d e C f g i j k l m n o p a0) (.exit 0) (K4 A e C f g i j k l m n o a b):=
 h.aW [3,2,0] [3,2,1000000000]
theorem afD(h:ad [.w A b c a,.k A 138 d n b c 4 a,.v (1+a),.r 126 [ae (1+a)] [.agg (bO a0 E b4 e f g)],.l [(4000001,900004001,5)] [4,0,3,2] [3,2,1000000000] (ar f327 0) (sq A 0 a0 E b4 e f g 0 0 0 0 0 b c) (.exit 0) (K4 A i C j k l m cW d0 bz f0 g0 o p)]):
 b3 327 [aM.cur [D.J 1 A,I d,I n] [D.J 1 A,I o,I p]] (aS.vals [.agg (bO i C j k l m)]):=
 h.b5
def x4(A:af)(a b c:Int)(C:af)(d e f g i j k m n:Int)(l:List O):List O:=.a (.dj [some [D.J 1 A,I a,I b]] (aS.vals [.agg (bO c C d e f g)]))::.w A i j k::.p (bT prog 327 [aM.cur [D.J 1 A,I m,I n] [D.J 1 A,I a,I b]] (aS.vals [.agg (bO c C d e f g)]))::.k A 138 a b i j 14 k::l
theorem afE(h:ad (x4 A j k l C p m b c d e f n o [.b (f==0) true,.w A g i a,.k A 138 d e g i 6 a,.v (a-1)])):
 b3 278 [aM.cur [D.J 1 A,I n,I o] [D.J 1 A,I g,I i]] (aS.vals [.agg (bO l C (a-1) m b c)]):=
 h.b5
theorem afF(h:ad (x4 A j k l C m p c d e f a n o [.b (a==0) false,.b (a==1) true,.w A g i b,.k A 138 e f g i 6 b,.v (b-1)])):
 b3 278 [aM.cur [D.J 1 A,I n,I o] [D.J 1 A,I g,I i]] (aS.vals [.agg (bO l C m (b-1) c d)]):=
 h.b5
theorem afG(h:ad (x4 A i j k C l m o b c d a n p [.b (a==0) false,.b (a==1) false,.b (a==2) true,.w A e f g,.p (bT prog 140 [aM.cur [D.J 1 A,I c,I d] [D.J 1 A,I e,I f],aM.ro (.one (.J 1 [[I (-1)],[I 0],[I 1000000000],[I 1000000001]]))] (aS.vals [ae g]))])):
 b3 278 [aM.cur [D.J 1 A,I n,I p] [D.J 1 A,I e,I f]] (aS.vals [.agg (bO k C l m g b)]):=
 h.b5
def K5(C:af)(b:Int)(A:af)(c d e f g i a:Int):aH:=bj 44 [(0,aR 1000000000),(2,aR 2),(3,aR 3),(4,aR 1000000000),(5,aI.aJ (bq.agg [aw b,aG 60001 5 A,aw c,aw d,aw e,aw f])),(6,aR 1000000000),(7,aZ a),(8,.aJ (.one (.bc (a==0)))),(9,.aJ (.one (.bc (a==0)))),(14,.aJ (.one (.bc (a==1)))),(15,.aJ (.one (.bc (a==1)))),(20,.aJ (.one (.bc (a==2)))),(21,.aJ (.one (.bc (a==2)))),(26,.aJ (.one (.bc (a==3)))),(27,.aJ (.one (.bc (a==3))))] [(3,[aw b,aG 60001 5 A,aw c,aw d,aw e,aw f]),(2,[aw 0,.v (aO),aw 0,aw 0,aw 0,aw 0]),(1000000000,[.dg 1000000100 1 C,aw g,aw i])]
def K6(P:Program)(W:Array Oper)(A:af)(n:Int)(C:af)(o p a b c d e f g i j k l m:Int):aH:=
 mP P W [[],[],[],[.dj [some [D.J 1 A,I f,I g]] (aS.vals [.agg (bi i j k l m)])],[],[],[],[]] (K5 A n C o p a b c d e)
theorem afH{A:af}{n:Int}{C:af}{o p i j f g k l m a b c d e:Int}
  (h:cE [bT prog 178 [aM.cur [D.J 1 A,I f,I g] [D.J 1 A,I l,I m]] (aS.vals [.agg (bi a b c d e)]),(C.length+[(bi a b c d e)].length)*40<=140737488355328,C.length+[(bi a b c d e)].length<=9223372036854775807,Flat [(bi a b c d e)]]):
  ee prog (cO f278 10) (K5 A n C o p i j f g k) (K6 prog (cO f278 10) A n C o p i j f g k l m a b c d e):=
 .nH [0,0,0,1,0,3,0,0] h
theorem afI(h:ad (x4 A a0 b4 d C e f b c g i a cW d0 [.b (a==0) false,.b (a==1) false,.b (a==2) false,.b (a==3) true,.a (.ig (K6 prog (cO f278 10) A d C e f b c g i a j k l m n o p)),.p (ee prog (cO f278 10) (K5 A d C e f b c g i a) (K6 prog (cO f278 10) A d C e f b c g i a j k l m n o p))])):
 b3 278 [aM.cur [D.J 1 A,I cW,I d0] [D.J 1 A,I j,I k]] (aS.vals [.agg (bO d (C++[(bi l m n o p)]) e f b c)]):=
 h.b5
theorem afJ(h:ad (x4 A d e f C g i k l b c a j m [.b (a==0) false,.b (a==1) false,.b (a==2) false,.b (a==3) false,.b (a==4) true,.v (1000000000-(C.length:Int))])):
 b3 278 [aM.cur [D.J 1 A,I j,I m] [D.J 1 A,I b,I c]] (aS.vals [.agg (bO f C g i 1000000000 (1000000000-(C.length:Int)))]):=
 h.b5
theorem afK(h:ad (x4 A f g i C j k b c d e a l m [.b (a==0) false,.b (a==1) false,.b (a==2) false,.b (a==3) false,.b (a==4) false])):
 b3 278 [aM.cur [D.J 1 A,I l,I m] [D.J 1 A,I d,I e]] (aS.vals [.agg (bO i C j k b c)]):=
 h.b5
def EE(A:af)(a b c d e f g i j:Int)(l:List O):List O:=.a (.dj [some [D.J 1 A,I a,I b]] (aS.vals [.agg (bi c d e f g)]))::.p (bT prog 271 [aM.cur [D.J 1 A,I i,I j] [D.J 1 A,I a,I b]] (aS.vals [.agg (bi c d e f g)]))::l
theorem afL(h:ad (EE A m n b4 b p c d o a0 [.b (decide ((C.length:Int)>0)) true,.w A e f g,.y A i j q,.k A 138 m n e f (C.length:Int) g,.m A 136 e f i j 4 q,.b q true,.w A k l a,.k A 138 i j k l 2 a,.v (5+a)])):
 b3 350 [aM.cur [D.J 1 A,I o,I a0] [D.J 1 A,I k,I l],aM.ro (.agg (bD C cW d0))] (aS.vals [.agg (bi g b (5+a) c d)]):=
 h.b5
theorem afM(h:ad (EE A k l o a b c d m n [.b (decide ((C.length:Int)>0)) true,.w A e f g,.y A i j q,.k A 138 k l e f (C.length:Int) g,.m A 136 e f i j 4 q,.b q false])):
 b3 350 [aM.cur [D.J 1 A,I m,I n] [D.J 1 A,I i,I j],aM.ro (.agg (bD C p a0))] (aS.vals [.agg (bi g a b c d)]):=
 h.b5
theorem afN(h:ad (EE A j k l b n c d m o [.b (decide ((C.length:Int)>0)) false,.y A e f q,.m A 136 j k e f 4 q,.b q true,.w A g i a,.k A 138 e f g i 2 a,.v (5+a)])):
 b3 350 [aM.cur [D.J 1 A,I m,I o] [D.J 1 A,I g,I i],aM.ro (.agg (bD C p a0))] (aS.vals [.agg (bi l b (5+a) c d)]):=
 h.b5
theorem afO(h:ad (EE A g i j a b c d k l [.b (decide ((C.length:Int)>0)) false,.y A e f q,.m A 136 g i e f 4 q,.b q false])):
 b3 350 [aM.cur [D.J 1 A,I k,I l] [D.J 1 A,I e,I f],aM.ro (.agg (bD C m n))] (aS.vals [.agg (bi j a b c d)]):=
 h.b5
def p9(A:af)(a:Int)(E F G H al K L M C:af)(b c d e:Int):aH:=bj 48 [(0,aR 1000000000),(3,aR 3),(4,aR 4),(5,aR 5),(6,aZ a)] [(5,[aG 900006000 5 E,aG 900006001 5 F,aG 900006002 5 G,aG 900006003 4 H,aG 900006004 1 al,aG 900006005 1 K,aG 900006006 1 L,aG 900006007 2 M]),(4,[.v (aO),.v (aO),.v (aO),.v (aO),.v (aO),.v (aO),.v (aO),.v (aO)]),(3,[.J .free 4 C,aw b,aw c]),(1000000000,[.dg 1000000100 1 A,aw d,aw e])]
def ED(A:af)(a b c d e f g i j:Int)(l:List O):List O:=EB A a b c d e (.b (decide (f<c)) true::.w A g i j::.k A 138 a b g i 5 j::l)
theorem afP(h:ad (ED A d e f k l a g i j [.b (j==0) true,.r 348 [.agg (bD C b c),.agg (ba E F G H al K L M)] [.agg (ba N Q R S bl V X Y),ao q],.u a])):
 a1 (ar f326 0) (p9 A a E F G H al K L M C b c k l) .normal (p9 A (a+1) N Q R S bl V X Y C b c g i):=
 h.pO [(6000000,900006000,5),(6000001,900006001,5),(6000002,900006002,5),(6000003,900006003,4),(6000004,900006004,1),(6000005,900006005,1),(6000006,900006006,1),(6000007,900006007,2)] [6,0,3,5,4] [5,4,3,1000000000]
def K7(A:af)(b:Int)(E F G H al K L M C:af)(d e c f g a:Int):aH:=bj 48 [(0,aR 1000000000),(3,aR 3),(4,aR 4),(5,aR 5),(6,aZ b),(10,aZ b),(11,aR 1000000000),(12,aZ c),(13,.aJ (.one (.bc (decide (b<c))))),(16,aR 1000000000),(17,aZ a),(24,.aJ (.one (.bc (a==0)))),(25,.aJ (.one (.bc (a==0)))),(32,.aJ (.one (.bc (a==1)))),(33,.aJ (.one (.bc (a==1))))] [(5,[aG 900006000 5 E,aG 900006001 5 F,aG 900006002 5 G,aG 900006003 4 H,aG 900006004 1 al,aG 900006005 1 K,aG 900006006 1 L,aG 900006007 2 M]),(4,[.v (aO),.v (aO),.v (aO),.v (aO),.v (aO),.v (aO),.v (aO),.v (aO)]),(3,[.J .free 4 C,aw d,aw e]),(1000000000,[.dg 1000000100 1 A,aw f,aw g])]
def K8(P:Program)(W:Array Oper)(A:af)(a:Int)(C E F G H al K L M:af)(b c d e f g i j k l m n o:Int)(N Q R S bl V X Y:af):aH:=
 mP P W [[],[],[],[.dj [some [D.J 1 A,I i,I j],none] (aS.vals [.agg (bi k l m n o)])],[.res [.agg (ba N Q R S bl V X Y)]],[]] (K7 A a C E F G H al K L M b c d e f g)
theorem ae0{A:af}{k:Int}{C E F G H al K L M:af}{a b l c d m n o e f g i j:Int}{N Q R S bl V X Y:af}
  (h:cE [bT prog 350 [aM.cur [D.J 1 A,I c,I d] [D.J 1 A,I n,I o],aM.ro (.agg (bD M a b))] (aS.vals [.agg (bi e f g i j)]),av 349 [.agg (ba C E F G H al K L),.agg (bi e f g i j)] [.agg (ba N Q R S bl V X Y)]]):
  ee prog (cO f326 10) (K7 A k C E F G H al K L M a b l c d m) (K8 prog (cO f326 10) A k C E F G H al K L M a b l c d m n o e f g i j N Q R S bl V X Y):=
 .nH [0,0,0,1,1,0] h
theorem ae1(h:ad (ED A i j c m n a f g b [.b (b==0) false,.b (b==1) true,.a (.ig (K8 prog (cO f326 10) A a E F G H al K L M C d e c f g b k l o p a0 b4 cW N Q R S bl V X Y)),.p (ee prog (cO f326 10) (K7 A a E F G H al K L M C d e c f g b) (K8 prog (cO f326 10) A a E F G H al K L M C d e c f g b k l o p a0 b4 cW N Q R S bl V X Y)),.u a])):
 a1 (ar f326 0) (p9 A a E F G H al K L M C d e m n) .normal (p9 A (a+1) N Q R S bl V X Y C d e k l):=
 h.pO [(6000000,900006000,5),(6000001,900006001,5),(6000002,900006002,5),(6000003,900006003,4),(6000004,900006004,1),(6000005,900006005,1),(6000006,900006006,1),(6000007,900006007,2)] [6,0,3,5,4] [5,4,3,1000000000]
theorem Th(h:ad (ED A c d e k l b f g a [.b (a==0) false,.b (a==1) false,.b (a==2) true,.r 351 [.agg (ba C E F G H al K L)] [.agg (ba N Q R S bl V X Y),.agg (bi m n o p a0),ao q],.u b])):
 a1 (ar f326 0) (p9 A b C E F G H al K L M i j k l) .normal (p9 A (b+1) N Q R S bl V X Y M i j f g):=
 h.pO [(6000000,900006000,5),(6000001,900006001,5),(6000002,900006002,5),(6000003,900006003,4),(6000004,900006004,1),(6000005,900006005,1),(6000006,900006006,1),(6000007,900006007,2)] [6,0,3,5,4] [5,4,3,1000000000]
theorem ae2(h:ad (ED A e f g k l b i j a [.b (a==0) false,.b (a==1) false,.b (a==2) false,.r 48 [.agg (bD C c d),.agg (ba E F G H al K L M)] [.agg (ba N Q R S bl V X Y),ao q],.u b])):
 a1 (ar f326 0) (p9 A b E F G H al K L M C c d k l) .normal (p9 A (b+1) N Q R S bl V X Y C c d i j):=
 h.pO [(6000000,900006000,5),(6000001,900006001,5),(6000002,900006002,5),(6000003,900006003,4),(6000004,900006004,1),(6000005,900006005,1),(6000006,900006006,1),(6000007,900006007,2)] [6,0,3,5,4] [5,4,3,1000000000]
def K9(A C E F G H al K L:af)(b a:Int):aH:=bj 48 [(0,aR 1000000000),(4,aR 4),(5,aR 5)] [(5,[aG 900006000 5 C,aG 900006001 5 E,aG 900006002 5 F,aG 900006003 4 G,aG 900006004 1 H,aG 900006005 1 al,aG 900006006 1 K,aG 900006007 2 L]),(4,[.v (aO),.v (aO),.v (aO),.v (aO),.v (aO),.v (aO),.v (aO),.v (aO)]),(1000000000,[.dg 1000000100 1 A,aw b,aw a])]
theorem ae3(h:ad (EB A a b c e f [.b (decide (d<c)) false])):
 a1 (ar f326 0) (p9 A d C E F G H al K L M g i e f) (.exit 0) (K9 A C E F G H al K L a b):=
 h.aW [5,4,0] [5,4,1000000000]
theorem ae4(h:ad [.a (.dj [some [D.J 1 A,I a,I b]] (aS.vals [a7 5 C])),.p (bT prog 119 [aM.cur [D.J 1 A,I c,I d] [D.J 1 A,I a,I b]] (aS.vals [a7 5 C])),.r 124 [a7 5 C] [.agg (ba E F G H al K L M)],.l [(6000000,900006000,5),(6000001,900006001,5),(6000002,900006002,5),(6000003,900006003,4),(6000004,900006004,1),(6000005,900006005,1),(6000006,900006006,1),(6000007,900006007,2)] [6,0,3,5,4] [5,4,3,1000000000] (ar f326 0) (p9 A 0 E F G H al K L M Z g i a b) (.exit 0) (K9 A N Q R S bl V X Y e f)]):
 b3 326 [aM.cur [D.J 1 A,I c,I d] [D.J 1 A,I e,I f],aM.ro (.agg (bD Z g i))] (aS.vals [.agg (ba N Q R S bl V X Y)]):=
 h.b5
def K'(M A:af)(b c:Int)(F G H al K L C E:af)(d e a:Int):aH:=bj 80 [(0,aR 1000000000),(1,aI.aJ (bq.agg [.J .free 4 A,aw b,aw c])),(3,aR 3),(4,aR 4),(5,aR 5),(6,aR 1000000000),(7,aI.aJ (bq.agg [.J .free 4 A,aw b,aw c])),(8,aI.aJ (bq.agg [aG 90000 5 F,aG 90001 5 G,aG 90002 5 H,aG 90003 4 al,aG 90004 1 K,aG 90005 1 L,aG 90006 1 C,aG 90007 2 E])),(9,aR 1000000000),(10,aZ a),(11,.aJ (.one (.bc (a==0)))),(12,.aJ (.one (.bc (a==0))))] [(5,[aG 90000 5 F,aG 90001 5 G,aG 90002 5 H,aG 90003 4 al,aG 90004 1 K,aG 90005 1 L,aG 90006 1 C,aG 90007 2 E]),(4,[.v (aO),.v (aO),.v (aO),.v (aO),.v (aO),.v (aO),.v (aO),.v (aO)]),(3,[.J .free 4 A,aw b,aw c]),(1000000000,[.dg 1000000100 1 M,aw d,aw e])]
def La(P:Program)(W:Array Oper)(A L:af)(l m:Int)(M C E F G H al K:af)(a b c d e f g i j k:Int):aH:=
 mP P W [[],[],[],[.dj [some [D.J 1 A,I d,I e]] (aS.vals [.agg (bi f g i j k)])],[],[],[],[]] (K' A L l m M C E F G H al K a b c)
theorem ae5{A M:af}{l m:Int}{C E F G H al K L:af}{f g i j k a b c d e:Int}
  (h:cE [bT prog 178 [aM.cur [D.J 1 A,I f,I g] [D.J 1 A,I j,I k]] (aS.vals [.agg (bi a b c d e)]),(C.length+[(bi a b c d e)].length)*40<=140737488355328,C.length+[(bi a b c d e)].length<=9223372036854775807,Flat [(bi a b c d e)]]):
  ee prog (cO f277 4) (K' A M l m C E F G H al K L f g i) (La prog (cO f277 4) A M l m C E F G H al K L f g i j k a b c d e):=
 .nH [0,0,0,1,0,3,0,0] h
def Lv(A:af)(a b:Int)(C E F G H al K L:af)(c d e f g:Int)(M:af)(i j:Int)(l:List O):List O:=.a (.dj [some [D.J 1 A,I a,I b],none] (aS.vals [.agg (ba C E F G H al K L)]))::.w A c d e::.p (bT prog 326 [aM.cur [D.J 1 A,I f,I g] [D.J 1 A,I a,I b],aM.ro (.agg (bD M i j))] (aS.vals [.agg (ba C E F G H al K L)]))::.k A 138 a b c d 16 e::l
theorem ae6(h:ad (Lv A n o L C E F G H al K b c a p a0 M d e [.b (a==0) true,.a (.ig (La prog (cO f277 4) A M d e L C E F G H al K b c a f g i j k l m)),.p (ee prog (cO f277 4) (K' A M d e L C E F G H al K b c a) (La prog (cO f277 4) A M d e L C E F G H al K b c a f g i j k l m))])):
 b3 277 [aM.cur [D.J 1 A,I p,I a0] [D.J 1 A,I f,I g],aM.ro (.agg (bD M d e))] (aS.vals [.agg (ba (L++[(bi i j k l m)]) C E F G H al K)]):=
 h.b5
def Lb(M A:af)(b c:Int)(F G H al K L C E:af)(d e a:Int):aH:=bj 80 [(0,aR 1000000000),(1,aI.aJ (bq.agg [.J .free 4 A,aw b,aw c])),(3,aR 3),(4,aR 4),(5,aR 5),(6,aR 1000000000),(7,aI.aJ (bq.agg [.J .free 4 A,aw b,aw c])),(8,aI.aJ (bq.agg [aG 90000 5 F,aG 90001 5 G,aG 90002 5 H,aG 90003 4 al,aG 90004 1 K,aG 90005 1 L,aG 90006 1 C,aG 90007 2 E])),(9,aR 1000000000),(10,aZ a),(11,.aJ (.one (.bc (a==0)))),(12,.aJ (.one (.bc (a==0)))),(20,.aJ (.one (.bc (a==1)))),(21,.aJ (.one (.bc (a==1))))] [(5,[aG 90000 5 F,aG 90001 5 G,aG 90002 5 H,aG 90003 4 al,aG 90004 1 K,aG 90005 1 L,aG 90006 1 C,aG 90007 2 E]),(4,[.v (aO),.v (aO),.v (aO),.v (aO),.v (aO),.v (aO),.v (aO),.v (aO)]),(3,[.J .free 4 A,aw b,aw c]),(1000000000,[.dg 1000000100 1 M,aw d,aw e])]
def Lc(P:Program)(W:Array Oper)(A L:af)(l m:Int)(M C E F G H al K:af)(a b c d e f g i j k:Int):aH:=
 mP P W [[],[],[],[.dj [some [D.J 1 A,I d,I e]] (aS.vals [.agg (bi f g i j k)])],[],[],[],[]] (Lb A L l m M C E F G H al K a b c)
theorem ae7{A L:af}{l m:Int}{M E C F G H al K:af}{f g i j k a b c d e:Int}
  (h:cE [bT prog 271 [aM.cur [D.J 1 A,I f,I g] [D.J 1 A,I j,I k]] (aS.vals [.agg (bi a b c d e)]),(C.length+[(bi a b c d e)].length)*40<=140737488355328,C.length+[(bi a b c d e)].length<=9223372036854775807,Flat [(bi a b c d e)]]):
  ee prog (cO f277 6) (Lb A L l m M E C F G H al K f g i) (Lc prog (cO f277 6) A L l m M E C F G H al K f g i j k a b c d e):=
 .nH [0,0,0,1,0,3,0,0] h
theorem ae8(h:ad (Lv A n o L C E F G H al K b c a p a0 M d e [.b (a==0) false,.b (a==1) true,.a (.ig (Lc prog (cO f277 6) A M d e L C E F G H al K b c a f g i j k l m)),.p (ee prog (cO f277 6) (Lb A M d e L C E F G H al K b c a) (Lc prog (cO f277 6) A M d e L C E F G H al K b c a f g i j k l m))])):
 b3 277 [aM.cur [D.J 1 A,I p,I a0] [D.J 1 A,I f,I g],aM.ro (.agg (bD M d e))] (aS.vals [.agg (ba L C (E++[(bi i j k l m)]) F G H al K)]):=
 h.b5
def Ld(M A:af)(b c:Int)(F G H al K L C E:af)(d e a:Int):aH:=bj 80 [(0,aR 1000000000),(1,aI.aJ (bq.agg [.J .free 4 A,aw b,aw c])),(3,aR 3),(4,aR 4),(5,aR 5),(6,aR 1000000000),(7,aI.aJ (bq.agg [.J .free 4 A,aw b,aw c])),(8,aI.aJ (bq.agg [aG 90000 5 F,aG 90001 5 G,aG 90002 5 H,aG 90003 4 al,aG 90004 1 K,aG 90005 1 L,aG 90006 1 C,aG 90007 2 E])),(9,aR 1000000000),(10,aZ a),(11,.aJ (.one (.bc (a==0)))),(12,.aJ (.one (.bc (a==0)))),(20,.aJ (.one (.bc (a==1)))),(21,.aJ (.one (.bc (a==1)))),(29,.aJ (.one (.bc (a==2)))),(30,.aJ (.one (.bc (a==2))))] [(5,[aG 90000 5 F,aG 90001 5 G,aG 90002 5 H,aG 90003 4 al,aG 90004 1 K,aG 90005 1 L,aG 90006 1 C,aG 90007 2 E]),(4,[.v (aO),.v (aO),.v (aO),.v (aO),.v (aO),.v (aO),.v (aO),.v (aO)]),(3,[.J .free 4 A,aw b,aw c]),(1000000000,[.dg 1000000100 1 M,aw d,aw e])]
def Le(P:Program)(W:Array Oper)(A L:af)(g i:Int)(M C E F G H al K:af)(a b c d e f:Int):aH:=
 mP P W [[],[],[],[.dj [some [D.J 1 A,I d,I e],none] (aS.vals [ae f])],[.own],[],[]] (Ld A L g i M C E F G H al K a b c)
theorem ae9{C L:af}{g i:Int}{M E F G A H al K:af}{b c d e f a:Int}
  (h:cE [bT prog 138 [aM.cur [D.J 1 C,I b,I c] [D.J 1 C,I e,I f],aM.ro (ae 4)] (aS.vals [ae a]),(0:Int)<=none.getD 0,none.getD 0<=(some a).getD (A.length:Int),(some a).getD (A.length:Int)<=(A.length:Int)]):
  ee prog (cO f277 8) (Ld C L g i M E F G A H al K b c d) (Le prog (cO f277 8) C L g i M E F G A H al K b c d e f a):=
 .nH [0,0,0,1,3,0,0] h
def EF(A:af)(a b:Int)(C E F G H al K L:af)(c d e f g:Int)(M:af)(i j:Int)(l:List O):List O:=Lv A a b C E F G H al K L c d e f g M i j (.b (e==0) false::.b (e==1) false::l)
theorem afa(h:ad (EF A j k L E F G C H al K b c a l m M d e [.b (a==2) true,.a (.ig (Le prog (cO f277 8) A M d e L E F G C H al K b c a f g i)),.p (ee prog (cO f277 8) (Ld A M d e L E F G C H al K b c a) (Le prog (cO f277 8) A M d e L E F G C H al K b c a f g i))])):
 b3 277 [aM.cur [D.J 1 A,I l,I m] [D.J 1 A,I f,I g],aM.ro (.agg (bD M d e))] (aS.vals [.agg [D.J 5 L,D.J 5 E,D.J 5 F,D.J 4 G,D.J 1 (List.take (((some i).getD (C.length:Int)).toNat-0) (List.drop 0 C)),D.J 1 H,D.J 1 al,D.J 2 K]]):=
 h.b5
def Ti(M A:af)(b c:Int)(F G H al K L C E:af)(d e a:Int):aH:=bj 80 [(0,aR 1000000000),(1,aI.aJ (bq.agg [.J .free 4 A,aw b,aw c])),(3,aR 3),(4,aR 4),(5,aR 5),(6,aR 1000000000),(7,aI.aJ (bq.agg [.J .free 4 A,aw b,aw c])),(8,aI.aJ (bq.agg [aG 90000 5 F,aG 90001 5 G,aG 90002 5 H,aG 90003 4 al,aG 90004 1 K,aG 90005 1 L,aG 90006 1 C,aG 90007 2 E])),(9,aR 1000000000),(10,aZ a),(11,.aJ (.one (.bc (a==0)))),(12,.aJ (.one (.bc (a==0)))),(20,.aJ (.one (.bc (a==1)))),(21,.aJ (.one (.bc (a==1)))),(29,.aJ (.one (.bc (a==2)))),(30,.aJ (.one (.bc (a==2)))),(37,.aJ (.one (.bc (a==3)))),(38,.aJ (.one (.bc (a==3))))] [(5,[aG 90000 5 F,aG 90001 5 G,aG 90002 5 H,aG 90003 4 al,aG 90004 1 K,aG 90005 1 L,aG 90006 1 C,aG 90007 2 E]),(4,[.v (aO),.v (aO),.v (aO),.v (aO),.v (aO),.v (aO),.v (aO),.v (aO)]),(3,[.J .free 4 A,aw b,aw c]),(1000000000,[.dg 1000000100 1 M,aw d,aw e])]
def Lf(M C:af)(c d:Int)(G H al K A L E F:af)(a e f b:Int):aH:=bj 80 [(0,aR 1000000000),(1,aI.aJ (bq.agg [.J .free 4 C,aw c,aw d])),(3,aR 3),(4,aR 4),(5,aR 5),(6,aR 1000000000),(7,aI.aJ (bq.agg [.J .free 4 C,aw c,aw d])),(8,aI.aJ (bq.agg [aG 90000 5 G,aG 90001 5 H,aG 90002 5 al,aG 90003 4 K,aG 90004 1 (A.set 0 [I b]),aG 90005 1 L,aG 90006 1 E,aG 90007 2 F])),(9,aR 1000000000),(10,aZ a),(11,.aJ (.one (.bc (a==0)))),(12,.aJ (.one (.bc (a==0)))),(20,.aJ (.one (.bc (a==1)))),(21,.aJ (.one (.bc (a==1)))),(29,.aJ (.one (.bc (a==2)))),(30,.aJ (.one (.bc (a==2)))),(37,.aJ (.one (.bc (a==3)))),(38,.aJ (.one (.bc (a==3)))),(39,.aJ (.one (.ptr 5 4))),(40,aI.aJ (bq.one (aG 90004 1 (A.set 0 [I b])))),(41,aR 1000000000),(42,.aJ (.one (.J (.own 42) 1 [[I 1000000],[I 1000001],[I (-1000001)]]))),(43,aZ b),(44,.aJ (.one (.cX (Tag.own 90004) 1 (A.set 0 [I b]) 0 0)))] [(5,[aG 90000 5 G,aG 90001 5 H,aG 90002 5 al,aG 90003 4 K,aG 90004 1 (A.set 0 [I b]),aG 90005 1 L,aG 90006 1 E,aG 90007 2 F]),(4,[.v (aO),.v (aO),.v (aO),.v (aO),.v (aO),.v (aO),.v (aO),.v (aO)]),(3,[.J .free 4 C,aw c,aw d]),(1000000000,[.dg 1000000100 1 M,aw e,aw f])]
theorem afb{A L:af}{g i:Int}{M E F G C H al K:af}{d e f a b c:Int}{d25:D}
  (h:cE [bT prog 140 [aM.cur [D.J 1 A,I d,I e] [D.J 1 A,I a,I b],aM.ro (.one (.J 1 [[I 1000000],[I 1000001],[I (-1000001)]]))] (aS.vals [ae c]),(0:Int)<=0,0<(C.length:Int),C[0]?=some [d25]]):
  ee prog (cO f277 10) (Ti A L g i M E F G C H al K d e f) (Lf A L g i M E F G C H al K f a b c):=
 .of [[],[],[],[],[.dj [some [D.J 1 A,I a,I b],none] (aS.vals [ae c])],[],[.el [d25]]] [[],[],[],[],[bT prog 140 [aM.cur [D.J 1 A,I d,I e] [D.J 1 A,I a,I b],aM.ro (.one (.J 1 [[I 1000000],[I 1000001],[I (-1000001)]]))] (aS.vals [ae c])],[(0:Int)<=0,0<(C.length:Int)],[C[0]?=some [d25]]] (by kernel_rfl) (by kernel_rfl) (by kernel_rfl) h
theorem afc(h:ad (EF A j k L C E F G H al K d e a l m M b c [.b (a==2) false,.b (a==3) true,.a (.ig (Lf A M b c L C E F G H al K a f g i)),.p (ee prog (cO f277 10) (Ti A M b c L C E F G H al K d e a) (Lf A M b c L C E F G H al K a f g i))])):
 b3 277 [aM.cur [D.J 1 A,I l,I m] [D.J 1 A,I f,I g],aM.ro (.agg (bD M b c))] (aS.vals [.agg (ba L C E F (G.set 0 [I i]) H al K)]):=
 h.b5
def Lg(M A:af)(b c:Int)(F G H al K L C E:af)(d e a:Int):aH:=bj 80 [(0,aR 1000000000),(1,aI.aJ (bq.agg [.J .free 4 A,aw b,aw c])),(3,aR 3),(4,aR 4),(5,aR 5),(6,aR 1000000000),(7,aI.aJ (bq.agg [.J .free 4 A,aw b,aw c])),(8,aI.aJ (bq.agg [aG 90000 5 F,aG 90001 5 G,aG 90002 5 H,aG 90003 4 al,aG 90004 1 K,aG 90005 1 L,aG 90006 1 C,aG 90007 2 E])),(9,aR 1000000000),(10,aZ a),(11,.aJ (.one (.bc (a==0)))),(12,.aJ (.one (.bc (a==0)))),(20,.aJ (.one (.bc (a==1)))),(21,.aJ (.one (.bc (a==1)))),(29,.aJ (.one (.bc (a==2)))),(30,.aJ (.one (.bc (a==2)))),(37,.aJ (.one (.bc (a==3)))),(38,.aJ (.one (.bc (a==3)))),(45,.aJ (.one (.bc (a==4)))),(46,.aJ (.one (.bc (a==4))))] [(5,[aG 90000 5 F,aG 90001 5 G,aG 90002 5 H,aG 90003 4 al,aG 90004 1 K,aG 90005 1 L,aG 90006 1 C,aG 90007 2 E]),(4,[.v (aO),.v (aO),.v (aO),.v (aO),.v (aO),.v (aO),.v (aO),.v (aO)]),(3,[.J .free 4 A,aw b,aw c]),(1000000000,[.dg 1000000100 1 M,aw d,aw e])]
def Lh(P:Program)(W:Array Oper)(A L:af)(g i:Int)(M C E F G H al K:af)(a b c d e f:Int):aH:=
 mP P W [[],[],[],[.dj [some [D.J 1 A,I d,I e],none] (aS.vals [ae f])],[],[],[],[],[],[]] (Lg A L g i M C E F G H al K a b c)
theorem afd{A L:af}{g i:Int}{M E F G H al K C:af}{b c d e f a:Int}
  (h:cE [bT prog 138 [aM.cur [D.J 1 A,I b,I c] [D.J 1 A,I e,I f],aM.ro (ae 6)] (aS.vals [ae a]),az .i64 (a-1),(C.length+[[I (a-1),B false]].length)*16<=140737488355328,C.length+[[I (a-1),B false]].length<=9223372036854775807,Flat [[I (a-1),B false]]]):
  ee prog (cO f277 12) (Lg A L g i M E F G H al K C b c d) (Lh prog (cO f277 12) A L g i M E F G H al K C b c d e f a):=
 .nH [0,0,0,1,1,0,0,3,0,0] h
theorem afe(h:ad (EF A j k L C E F G H al K b c a l m M d e [.b (a==2) false,.b (a==3) false,.b (a==4) true,.a (.ig (Lh prog (cO f277 12) A M d e L C E F G H al K b c a f g i)),.p (ee prog (cO f277 12) (Lg A M d e L C E F G H al K b c a) (Lh prog (cO f277 12) A M d e L C E F G H al K b c a f g i))])):
 b3 277 [aM.cur [D.J 1 A,I l,I m] [D.J 1 A,I f,I g],aM.ro (.agg (bD M d e))] (aS.vals [.agg (ba L C E F G H al (K++[[I (i-1),B false]]))]):=
 h.b5
def EN(A:af)(a b:Int)(C E F G H al K L:af)(c d e f g:Int)(M:af)(i j:Int)(l:List O):List O:=EF A a b C E F G H al K L c d e f g M i j (.b (e==2) false::.b (e==3) false::.b (e==4) false::l)
theorem aff(h:ad (EN A g i K C E F G H al L b c a j k M l m [.b (a==5) true,.w A d e f,.k A 138 b c d e 2 f])):
 b3 277 [aM.cur [D.J 1 A,I j,I k] [D.J 1 A,I d,I e],aM.ro (.agg (bD M l m))] (aS.vals [.agg [D.J 5 K,D.J 5 C,D.J 5 E,D.J 4 F,D.J 1 G,D.J 1 H,D.J 1 al,D.J 2 [[I 1,B false],[I f,B true]]]]):=
 h.b5
theorem afg(h:ad (EN A d e L E F G H C al K b c a f g M i j [.b (a==5) false,.b (a==6) true,.g C [[B true]] 1,.h [[B true]]])):
 b3 277 [aM.cur [D.J 1 A,I f,I g] [D.J 1 A,I b,I c],aM.ro (.agg (bD M i j))] (aS.vals [.agg (ba L E F G H (C++[[B true]]) al K)]):=
 h.b5
theorem afh(h:ad (EN A d e L E F C G H al K b c a f g M i j [.b (a==5) false,.b (a==6) false,.b (a==7) true,.g C [[I 0,I 0,I 0,I 0]] 32,.h [[I 0,I 0,I 0,I 0]]])):
 b3 277 [aM.cur [D.J 1 A,I f,I g] [D.J 1 A,I b,I c],aM.ro (.agg (bD M i j))] (aS.vals [.agg (ba L E F (C++[[I 0,I 0,I 0,I 0]]) G H al K)]):=
 h.b5
theorem afi(h:ad (EN A d e L C E F G H al K b c a f g M i j [.b (a==5) false,.b (a==6) false,.b (a==7) false])):
 b3 277 [aM.cur [D.J 1 A,I f,I g] [D.J 1 A,I b,I c],aM.ro (.agg (bD M i j))] (aS.vals [.agg (ba L C E F G H al K)]):=
 h.b5
def Ef(H al:af)(c d e f:Int)(K G:af)(a b:Int)(A C E F:af)(q:Bool):aH:=bj 30 [(0,aR 1000000000),(2,aR 2),(3,aR 3),(4,.aJ (.one (.bc q))),(5,aI.fE [bq.agg [aG 110000 4 G,aw a,aw b,aG 110003 8 A,aG 110004 6 C,aG 110005 5 E,aG 110006 3 F],bq.one (aB.bc q)]),(6,aR 1000000000),(7,aI.aJ (bq.agg [aG 80000 4 al,aw c,aw d])),(8,aR 1000000000),(9,aI.aJ (bq.one (aG 100000 5 K))),(10,aI.fE [bq.agg [aG 110000 4 G,aw a,aw b,aG 110003 8 A,aG 110004 6 C,aG 110005 5 E,aG 110006 3 F],bq.one (aB.bc q)]),(11,aI.aJ (bq.agg [aG 110000 4 G,aw a,aw b,aG 110003 8 A,aG 110004 6 C,aG 110005 5 E,aG 110006 3 F])),(12,.aJ (.one (.bc q)))] [(3,[aG 110000 4 G,aw a,aw b,aG 110003 8 A,aG 110004 6 C,aG 110005 5 E,aG 110006 3 F]),(2,[.v (aO),aw 0,aw 0,.v (aO),.v (aO),.v (aO),.v (aO)]),(1000000000,[.dg 1000000100 1 H,aw e,aw f])]
def z6(P:Program)(W:Array Oper)(A bl:af)(j k a b:Int)(C E:af)(c d:Int)(F G H al:af)(q:Bool)(e f:Int)(K L:af)(g i:Int)(M N Q R S:af):aH:=
 mP P W [[],[],[.dj [some [D.J 1 A,I e,I f],none] (aS.vals [a7 3 K])],[.res [.agg (cl L g i M N Q R),a7 1 S]],[],[],[],[]] (Ef A bl j k a b C E c d F G H al q)
theorem Tj{A bl:af}{j k a b:Int}{K C:af}{c d:Int}{E F G H:af}{q:Bool}{e f:Int}{al L:af}{g i:Int}{M N Q R S:af}
  (h:cE [bT prog 120 [aM.cur [D.J 1 A,I a,I b] [D.J 1 A,I e,I f],aM.ro (ae 40)] (aS.vals [a7 3 al]),av 15 [.agg (cl C c d E F G H),a7 3 al] [.agg (cl L g i M N Q R),a7 1 S]]):
  ee prog (cO f166 2) (Ef A bl j k a b K C c d E F G H q) (z6 prog (cO f166 2) A bl j k a b K C c d E F G H q e f al L g i M N Q R S):=
 .nH [0,0,1,1,0,0,0,0] h
def Li(Q R:af)(e i:Int)(bl K:af)(c d:Int)(L M A C:af)(q:Bool)(S E:af)(a b:Int)(F G H al N:af)(f g:Int)(r:Bool):aH:=bj 30 [(0,aR 1000000000),(2,aR 2),(3,aR 3),(4,.aJ (.one (.bc q))),(5,aI.fE [bq.agg [aG 110000 4 K,aw c,aw d,aG 110003 8 L,aG 110004 6 M,aG 110005 5 A,aG 110006 3 C],bq.one (aB.bc q)]),(6,aR 1000000000),(7,aI.aJ (bq.agg [aG 80000 4 R,aw e,aw i])),(8,aR 1000000000),(9,aI.aJ (bq.one (aG 100000 5 bl))),(10,aI.fE [bq.agg [aG 110000 4 K,aw c,aw d,aG 110003 8 L,aG 110004 6 M,aG 110005 5 A,aG 110006 3 C],bq.one (aB.bc q)]),(11,aI.aJ (bq.agg [aG 110000 4 K,aw c,aw d,aG 110003 8 L,aG 110004 6 M,aG 110005 5 A,aG 110006 3 C])),(12,.aJ (.one (.bc q))),(13,aI.fE [bq.agg [aG 180000 4 E,aw a,aw b,aG 180003 8 F,aG 180004 6 G,aG 180005 5 H,aG 180006 3 al],bq.one (aG 180100 1 N)]),(14,aI.aJ (bq.agg [aG 110000 4 K,aw c,aw d,aG 110003 8 L,aG 110004 6 M,aG 110005 5 A,aG 110006 3 C])),(15,aR 1000000000),(16,aI.aJ (bq.one (aG 170000 3 S))),(17,aI.fE [bq.agg [aG 180000 4 E,aw a,aw b,aG 180003 8 F,aG 180004 6 G,aG 180005 5 H,aG 180006 3 al],bq.one (aG 180100 1 N)]),(18,aI.aJ (bq.agg [aG 180000 4 E,aw a,aw b,aG 180003 8 F,aG 180004 6 G,aG 180005 5 H,aG 180006 3 al])),(19,aI.aJ (bq.one (aG 180100 1 N))),(20,aR 1000000000),(21,.aJ (.one (.bc r)))] [(3,[aG 180000 4 E,aw a,aw b,aG 180003 8 F,aG 180004 6 G,aG 180005 5 H,aG 180006 3 al]),(2,[.v (aO),aw 0,aw 0,.v (aO),.v (aO),.v (aO),.v (aO)]),(1000000000,[.dg 1000000100 1 Q,aw f,aw g])]
def Ku(P:Program)(W:Array Oper)(A dL:af)(n o:Int)(C E:af)(a b:Int)(F G H al:af)(q:Bool)(K L:af)(c d:Int)(M N Q R S:af)(e f:Int)(r:Bool)(g i j:Int)(bl:af)(k l:Int)(V X Y Z:af)(m:Int):aH:=
 mP P W [[],[],[.dj [some [D.J 1 A,I g,I i],none] (aS.vals [ae j])],[.res [.agg (cl bl k l V X Y Z),ae m]],[],[],[],[]] (Li A dL n o C E a b F G H al q K L c d M N Q R S e f r)
theorem afj{A dL:af}{n o:Int}{al K:af}{f g:Int}{L M N Q:af}{q:Bool}{R C:af}{a b:Int}{E F G H S:af}{c d:Int}{r:Bool}{i j e:Int}{bl:af}{k l:Int}{V X Y Z:af}{m:Int}
  (h:cE [bT prog 138 [aM.cur [D.J 1 A,I c,I d] [D.J 1 A,I i,I j],aM.ro (ae 12)] (aS.vals [ae e]),av 16 [.agg (cl C a b E F G H),ae e] [.agg (cl bl k l V X Y Z),ae m]]):
  ee prog (cO f166 4) (Li A dL n o al K f g L M N Q q R C a b E F G H S c d r) (Ku prog (cO f166 4) A dL n o al K f g L M N Q q R C a b E F G H S c d r i j e bl k l V X Y Z m):=
 .nH [0,0,1,1,0,0,0,0] h
def UA(A:af)(a b:Int)(C:af)(c d e f:Int)(E:af)(g i:Int)(F:af)(j k:Int)(G H al K:af)(q:Bool)(l:List O):List O:=.a (.dj [some [D.J 1 A,I a,I b]] (aS.vals [.agg (bD C c d)]))::.a (.dj [some [D.J 1 A,I e,I f]] (aS.vals [a7 5 E]))::.p (bT prog 118 [aM.cur [D.J 1 A,I g,I i] [D.J 1 A,I a,I b]] (aS.vals [.agg (bD C c d)]))::.p (bT prog 119 [aM.cur [D.J 1 A,I a,I b] [D.J 1 A,I e,I f]] (aS.vals [a7 5 E]))::.r 14 [.agg (bD C c d),a7 5 E] [.agg (cl F j k G H al K),ao q]::l
theorem afk(h:ad (UA A p cW E a b e f C d0 bz F c d G H al K q [.a (.ig (z6 prog (cO f166 2) A E a b e f C F c d G H al K q l m L M g i N Q R S bl)),.y A j k r,.p (ee prog (cO f166 2) (Ef A E a b e f C F c d G H al K q) (z6 prog (cO f166 2) A E a b e f C F c d G H al K q l m L M g i N Q R S bl)),.m A 136 l m j k 4 r,.b r true,.a (.ig (Ku prog (cO f166 4) A E a b C F c d G H al K q L M g i N Q R S bl j k r n o f0 V a0 b4 X Y Z dL g0)),.p (ee prog (cO f166 4) (Li A E a b C F c d G H al K q L M g i N Q R S bl j k r) (Ku prog (cO f166 4) A E a b C F c d G H al K q L M g i N Q R S bl j k r n o f0 V a0 b4 X Y Z dL g0))])):
 b3 166 [aM.cur [D.J 1 A,I d0,I bz] [D.J 1 A,I n,I o]] (aS.vals [.agg (cl V a0 b4 X Y Z dL)]):=
 h.b5
theorem afl(h:ad (UA A n o E a b c d C p a0 F e f G H al K q [.a (.ig (z6 prog (cO f166 2) A E a b c d C F e f G H al K q g i S L j k M N Q R bl)),.y A l m r,.p (ee prog (cO f166 2) (Ef A E a b c d C F e f G H al K q) (z6 prog (cO f166 2) A E a b c d C F e f G H al K q g i S L j k M N Q R bl)),.m A 136 g i l m 4 r,.b r false])):
 b3 166 [aM.cur [D.J 1 A,I p,I a0] [D.J 1 A,I l,I m]] (aS.vals [.agg (cl L j k M N Q R)]):=
 h.b5
def Tk(H C:af)(b c:Int)(A E F G:af)(d f e a:Int):aH:=bj 82 [(0,aR 1000000000),(2,aR 2),(3,aR 3),(4,aZ d),(5,aR 1000000000),(6,aI.aJ (bq.agg [aG 70000 4 C,aw b,aw c,aG 70003 8 A,aG 70004 6 E,aG 70005 5 F,aG 70006 3 G])),(7,aR 1000000000),(8,.aJ (.one (.ptr 3 3))),(9,aI.aJ (bq.one (aG 70003 8 A))),(10,aZ (A.length:Int)),(11,aZ d),(12,aR 1000000000),(13,aZ a),(14,.aJ (.one (.bc (a==0)))),(15,.aJ (.one (.bc (a==0))))] [(3,[aG 70000 4 C,aw b,aw c,aG 70003 8 A,aG 70004 6 E,aG 70005 5 F,aG 70006 3 G]),(2,[.v (aO),aw 0,aw 0,.v (aO),.v (aO),.v (aO),.v (aO)]),(1000000000,[.dg 1000000100 1 H,aw f,aw e])]
def Kv(S M:af)(b c:Int)(A N Q R:af)(a d e f:Int)(C E F G H al K L:af):aH:=bj 82 [(0,aR 1000000000),(2,aR 2),(3,aR 3),(4,aZ a),(5,aR 1000000000),(6,aI.aJ (bq.agg [aG 70000 4 M,aw b,aw c,aG 70003 8 (A.set a.toNat (ba C E F G H al K L)),aG 70004 6 N,aG 70005 5 Q,aG 70006 3 R])),(7,aR 1000000000),(8,.aJ (.one (.ptr 3 3))),(9,aI.aJ (bq.one (aG 70003 8 (A.set a.toNat (ba C E F G H al K L))))),(10,aZ (A.length:Int)),(11,aZ a),(12,aR 1000000000),(13,aZ d),(14,.aJ (.one (.bc (d==0)))),(15,.aJ (.one (.bc (d==0)))),(16,.aJ (.one (.ptr 3 3))),(17,aI.aJ (bq.one (aG 70003 8 (A.set a.toNat (ba C E F G H al K L))))),(18,aZ a),(19,aR 1000000000),(20,aR 3),(21,aI.aJ (bq.agg [aG 70000 4 M,aw b,aw c])),(22,aI.aJ (bq.agg [.cp,.cp,.cp,.cp,.cp,.cp,.cp,.cp])),(23,.aJ (.one (.cX (Tag.own 70003) 8 (A.set a.toNat (ba C E F G H al K L)) a.toNat 0)))] [(3,[aG 70000 4 M,aw b,aw c,aG 70003 8 (A.set a.toNat (ba C E F G H al K L)),aG 70004 6 N,aG 70005 5 Q,aG 70006 3 R]),(2,[.v (aO),aw 0,aw 0,.v (aO),.v (aO),.v (aO),.v (aO)]),(1000000000,[.dg 1000000100 1 S,aw e,aw f])]
theorem afm{A N:af}{d e:Int}{C Q R S:af}{a f g i b c:Int}{E F G H al K L M:af}{d32 d33 d34 d35 d36 d37 d38 d39:D}
  (h:cE [bT prog 277 [aM.cur [D.J 1 A,I f,I g] [D.J 1 A,I b,I c],aM.ro (.agg (bD N d e))] (aS.vals [.agg (ba E F G H al K L M)]),0<=a,a<(C.length:Int),C[a.toNat]?=some [d32,d33,d34,d35,d36,d37,d38,d39]]):
  ee prog (cO f185 5) (Tk A N d e C Q R S a f g i) (Kv A N d e C Q R S a i b c E F G H al K L M):=
 .of [[],[],[],[],[],[],[.dj [some [D.J 1 A,I b,I c],none] (aS.vals [.agg (ba E F G H al K L M)])],[],[.el [d32,d33,d34,d35,d36,d37,d38,d39]]] [[],[],[],[],[],[],[bT prog 277 [aM.cur [D.J 1 A,I f,I g] [D.J 1 A,I b,I c],aM.ro (.agg (bD N d e))] (aS.vals [.agg (ba E F G H al K L M)])],[0<=a,a<(C.length:Int)],[C[a.toNat]?=some [d32,d33,d34,d35,d36,d37,d38,d39]]] (by kernel_rfl) (by kernel_rfl) (by kernel_rfl) h
def LC(A:af)(a b:Int)(C:af)(c d:Int)(E F G H:af)(e f g i j k m n:Int)(l:List O):List O:=.a (.dj [some [D.J 1 A,I a,I b]] (aS.vals [.agg (cl C c d E F G H)]))::.w A e f g::.w A i j k::.p (bT prog 166 [aM.cur [D.J 1 A,I m,I n] [D.J 1 A,I a,I b]] (aS.vals [.agg (cl C c d E F G H)]))::.k A 138 a b e f (E.length:Int) g::.k A 138 e f i j 20 k::l
theorem afn(h:ad (LC A l m H c d C E F G e f a g i b n o [.b (b==0) true,.a (.ig (Kv A H c d C E F G a b j k al K L M N Q R S)),.p (ee prog (cO f185 5) (Tk A H c d C E F G a g i b) (Kv A H c d C E F G a b j k al K L M N Q R S))])):
 b3 185 [aM.cur [D.J 1 A,I n,I o] [D.J 1 A,I j,I k]] (aS.vals [.agg (cl H c d (C.set a.toNat (ba al K L M N Q R S)) E F G)]):=
 h.b5
def Tl(H C:af)(b c:Int)(A E F G:af)(d f e a:Int):aH:=bj 82 [(0,aR 1000000000),(2,aR 2),(3,aR 3),(4,aZ d),(5,aR 1000000000),(6,aI.aJ (bq.agg [aG 70000 4 C,aw b,aw c,aG 70003 8 A,aG 70004 6 E,aG 70005 5 F,aG 70006 3 G])),(7,aR 1000000000),(8,.aJ (.one (.ptr 3 3))),(9,aI.aJ (bq.one (aG 70003 8 A))),(10,aZ (A.length:Int)),(11,aZ d),(12,aR 1000000000),(13,aZ a),(14,.aJ (.one (.bc (a==0)))),(15,.aJ (.one (.bc (a==0)))),(24,.aJ (.one (.bc (a==1)))),(25,.aJ (.one (.bc (a==1))))] [(3,[aG 70000 4 C,aw b,aw c,aG 70003 8 A,aG 70004 6 E,aG 70005 5 F,aG 70006 3 G]),(2,[.v (aO),aw 0,aw 0,.v (aO),.v (aO),.v (aO),.v (aO)]),(1000000000,[.dg 1000000100 1 H,aw f,aw e])]
def Kw(al F:af)(i j:Int)(E A G H:af)(k g a l m b:Int)(C:af)(c d e f:Int):aH:=bj 82 [(0,aR 1000000000),(2,aR 2),(3,aR 3),(4,aZ k),(5,aR 1000000000),(6,aI.aJ (bq.agg [aG 70000 4 F,aw i,aw j,aG 70003 8 E,aG 70004 6 (A.set a.toNat (bO b C c d e f)),aG 70005 5 G,aG 70006 3 H])),(7,aR 1000000000),(8,.aJ (.one (.ptr 3 3))),(9,aI.aJ (bq.one (aG 70003 8 E))),(10,aZ (E.length:Int)),(11,aZ k),(12,aR 1000000000),(13,aZ g),(14,.aJ (.one (.bc (g==0)))),(15,.aJ (.one (.bc (g==0)))),(24,.aJ (.one (.bc (g==1)))),(25,.aJ (.one (.bc (g==1)))),(26,.aJ (.one (.ptr 3 4))),(27,aI.aJ (bq.one (aG 70004 6 (A.set a.toNat (bO b C c d e f))))),(28,aR 1000000000),(29,.aJ (.one (.ptr 3 4))),(30,aI.aJ (bq.one (aG 70004 6 (A.set a.toNat (bO b C c d e f))))),(31,aZ (A.length:Int)),(32,aZ a),(33,aR 1000000000),(34,aI.aJ (bq.agg [aw b,.cp,aw c,aw d,aw e,aw f])),(35,.aJ (.one (.cX (Tag.own 70004) 6 (A.set a.toNat (bO b C c d e f)) a.toNat 0)))] [(3,[aG 70000 4 F,aw i,aw j,aG 70003 8 E,aG 70004 6 (A.set a.toNat (bO b C c d e f)),aG 70005 5 G,aG 70006 3 H]),(2,[.v (aO),aw 0,aw 0,.v (aO),.v (aO),.v (aO),.v (aO)]),(1000000000,[.dg 1000000100 1 al,aw l,aw m])]
theorem afo{A H:af}{p a0:Int}{al C F G:af}{n l m o b c a d e f:Int}{E:af}{g i j k:Int}{d34 d35 d36 d37 d38 d39:D}
  (h:cE [bT prog 138 [aM.cur [D.J 1 A,I l,I m] [D.J 1 A,I b,I c],aM.ro (ae (C.length:Int))] (aS.vals [ae a]),bT prog 278 [aM.cur [D.J 1 A,I b,I c] [D.J 1 A,I d,I e]] (aS.vals [.agg (bO f E g i j k)]),0<=a,a<(C.length:Int),C[a.toNat]?=some [d34,d35,d36,d37,d38,d39]]):
  ee prog (cO f185 7) (Tl A H p a0 al C F G n l m o) (Kw A H p a0 al C F G n o a d e f E g i j k):=
 .of [[],[],[],[],[],[],[.dj [some [D.J 1 A,I b,I c],none] (aS.vals [ae a])],[],[.dj [some [D.J 1 A,I d,I e]] (aS.vals [.agg (bO f E g i j k)])],[],[.el [d34,d35,d36,d37,d38,d39]]] [[],[],[],[],[],[],[bT prog 138 [aM.cur [D.J 1 A,I l,I m] [D.J 1 A,I b,I c],aM.ro (ae (C.length:Int))] (aS.vals [ae a])],[],[bT prog 278 [aM.cur [D.J 1 A,I b,I c] [D.J 1 A,I d,I e]] (aS.vals [.agg (bO f E g i j k)])],[0<=a,a<(C.length:Int)],[C[a.toNat]?=some [d34,d35,d36,d37,d38,d39]]] (by kernel_rfl) (by kernel_rfl) (by kernel_rfl) h
theorem afp(h:ad (LC A b4 cW H b c C E F G e f d g i a d0 bz [.b (a==0) false,.b (a==1) true,.a (.ig (Kw A H b c C E F G d a j k l m al n o p a0)),.p (ee prog (cO f185 7) (Tl A H b c C E F G d g i a) (Kw A H b c C E F G d a j k l m al n o p a0))])):
 b3 185 [aM.cur [D.J 1 A,I d0,I bz] [D.J 1 A,I k,I l]] (aS.vals [.agg (cl H b c C (E.set j.toNat (bO m al n o p a0)) F G)]):=
 h.b5
def Tm(H C:af)(b c:Int)(A E F G:af)(d f e a:Int):aH:=bj 82 [(0,aR 1000000000),(2,aR 2),(3,aR 3),(4,aZ d),(5,aR 1000000000),(6,aI.aJ (bq.agg [aG 70000 4 C,aw b,aw c,aG 70003 8 A,aG 70004 6 E,aG 70005 5 F,aG 70006 3 G])),(7,aR 1000000000),(8,.aJ (.one (.ptr 3 3))),(9,aI.aJ (bq.one (aG 70003 8 A))),(10,aZ (A.length:Int)),(11,aZ d),(12,aR 1000000000),(13,aZ a),(14,.aJ (.one (.bc (a==0)))),(15,.aJ (.one (.bc (a==0)))),(24,.aJ (.one (.bc (a==1)))),(25,.aJ (.one (.bc (a==1)))),(36,.aJ (.one (.bc (a==2)))),(37,.aJ (.one (.bc (a==2))))] [(3,[aG 70000 4 C,aw b,aw c,aG 70003 8 A,aG 70004 6 E,aG 70005 5 F,aG 70006 3 G]),(2,[.v (aO),aw 0,aw 0,.v (aO),.v (aO),.v (aO),.v (aO)]),(1000000000,[.dg 1000000100 1 H,aw f,aw e])]
def Kx(H E:af)(d e:Int)(C F A G:af)(f c a g i b:Int)(d14 d15 d16 d17:D):aH:=bj 82 [(0,aR 1000000000),(2,aR 2),(3,aR 3),(4,aZ f),(5,aR 1000000000),(6,aI.aJ (bq.agg [aG 70000 4 E,aw d,aw e,aG 70003 8 C,aG 70004 6 F,aG 70005 5 (A.set a.toNat [d14,I (b-1),d15,d16,d17]),aG 70006 3 G])),(7,aR 1000000000),(8,.aJ (.one (.ptr 3 3))),(9,aI.aJ (bq.one (aG 70003 8 C))),(10,aZ (C.length:Int)),(11,aZ f),(12,aR 1000000000),(13,aZ c),(14,.aJ (.one (.bc (c==0)))),(15,.aJ (.one (.bc (c==0)))),(24,.aJ (.one (.bc (c==1)))),(25,.aJ (.one (.bc (c==1)))),(36,.aJ (.one (.bc (c==2)))),(37,.aJ (.one (.bc (c==2)))),(38,.aJ (.one (.ptr 3 5))),(39,aI.aJ (bq.one (aG 70005 5 (A.set a.toNat [d14,I (b-1),d15,d16,d17])))),(40,aR 1000000000),(41,aZ a),(42,aR 1000000000),(43,aZ b),(44,aZ (b-1)),(45,.aJ (.one (.cX (Tag.own 70005) 5 (A.set a.toNat [d14,I (b-1),d15,d16,d17]) a.toNat 0))),(46,.aJ (.one (.cX (Tag.own 70005) 5 (A.set a.toNat [d14,I (b-1),d15,d16,d17]) a.toNat 1)))] [(3,[aG 70000 4 E,aw d,aw e,aG 70003 8 C,aG 70004 6 F,aG 70005 5 (A.set a.toNat [d14,I (b-1),d15,d16,d17]),aG 70006 3 G]),(2,[.v (aO),aw 0,aw 0,.v (aO),.v (aO),.v (aO),.v (aO)]),(1000000000,[.dg 1000000100 1 H,aw g,aw i])]
theorem aeQ{A G:af}{l m:Int}{H E C F:af}{j g i k c d a e f b:Int}{d29 d30 d31 d32 d33:D}
  (h:cE [bT prog 138 [aM.cur [D.J 1 A,I g,I i] [D.J 1 A,I c,I d],aM.ro (ae 4)] (aS.vals [ae a]),bT prog 138 [aM.cur [D.J 1 A,I c,I d] [D.J 1 A,I e,I f],aM.ro (ae 6)] (aS.vals [ae b]),az .i64 (b-1),0<=a,a<(C.length:Int),C[a.toNat]?=some [d29,d30,d31,d32,d33]]):
  ee prog (cO f185 9) (Tm A G l m H E C F j g i k) (Kx A G l m H E C F j k a e f b d29 d31 d32 d33):=
 .of [[],[],[],[.dj [some [D.J 1 A,I c,I d],none] (aS.vals [ae a])],[],[.dj [some [D.J 1 A,I e,I f],none] (aS.vals [ae b])],[],[],[],[.el [d29,d30,d31,d32,d33]]] [[],[],[],[bT prog 138 [aM.cur [D.J 1 A,I g,I i] [D.J 1 A,I c,I d],aM.ro (ae 4)] (aS.vals [ae a])],[],[bT prog 138 [aM.cur [D.J 1 A,I c,I d] [D.J 1 A,I e,I f],aM.ro (ae 6)] (aS.vals [ae b])],[az .i64 (b-1)],[0<=a,a<(C.length:Int)],[],[C[a.toNat]?=some [d29,d30,d31,d32,d33]]] (by kernel_rfl) (by kernel_rfl) (by kernel_rfl) h
def x5(A:af)(a b:Int)(C:af)(c d:Int)(E F G H:af)(e f g i j k m n:Int)(l:List O):List O:=LC A a b C c d E F G H e f g i j k m n (.b (k==0) false::.b (k==1) false::l)
theorem aeR{A:af}{p a0 n o:Int}{H:af}{b c:Int}{C E F G:af}{e f d g i a j k l m:Int}{d29 d31 d32 d33:D}(h:ad (x5 A n o H b c C E F G e f d g i a p a0 [.b (a==2) true,.a (.ig (Kx A H b c C E F G d a j k l m d29 d31 d32 d33)),.p (ee prog (cO f185 9) (Tm A H b c C E F G d g i a) (Kx A H b c C E F G d a j k l m d29 d31 d32 d33))])):
 b3 185 [aM.cur [D.J 1 A,I p,I a0] [D.J 1 A,I k,I l]] (aS.vals [.agg (cl H b c C E (F.set j.toNat [d29,I (m-1),d31,d32,d33]) G)]):=
 h.b5
def Tn(H C:af)(b c:Int)(A E F G:af)(d f e a:Int):aH:=bj 82 [(0,aR 1000000000),(2,aR 2),(3,aR 3),(4,aZ d),(5,aR 1000000000),(6,aI.aJ (bq.agg [aG 70000 4 C,aw b,aw c,aG 70003 8 A,aG 70004 6 E,aG 70005 5 F,aG 70006 3 G])),(7,aR 1000000000),(8,.aJ (.one (.ptr 3 3))),(9,aI.aJ (bq.one (aG 70003 8 A))),(10,aZ (A.length:Int)),(11,aZ d),(12,aR 1000000000),(13,aZ a),(14,.aJ (.one (.bc (a==0)))),(15,.aJ (.one (.bc (a==0)))),(24,.aJ (.one (.bc (a==1)))),(25,.aJ (.one (.bc (a==1)))),(36,.aJ (.one (.bc (a==2)))),(37,.aJ (.one (.bc (a==2)))),(47,.aJ (.one (.bc (a==3)))),(48,.aJ (.one (.bc (a==3))))] [(3,[aG 70000 4 C,aw b,aw c,aG 70003 8 A,aG 70004 6 E,aG 70005 5 F,aG 70006 3 G]),(2,[.v (aO),aw 0,aw 0,.v (aO),.v (aO),.v (aO),.v (aO)]),(1000000000,[.dg 1000000100 1 H,aw f,aw e])]
def Ky(H E:af)(c d:Int)(C F A G:af)(e a f g b:Int)(d13 d14 d15 d16:D):aH:=bj 82 [(0,aR 1000000000),(2,aR 2),(3,aR 3),(4,aZ e),(5,aR 1000000000),(6,aI.aJ (bq.agg [aG 70000 4 E,aw c,aw d,aG 70003 8 C,aG 70004 6 F,aG 70005 5 (A.set 0 [d13,d14,I b,d15,d16]),aG 70006 3 G])),(7,aR 1000000000),(8,.aJ (.one (.ptr 3 3))),(9,aI.aJ (bq.one (aG 70003 8 C))),(10,aZ (C.length:Int)),(11,aZ e),(12,aR 1000000000),(13,aZ a),(14,.aJ (.one (.bc (a==0)))),(15,.aJ (.one (.bc (a==0)))),(24,.aJ (.one (.bc (a==1)))),(25,.aJ (.one (.bc (a==1)))),(36,.aJ (.one (.bc (a==2)))),(37,.aJ (.one (.bc (a==2)))),(47,.aJ (.one (.bc (a==3)))),(48,.aJ (.one (.bc (a==3)))),(49,.aJ (.one (.ptr 3 5))),(50,aI.aJ (bq.one (aG 70005 5 (A.set 0 [d13,d14,I b,d15,d16])))),(51,aR 1000000000),(52,.aJ (.one (.J (.own 52) 1 [[I 1000000],[I 1000001],[I (-1000001)],[I 3]]))),(53,aZ b),(54,.aJ (.one (.cX (Tag.own 70005) 5 (A.set 0 [d13,d14,I b,d15,d16]) 0 0))),(55,.aJ (.one (.cX (Tag.own 70005) 5 (A.set 0 [d13,d14,I b,d15,d16]) 0 2)))] [(3,[aG 70000 4 E,aw c,aw d,aG 70003 8 C,aG 70004 6 F,aG 70005 5 (A.set 0 [d13,d14,I b,d15,d16]),aG 70006 3 G]),(2,[.v (aO),aw 0,aw 0,.v (aO),.v (aO),.v (aO),.v (aO)]),(1000000000,[.dg 1000000100 1 H,aw f,aw g])]
theorem aeS{A G:af}{i j:Int}{H E C F:af}{f d e g a b c:Int}{d25 d26 d27 d28 d29:D}
  (h:cE [bT prog 140 [aM.cur [D.J 1 A,I d,I e] [D.J 1 A,I a,I b],aM.ro (.one (.J 1 [[I 1000000],[I 1000001],[I (-1000001)],[I 3]]))] (aS.vals [ae c]),(0:Int)<=0,0<(C.length:Int),C[0]?=some [d25,d26,d27,d28,d29]]):
  ee prog (cO f185 11) (Tn A G i j H E C F f d e g) (Ky A G i j H E C F f g a b c d25 d26 d28 d29):=
 .of [[],[],[],[],[.dj [some [D.J 1 A,I a,I b],none] (aS.vals [ae c])],[],[],[.el [d25,d26,d27,d28,d29]]] [[],[],[],[],[bT prog 140 [aM.cur [D.J 1 A,I d,I e] [D.J 1 A,I a,I b],aM.ro (.one (.J 1 [[I 1000000],[I 1000001],[I (-1000001)],[I 3]]))] (aS.vals [ae c])],[(0:Int)<=0,0<(C.length:Int)],[],[C[0]?=some [d25,d26,d27,d28,d29]]] (by kernel_rfl) (by kernel_rfl) (by kernel_rfl) h
theorem aeT{A:af}{o p m n:Int}{H:af}{b c:Int}{C E F G:af}{e f d g i a j k l:Int}{d25 d26 d28 d29:D}(h:ad (x5 A m n H b c C E F G e f d g i a o p [.b (a==2) false,.b (a==3) true,.a (.ig (Ky A H b c C E F G d a j k l d25 d26 d28 d29)),.p (ee prog (cO f185 11) (Tn A H b c C E F G d g i a) (Ky A H b c C E F G d a j k l d25 d26 d28 d29))])):
 b3 185 [aM.cur [D.J 1 A,I o,I p] [D.J 1 A,I j,I k]] (aS.vals [.agg (cl H b c C E (F.set 0 [d25,d26,I l,d28,d29]) G)]):=
 h.b5
def To(H C:af)(b c:Int)(A E F G:af)(d f e a:Int):aH:=bj 82 [(0,aR 1000000000),(2,aR 2),(3,aR 3),(4,aZ d),(5,aR 1000000000),(6,aI.aJ (bq.agg [aG 70000 4 C,aw b,aw c,aG 70003 8 A,aG 70004 6 E,aG 70005 5 F,aG 70006 3 G])),(7,aR 1000000000),(8,.aJ (.one (.ptr 3 3))),(9,aI.aJ (bq.one (aG 70003 8 A))),(10,aZ (A.length:Int)),(11,aZ d),(12,aR 1000000000),(13,aZ a),(14,.aJ (.one (.bc (a==0)))),(15,.aJ (.one (.bc (a==0)))),(24,.aJ (.one (.bc (a==1)))),(25,.aJ (.one (.bc (a==1)))),(36,.aJ (.one (.bc (a==2)))),(37,.aJ (.one (.bc (a==2)))),(47,.aJ (.one (.bc (a==3)))),(48,.aJ (.one (.bc (a==3)))),(56,.aJ (.one (.bc (a==4)))),(57,.aJ (.one (.bc (a==4))))] [(3,[aG 70000 4 C,aw b,aw c,aG 70003 8 A,aG 70004 6 E,aG 70005 5 F,aG 70006 3 G]),(2,[.v (aO),aw 0,aw 0,.v (aO),.v (aO),.v (aO),.v (aO)]),(1000000000,[.dg 1000000100 1 H,aw f,aw e])]
def Kz(H E:af)(d e:Int)(A F G C:af)(f a b g i c:Int):aH:=bj 82 [(0,aR 1000000000),(2,aR 2),(3,aR 3),(4,aZ f),(5,aR 1000000000),(6,aI.aJ (bq.agg [aG 70000 4 E,aw d,aw e,aG 70003 8 A,aG 70004 6 F,aG 70005 5 G,.J (Tag.ro 70006) 3 C])),(7,aR 1000000000),(8,.aJ (.one (.ptr 3 3))),(9,aI.aJ (bq.one (aG 70003 8 A))),(10,aZ (A.length:Int)),(11,aZ f),(12,aR 1000000000),(13,aZ a),(14,.aJ (.one (.bc (a==0)))),(15,.aJ (.one (.bc (a==0)))),(24,.aJ (.one (.bc (a==1)))),(25,.aJ (.one (.bc (a==1)))),(36,.aJ (.one (.bc (a==2)))),(37,.aJ (.one (.bc (a==2)))),(47,.aJ (.one (.bc (a==3)))),(48,.aJ (.one (.bc (a==3)))),(56,.aJ (.one (.bc (a==4)))),(57,.aJ (.one (.bc (a==4)))),(58,.aJ (.one (.ptr 3 6))),(59,.aJ (.one (.J (Tag.ro 70006) 3 C))),(60,aR 1000000000),(61,aZ b),(62,aZ (b-1)),(63,aR 1000000000),(64,aZ c),(65,aZ (c-1)),(66,aI.aJ (bq.agg [aw (b-1),aw (c-1),.v (Value.bool false)])),(67,.aJ (.one (.J (.own 67) 3 [[I (b-1),I (c-1),B false]]))),(68,aI.aJ (bq.one (aG 70006 3 (C++[[I (b-1),I (c-1),B false]])))),(69,.aJ (.one (.ptr 3 6)))] [(3,[aG 70000 4 E,aw d,aw e,aG 70003 8 A,aG 70004 6 F,aG 70005 5 G,aG 70006 3 (C++[[I (b-1),I (c-1),B false]])]),(2,[.v (aO),aw 0,aw 0,.v (aO),.v (aO),.v (aO),.v (aO)]),(1000000000,[.dg 1000000100 1 H,aw g,aw i])]
theorem aeU{A G:af}{l m:Int}{H E F C:af}{j g i k c d a e f b:Int}
  (h:cE [bT prog 138 [aM.cur [D.J 1 A,I g,I i] [D.J 1 A,I c,I d],aM.ro (ae 6)] (aS.vals [ae a]),az .i64 (a-1),bT prog 138 [aM.cur [D.J 1 A,I c,I d] [D.J 1 A,I e,I f],aM.ro (ae 6)] (aS.vals [ae b]),az .i64 (b-1),(C.length+[[I (a-1),I (b-1),B false]].length)*24<=140737488355328,C.length+[[I (a-1),I (b-1),B false]].length<=9223372036854775807,Flat [[I (a-1),I (b-1),B false]]]):
  ee prog (cO f185 13) (To A G l m H E F C j g i k) (Kz A G l m H E F C j k a e f b):=
 .of [[],[],[],[.dj [some [D.J 1 A,I c,I d],none] (aS.vals [ae a])],[],[],[.dj [some [D.J 1 A,I e,I f],none] (aS.vals [ae b])],[],[],[],[],[],[]] [[],[],[],[bT prog 138 [aM.cur [D.J 1 A,I g,I i] [D.J 1 A,I c,I d],aM.ro (ae 6)] (aS.vals [ae a])],[az .i64 (a-1)],[],[bT prog 138 [aM.cur [D.J 1 A,I c,I d] [D.J 1 A,I e,I f],aM.ro (ae 6)] (aS.vals [ae b])],[az .i64 (b-1)],[],[],[(C.length+[[I (a-1),I (b-1),B false]].length)*24<=140737488355328,C.length+[[I (a-1),I (b-1),B false]].length<=9223372036854775807,Flat [[I (a-1),I (b-1),B false]]],[],[]] (by kernel_rfl) (by kernel_rfl) (by kernel_rfl) h
theorem aeV(h:ad (x5 A n o H b c C E F G e f d g i a p a0 [.b (a==2) false,.b (a==3) false,.b (a==4) true,.a (.ig (Kz A H b c C E F G d a j k l m)),.p (ee prog (cO f185 13) (To A H b c C E F G d g i a) (Kz A H b c C E F G d a j k l m))])):
 b3 185 [aM.cur [D.J 1 A,I p,I a0] [D.J 1 A,I k,I l]] (aS.vals [.agg (cl H b c C E F (G++[[I (j-1),I (m-1),B false]]))]):=
 h.b5
theorem aeW(h:ad (x5 A k l al p a0 C E F G b c n d e a m o [.b (a==2) false,.b (a==3) false,.b (a==4) false,.b (a==5) true,.a (.dj [some [D.J 1 A,I f,I g]] (aS.vals [.agg (bD H i j)])),.p (bT prog 137 [aM.cur [D.J 1 A,I d,I e] [D.J 1 A,I f,I g]] (aS.vals [.agg (bD H i j)]))])):
 b3 185 [aM.cur [D.J 1 A,I m,I o] [D.J 1 A,I f,I g]] (aS.vals [.agg (cl H i j C E F G)]):=
 h.b5
theorem aeX(h:ad (x5 A f g H i j E F C G b c l d e a k m [.b (a==2) false,.b (a==3) false,.b (a==4) false,.b (a==5) false,.b (a==6) true,.a .own,.p ((0:Int)<=none.getD 0),.p (none.getD 0<=(some (3:Int)).getD (C.length:Int)),.p ((some (3:Int)).getD (C.length:Int)<=(C.length:Int))])):
 b3 185 [aM.cur [D.J 1 A,I k,I m] [D.J 1 A,I d,I e]] (aS.vals [.agg (cl H i j E F (List.take (3-0) (List.drop 0 C)) G)]):=
 h.b5
theorem aeY(h:ad (x5 A f g H i j C E F G b c l d e a k m [.b (a==2) false,.b (a==3) false,.b (a==4) false,.b (a==5) false,.b (a==6) false])):
 b3 185 [aM.cur [D.J 1 A,I k,I m] [D.J 1 A,I d,I e]] (aS.vals [.agg (cl H i j C E F G)]):=
 h.b5
theorem aeZ(h:ad [.a (.dj [none] (aS.h7 [some 0,none,none] [D.J 1 A,I b,I c])),.a (.dj [some [D.J 1 A,I d,I e]] (aS.vals [.agg (cl H f g C E F G)])),.w A i j a,.p (bT prog 117 [aM.ro (a7 1 A)] (aS.h7 [some 0,none,none] [D.J 1 A,I b,I c])),.p (bT prog 185 [aM.cur [D.J 1 A,I b,I c] [D.J 1 A,I d,I e]] (aS.vals [.agg (cl H f g C E F G)])),.p (bT prog 140 [aM.cur [D.J 1 A,I d,I e] [D.J 1 A,I i,I j],aM.ro (.one (.J 1 [[I 0],[I 0],[I 1],[I 1],[I 2],[I 3],[I (-1)],[I 9223372036854775807]]))] (aS.vals [ae a]))]):
 av 143 [a7 1 A] [.agg (cl H f g C E F G),ae a]:=
 h.of
theorem agr(h:ad [.a (.dj [none] (aS.h7 [some 0,none,none] [D.J 1 A,I d,I f])),.a (.dj [some [D.J 1 A,I g,I i]] (aS.vals [.agg (cl H j k C E F G)])),.w A a b c,.w A l m e,.p (bT prog 117 [aM.ro (a7 1 A)] (aS.h7 [some 0,none,none] [D.J 1 A,I d,I f])),.p (bT prog 185 [aM.cur [D.J 1 A,I d,I f] [D.J 1 A,I g,I i]] (aS.vals [.agg (cl H j k C E F G)])),.p (bT prog 140 [aM.cur [D.J 1 A,I g,I i] [D.J 1 A,I a,I b],aM.ro (.one (.J 1 [[I 0],[I 0],[I 1],[I 2],[I 3],[I (-1)]]))] (aS.vals [ae c])),.p (bT prog 140 [aM.cur [D.J 1 A,I a,I b] [D.J 1 A,I l,I m],aM.ro (.one (.J 1 [[I 1],[I 1],[I 0],[I 2],[I 3],[I (-1)]]))] (aS.vals [ae e]))]):
 av 152 [a7 1 A] [.agg (cl H j k C E F G),ae c,ae e]:=
 h.of
theorem ags(h:ad [.r 143 [a7 1 A] [.agg (cl C a b E F G H),ae c]]):
 av 27 [a7 1 A] [.agg (cl C a b E F G H),ae c]:=
 h.of
theorem agt(h:ad [.r 152 [a7 1 A] [.agg (cl C a b E F G H),ae c,ae d]]):
 av 30 [a7 1 A] [.agg (cl C a b E F G H),ae c,ae d]:=
 h.of
