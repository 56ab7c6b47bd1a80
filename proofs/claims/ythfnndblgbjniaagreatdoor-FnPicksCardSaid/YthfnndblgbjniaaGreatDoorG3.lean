import Derived.Test.YthfnndblgbjniaaGreatDoorGE
namespace Go.Proofs.YthfnndblgbjniaaGreatDoor
open Go.Sx Go.RowKit Go.Proofs.Tryz
variable {a b c d e f g i j k l m n o p a0 ef b6 e0 cS d0 bz f0 i0 j0 dk eW m0 kv sC jr : Int} {A C E F G H ah K L M N Q R S a1 V X Y Z c9 : af} {q r : Bool}
def uI(A:af)(a c d e:Int)(C:af)(f g i j b:Int):aF:=bf 55 [(0,aS 1000000000),(2,aS 2),(3,aS 3),(4,aU a)] [(3,[au c,au d,au e,aw 52 1 C]),(2,[au f,au g,au i,.v (aP)]),(1000000000,[.dt 1000000100 1 A,au j,au b])]
def S3(A:af)(a d e f:Int)(C:af)(g i j k c b:Int):aF:=bf 55 [(0,aS 1000000000),(2,aS 2),(3,aS 3),(4,aU a),(37,aU a),(38,aS 1000000000),(39,aU b),(40,.aC (.one (.bg (decide (a<b)))))] [(3,[au d,au e,au f,aw 52 1 C]),(2,[au g,au i,au j,.v (aP)]),(1000000000,[.dt 1000000100 1 A,au k,au c])]
def Lh(C:af)(a f g i:Int)(A:af)(j k l c d e b:Int):aF:=bf 55 [(0,aS 1000000000),(2,aS 2),(3,aS 3),(4,aU a),(37,aU a),(38,aS 1000000000),(39,aU c),(40,.aC (.one (.bg (decide (a<c))))),(43,.aC (.one (.ptr 3 3))),(44,.aC (.one (.J (Tag.ro 52) 1 A))),(45,aU a),(46,aU (a*2)),(47,aU (1+a*2)),(48,aS 1000000000),(49,aU b),(50,aU (1+a*2+b)),(51,.aC (.one (.J (.own 51) 1 [[I (1+a*2+b)]]))),(52,aG.aC (bl.one (aw 52 1 (A++[[I (1+a*2+b)]])))),(53,.aC (.one (.ptr 3 3)))] [(3,[au f,au g,au i,aw 52 1 (A++[[I (1+a*2+b)]])]),(2,[au j,au k,au l,.v (aP)]),(1000000000,[.dt 1000000100 1 C,au d,au e])]
theorem aiT{A:af}{a g i j:Int}{C:af}{k l m e f n c d b:Int}
  (h:cK [aK .i64 (a*2),aK .i64 (1+a*2),b3 prog 36 [aM.cur [D.J 1 A,I e,I f] [D.J 1 A,I c,I d],aM.ro (ag 2)] (aV.vals [ag b]),aK .i64 (1+a*2+b),(C.length+[[I (1+a*2+b)]].length)*8<=140737488355328,C.length+[[I (1+a*2+b)]].length<=9223372036854775807,Flat [[I (1+a*2+b)]]]):
  ek prog (cU f178 14) (S3 A a g i j C k l m e f n) (Lh A a g i j C k l m n c d b):=
 .of [[],[],[],[],[],[],[.dB [some [D.J 1 A,I c,I d],none] (aV.vals [ag b])],[],[],[],[],[]] [[],[],[],[aK .i64 (a*2)],[aK .i64 (1+a*2)],[],[b3 prog 36 [aM.cur [D.J 1 A,I e,I f] [D.J 1 A,I c,I d],aM.ro (ag 2)] (aV.vals [ag b])],[aK .i64 (1+a*2+b)],[],[(C.length+[[I (1+a*2+b)]].length)*8<=140737488355328,C.length+[[I (1+a*2+b)]].length<=9223372036854775807,Flat [[I (1+a*2+b)]]],[],[]] (by kernel_rfl) (by kernel_rfl) (by kernel_rfl) h
theorem aiU(h:ae [.w A j k b,.k A 36 o p j k 3 b,.b (decide (a<b)) true,.a (.h' (Lh A a c d e C f g i b l m n)),.p (ek prog (cU f178 14) (S3 A a c d e C f g i j k b) (Lh A a c d e C f g i b l m n)),.u a]):
 aY (ap f178 0) (uI A a c d e C f g i o p) .normal (uI A (a+1) c d e (C++[[I (1+a*2+n)]]) f g i l m):=
 h.aT [4,0,3,2] [3,2,1000000000]
def xZ(A:af)(a b c:Int)(C:af)(d e f g i:Int):aF:=bf 55 [(0,aS 1000000000),(2,aS 2),(3,aS 3)] [(3,[au a,au b,au c,aw 52 1 C]),(2,[au d,au e,au f,.v (aP)]),(1000000000,[.dt 1000000100 1 A,au g,au i])]
theorem aiV(h:ae [.w A a b c,.k A 36 l m a b 3 c,.b (decide (d<c)) false]):
 aY (ap f178 0) (uI A d e f g C i j k l m) (.exit 1) (xZ A e f g C i j k a b):=
 h.aT [3,2,0] [3,2,1000000000]
def Fy(A:af)(a b c d e:Int)(l:List O):List O:=.w A a b c::.k A 36 d e a b 8 c::l
theorem aiW(h:ae (Fy A c d a g n [.v (1+a),.b (1+a==2) true,.w A e f b,.p (b3 prog 37 [aM.cur [D.J 1 A,I c,I d] [D.J 1 A,I e,I f],aM.ro (.one (.J 1 [[I 0],[I 1],[I 3],[I 10],[I 999]]))] (aV.vals [ag b])),.b (1+a != 8) true,.l [(4000003,52,1)] [4,0,3,2] [3,2,1000000000] (ap f178 0) (uI A 0 (1+a) b 0 [] 0 0 0 e f) (.exit 1) (xZ A i j k C o p a0 l m)])):
 b9 178 [aM.cur [D.J 1 A,I g,I n] [D.J 1 A,I l,I m]] (aV.vals [.agg (bk i j k C)]):=
 h.b'
def Fz(A:af)(a b c d e:Int)(l:List O):List O:=Fy A a b c d e (.v (1+c)::.b (1+c==2) false::l)
theorem aiX(h:ae (Fz A f g a k o [.b (1+a==3) true,.w A i j b,.w A c d e,.k A 36 f g i j 4 b,.v (1+b),.k A 36 i j c d (1+b) e,.b (1+a != 8) true,.l [(4000003,52,1)] [4,0,3,2] [3,2,1000000000] (ap f178 0) (uI A 0 (1+a) (1+b) e [] 0 0 0 c d) (.exit 1) (xZ A l m n C b6 cS d0 p a0)])):
 b9 178 [aM.cur [D.J 1 A,I k,I o] [D.J 1 A,I p,I a0]] (aV.vals [.agg (bk l m n C)]):=
 h.b'
theorem aiY(h:ae (Fz A c d a g n [.b (1+a==3) false,.b (1+a==4) true,.w A e f b,.p (b3 prog 37 [aM.cur [D.J 1 A,I c,I d] [D.J 1 A,I e,I f],aM.ro (.one (.J 1 [[I 0],[I 1],[I 2],[I 3],[I 50],[I 99]]))] (aV.vals [ag b])),.b (1+a != 8) true,.l [(4000003,52,1)] [4,0,3,2] [3,2,1000000000] (ap f178 0) (uI A 0 (1+a) b 0 [] 0 0 0 e f) (.exit 1) (xZ A i j k C o p a0 l m)])):
 b9 178 [aM.cur [D.J 1 A,I g,I n] [D.J 1 A,I l,I m]] (aV.vals [.agg (bk i j k C)]):=
 h.b'
theorem aiZ(h:ae (Fz A b c a d g [.b (1+a==3) false,.b (1+a==4) false,.b (1+a != 8) true,.l [(4000003,52,1)] [4,0,3,2] [3,2,1000000000] (ap f178 0) (uI A 0 (1+a) 0 0 [] 0 0 0 b c) (.exit 1) (xZ A i j k C l m n e f)])):
 b9 178 [aM.cur [D.J 1 A,I d,I g] [D.J 1 A,I e,I f]] (aV.vals [.agg (bk i j k C)]):=
 h.b'
theorem ai0(h:ae (Fz A b c a d e [.b (1+a==3) false,.b (1+a==4) false,.b (1+a != 8) false])):
 b9 178 [aM.cur [D.J 1 A,I d,I e] [D.J 1 A,I b,I c]] (aV.vals [.agg (bk (1+a) 0 0 [])]):=
 h.b'
def Bv(A:af)(a b c d e:Int)(C:af)(f g i j k:Int)(l:List O):List O:=.a (.dB [some [D.J 1 A,I a,I b]] (aV.vals [.agg (bk c d e C)]))::.w A f g i::.p (b3 prog 178 [aM.cur [D.J 1 A,I j,I k] [D.J 1 A,I a,I b]] (aV.vals [.agg (bk c d e C)]))::.k A 36 a b f g 12 i::l
theorem ai1(h:ae (Bv A g i n j k C b c d l m [.b (d==0) true,.w A e f a,.k A 36 b c e f 11 a,.v (a-1)])):
 b9 124 [aM.cur [D.J 1 A,I l,I m] [D.J 1 A,I e,I f]] (aV.vals [.agg (bk (a-1) j k C)]):=
 h.b'
theorem ai2(h:ae (Bv A g i j n k C b c a l m [.b (a==0) false,.b (a==1) true,.w A d e f,.p (b3 prog 37 [aM.cur [D.J 1 A,I b,I c] [D.J 1 A,I d,I e],aM.ro (.one (.J 1 [[I (-1)],[I 0],[I 1000],[I 100],[I 11]]))] (aV.vals [ag f]))])):
 b9 124 [aM.cur [D.J 1 A,I l,I m] [D.J 1 A,I d,I e]] (aV.vals [.agg (bk j f k C)]):=
 h.b'
theorem ai3(h:ae (Bv A g i j k n C b c a l m [.b (a==0) false,.b (a==1) false,.b (a==2) true,.w A d e f,.p (b3 prog 37 [aM.cur [D.J 1 A,I b,I c] [D.J 1 A,I d,I e],aM.ro (.one (.J 1 [[I (-1)],[I 1],[I 3]]))] (aV.vals [ag f]))])):
 b9 124 [aM.cur [D.J 1 A,I l,I m] [D.J 1 A,I d,I e]] (aV.vals [.agg (bk j k f C)]):=
 h.b'
def Li(C:af)(b c d:Int)(A:af)(e f a:Int):aF:=bf 37 [(0,aS 1000000000),(2,aS 2),(3,aS 3),(4,aS 1000000000),(5,aG.aC (bl.agg [au b,au c,au d,aw 60003 1 A])),(6,aS 1000000000),(7,aU a),(8,.aC (.one (.bg (a==0)))),(9,.aC (.one (.bg (a==0)))),(14,.aC (.one (.bg (a==1)))),(15,.aC (.one (.bg (a==1)))),(20,.aC (.one (.bg (a==2)))),(21,.aC (.one (.bg (a==2)))),(26,.aC (.one (.bg (a==3)))),(27,.aC (.one (.bg (a==3))))] [(3,[au b,au c,au d,aw 60003 1 A]),(2,[au 0,au 0,au 0,.v (aP)]),(1000000000,[.dt 1000000100 1 C,au e,au f])]
def Lj(P:Program)(W:Array Oper)(A:af)(g i j:Int)(C:af)(a b c d e f:Int):aF:=
 nG P W [[],[],[],[],[.dB [some [D.J 1 A,I d,I e],none] (aV.vals [ag f])],[],[],[],[]] (Li A g i j C a b c)
theorem aiu{A:af}{g i j:Int}{C:af}{b c d e f a:Int}
  (h:cK [b3 prog 37 [aM.cur [D.J 1 A,I b,I c] [D.J 1 A,I e,I f],aM.ro (.one (.J 1 [[I 1],[I 7],[I 8],[I (-1)]]))] (aV.vals [ag a]),(C.length+[[I a]].length)*8<=140737488355328,C.length+[[I a]].length<=9223372036854775807,Flat [[I a]]]):
  ek prog (cU f124 10) (Li A g i j C b c d) (Lj prog (cU f124 10) A g i j C b c d e f a):=
 .om [0,0,0,0,1,0,3,0,0] h
theorem aiv(h:ae (Bv A k l b c d C e f a m n [.b (a==0) false,.b (a==1) false,.b (a==2) false,.b (a==3) true,.a (.h' (Lj prog (cU f124 10) A b c d C e f a g i j)),.p (ek prog (cU f124 10) (Li A b c d C e f a) (Lj prog (cU f124 10) A b c d C e f a g i j))])):
 b9 124 [aM.cur [D.J 1 A,I m,I n] [D.J 1 A,I g,I i]] (aV.vals [.agg (bk b c d (C++[[I j]]))]):=
 h.b'
theorem aiw(h:ae (Bv A d e f g i C b c a j k [.b (a==0) false,.b (a==1) false,.b (a==2) false,.b (a==3) false])):
 b9 124 [aM.cur [D.J 1 A,I j,I k] [D.J 1 A,I b,I c]] (aV.vals [.agg (bk f g i C)]):=
 h.b'
def sN(A:af)(a g:Int)(C:af)(i j k l m n b c d e f:Int):aF:=bf 40 [(0,aS 1000000000),(2,aS 2),(3,aS 3),(4,aU a)] [(3,[au g,aw 900004001 5 C,au i,au j,au k,au l]),(2,[au m,.v (aP),au n,au b,au c,au d]),(1000000000,[.dt 1000000100 1 A,au e,au f])]
def Mw(A:af)(a b c d e f g i j:Int)(l:List O):List O:=.w A a b c::.k A 36 d e a b 9 c::.b (decide (f<c)) true::.w A g i j::.k A 36 a b g i 4 j::l
theorem aix(h:ae (Mw A b c d cS d0 a e f g [.b (g==0) true,.r 162 [.agg (bT i C j k l m)] [.agg (bT bz E f0 i0 j0 dk),.agg (bj eW m0 kv sC jr),ai q],.u a])):
 aY (ap f123 0) (sN A a i C j k l m n o p a0 b6 cS d0) .normal (sN A (a+1) bz E f0 i0 j0 dk n o p a0 b6 e f):=
 h.oi [(4000001,900004001,5)] [4,0,3,2] [3,2,1000000000]
theorem aiy(h:ae (Mw A c d e cS d0 a f g b [.b (b==0) false,.b (b==1) true,.r 163 [.agg (bT i C j k l m)] [.agg (bT bz E f0 i0 j0 dk),ai q],.u a])):
 aY (ap f123 0) (sN A a i C j k l m n o p a0 b6 cS d0) .normal (sN A (a+1) bz E f0 i0 j0 dk n o p a0 b6 f g):=
 h.oi [(4000001,900004001,5)] [4,0,3,2] [3,2,1000000000]
def Lk(A:af)(b j:Int)(C:af)(k l m n o p d e f c g i a:Int):aF:=bf 40 [(0,aS 1000000000),(2,aS 2),(3,aS 3),(4,aU b),(9,aU b),(10,aS 1000000000),(11,aU c),(12,.aC (.one (.bg (decide (b<c))))),(15,aS 1000000000),(16,aU a),(24,.aC (.one (.bg (a==0)))),(25,.aC (.one (.bg (a==0)))),(32,.aC (.one (.bg (a==1)))),(33,.aC (.one (.bg (a==1))))] [(3,[au j,aw 900004001 5 C,au k,au l,au m,au n]),(2,[au o,.v (aP),au p,au d,au e,au f]),(1000000000,[.dt 1000000100 1 A,au g,au i])]
def Ll(P:Program)(W:Array Oper)(A:af)(a b:Int)(C:af)(c d e f g i j k l m n o p a0 b6 cS d0 bz f0 i0 j0:Int)(E:af)(dk eW m0 kv:Int)(q:Bool):aF:=
 nG P W [[],[],[.dB [some [D.J 1 A,I a0,I b6]] (aV.vals [.agg (bj cS d0 bz f0 i0)])],[.res [.agg (bT j0 E dk eW m0 kv),ai q]],[],[],[],[]] (Lk A a b C c d e f g i j k l m n o p)
theorem aiz{A:af}{n a:Int}{C:af}{b c d e o p a0 b6 cS d0 f g bz f0 i0 i j k l m j0:Int}{E:af}{dk eW m0 kv:Int}{q:Bool}
  (h:cK [b3 prog 122 [aM.cur [D.J 1 A,I f,I g] [D.J 1 A,I f0,I i0]] (aV.vals [.agg (bj i j k l m)]),al 160 [.agg (bT a C b c d e),.agg (bj i j k l m)] [.agg (bT j0 E dk eW m0 kv),ai q]]):
  ek prog (cU f123 6) (Lk A n a C b c d e o p a0 b6 cS d0 f g bz) (Ll prog (cU f123 6) A n a C b c d e o p a0 b6 cS d0 f g bz f0 i0 i j k l m j0 E dk eW m0 kv q):=
 .om [0,0,1,1,0,0,0,0] h
theorem aiA(h:ae (Mw A a0 b6 c eW m0 a j k b [.b (b==0) false,.b (b==1) false,.a (.h' (Ll prog (cU f123 6) A a l C m n o p d e f g i c j k b cS d0 kv sC jr ef e0 bz E f0 i0 j0 dk q)),.p (ek prog (cU f123 6) (Lk A a l C m n o p d e f g i c j k b) (Ll prog (cU f123 6) A a l C m n o p d e f g i c j k b cS d0 kv sC jr ef e0 bz E f0 i0 j0 dk q)),.u a])):
 aY (ap f123 0) (sN A a l C m n o p d e f g i eW m0) .normal (sN A (a+1) bz E f0 i0 j0 dk d e f g i cS d0):=
 h.oi [(4000001,900004001,5)] [4,0,3,2] [3,2,1000000000]
def Lm(A:af)(a:Int)(C:af)(f g i j k l m b c d e:Int):aF:=bf 40 [(0,aS 1000000000),(2,aS 2),(3,aS 3)] [(3,[au a,aw 900004001 5 C,au f,au g,au i,au j]),(2,[au k,.v (aP),au l,au m,au b,au c]),(1000000000,[.dt 1000000100 1 A,au d,au e])]
theorem aiB(h:ae [.w A a b c,.k A 36 p a0 a b 9 c,.b (decide (d<c)) false]):
 aY (ap f123 0) (sN A d e C f g i j k l m n o p a0) (.exit 0) (Lm A e C f g i j k l m n o a b):=
 h.aT [3,2,0] [3,2,1000000000]
theorem aiC(h:ae [.w A b c a,.k A 36 d n b c 4 a,.v (1+a),.r 170 [ag (1+a)] [.agg (bT a0 E b6 e f g)],.l [(4000001,900004001,5)] [4,0,3,2] [3,2,1000000000] (ap f123 0) (sN A 0 a0 E b6 e f g 0 0 0 0 0 b c) (.exit 0) (Lm A i C j k l m cS d0 bz f0 i0 o p)]):
 b9 123 [aM.cur [D.J 1 A,I d,I n] [D.J 1 A,I o,I p]] (aV.vals [.agg (bT i C j k l m)]):=
 h.b'
def yy(A:af)(a b c:Int)(C:af)(d e f g i j k m n:Int)(l:List O):List O:=.a (.dB [some [D.J 1 A,I a,I b]] (aV.vals [.agg (bT c C d e f g)]))::.w A i j k::.p (b3 prog 123 [aM.cur [D.J 1 A,I m,I n] [D.J 1 A,I a,I b]] (aV.vals [.agg (bT c C d e f g)]))::.k A 36 a b i j 14 k::l
theorem aiD(h:ae (yy A j k l C p m b c d e f n o [.b (f==0) true,.w A g i a,.k A 36 d e g i 6 a,.v (a-1)])):
 b9 71 [aM.cur [D.J 1 A,I n,I o] [D.J 1 A,I g,I i]] (aV.vals [.agg (bT l C (a-1) m b c)]):=
 h.b'
theorem aj4(h:ae (yy A j k l C m p c d e f a n o [.b (a==0) false,.b (a==1) true,.w A g i b,.k A 36 e f g i 6 b,.v (b-1)])):
 b9 71 [aM.cur [D.J 1 A,I n,I o] [D.J 1 A,I g,I i]] (aV.vals [.agg (bT l C m (b-1) c d)]):=
 h.b'
theorem aj5(h:ae (yy A i j k C l m o b c d a n p [.b (a==0) false,.b (a==1) false,.b (a==2) true,.w A e f g,.p (b3 prog 37 [aM.cur [D.J 1 A,I c,I d] [D.J 1 A,I e,I f],aM.ro (.one (.J 1 [[I (-1)],[I 0],[I 1000000000],[I 1000000001]]))] (aV.vals [ag g]))])):
 b9 71 [aM.cur [D.J 1 A,I n,I p] [D.J 1 A,I e,I f]] (aV.vals [.agg (bT k C l m g b)]):=
 h.b'
def Ln(C:af)(b:Int)(A:af)(c d e f g i a:Int):aF:=bf 44 [(0,aS 1000000000),(2,aS 2),(3,aS 3),(4,aS 1000000000),(5,aG.aC (bl.agg [au b,aw 60001 5 A,au c,au d,au e,au f])),(6,aS 1000000000),(7,aU a),(8,.aC (.one (.bg (a==0)))),(9,.aC (.one (.bg (a==0)))),(14,.aC (.one (.bg (a==1)))),(15,.aC (.one (.bg (a==1)))),(20,.aC (.one (.bg (a==2)))),(21,.aC (.one (.bg (a==2)))),(26,.aC (.one (.bg (a==3)))),(27,.aC (.one (.bg (a==3))))] [(3,[au b,aw 60001 5 A,au c,au d,au e,au f]),(2,[au 0,.v (aP),au 0,au 0,au 0,au 0]),(1000000000,[.dt 1000000100 1 C,au g,au i])]
def Lo(P:Program)(W:Array Oper)(A:af)(n:Int)(C:af)(o p a b c d e f g i j k l m:Int):aF:=
 nG P W [[],[],[],[.dB [some [D.J 1 A,I f,I g]] (aV.vals [.agg (bj i j k l m)])],[],[],[],[]] (Ln A n C o p a b c d e)
theorem aj6{A:af}{n:Int}{C:af}{o p i j f g k l m a b c d e:Int}
  (h:cK [b3 prog 121 [aM.cur [D.J 1 A,I f,I g] [D.J 1 A,I l,I m]] (aV.vals [.agg (bj a b c d e)]),(C.length+[(bj a b c d e)].length)*40<=140737488355328,C.length+[(bj a b c d e)].length<=9223372036854775807,Flat [(bj a b c d e)]]):
  ek prog (cU f71 10) (Ln A n C o p i j f g k) (Lo prog (cU f71 10) A n C o p i j f g k l m a b c d e):=
 .om [0,0,0,1,0,3,0,0] h
theorem aj7(h:ae (yy A a0 b6 d C e f b c g i a cS d0 [.b (a==0) false,.b (a==1) false,.b (a==2) false,.b (a==3) true,.a (.h' (Lo prog (cU f71 10) A d C e f b c g i a j k l m n o p)),.p (ek prog (cU f71 10) (Ln A d C e f b c g i a) (Lo prog (cU f71 10) A d C e f b c g i a j k l m n o p))])):
 b9 71 [aM.cur [D.J 1 A,I cS,I d0] [D.J 1 A,I j,I k]] (aV.vals [.agg (bT d (C++[(bj l m n o p)]) e f b c)]):=
 h.b'
theorem aj8(h:ae (yy A d e f C g i k l b c a j m [.b (a==0) false,.b (a==1) false,.b (a==2) false,.b (a==3) false,.b (a==4) true,.v (1000000000-(C.length:Int))])):
 b9 71 [aM.cur [D.J 1 A,I j,I m] [D.J 1 A,I b,I c]] (aV.vals [.agg (bT f C g i 1000000000 (1000000000-(C.length:Int)))]):=
 h.b'
theorem aj9(h:ae (yy A f g i C j k b c d e a l m [.b (a==0) false,.b (a==1) false,.b (a==2) false,.b (a==3) false,.b (a==4) false])):
 b9 71 [aM.cur [D.J 1 A,I l,I m] [D.J 1 A,I d,I e]] (aV.vals [.agg (bT i C j k b c)]):=
 h.b'
def FB(A:af)(a b c d e f g i j:Int)(l:List O):List O:=.a (.dB [some [D.J 1 A,I a,I b]] (aV.vals [.agg (bj c d e f g)]))::.p (b3 prog 122 [aM.cur [D.J 1 A,I i,I j] [D.J 1 A,I a,I b]] (aV.vals [.agg (bj c d e f g)]))::l
theorem aka(h:ae (FB A m n b6 b p c d o a0 [.b (decide ((C.length:Int)>0)) true,.w A e f g,.y A i j q,.k A 36 m n e f (C.length:Int) g,.m A 34 e f i j 4 q,.b q true,.w A k l a,.k A 36 i j k l 2 a,.v (5+a)])):
 b9 173 [aM.cur [D.J 1 A,I o,I a0] [D.J 1 A,I k,I l],aM.ro (.agg (bq C cS d0))] (aV.vals [.agg (bj g b (5+a) c d)]):=
 h.b'
theorem akb(h:ae (FB A k l o a b c d m n [.b (decide ((C.length:Int)>0)) true,.w A e f g,.y A i j q,.k A 36 k l e f (C.length:Int) g,.m A 34 e f i j 4 q,.b q false])):
 b9 173 [aM.cur [D.J 1 A,I m,I n] [D.J 1 A,I i,I j],aM.ro (.agg (bq C p a0))] (aV.vals [.agg (bj g a b c d)]):=
 h.b'
theorem akc(h:ae (FB A j k l b n c d m o [.b (decide ((C.length:Int)>0)) false,.y A e f q,.m A 34 j k e f 4 q,.b q true,.w A g i a,.k A 36 e f g i 2 a,.v (5+a)])):
 b9 173 [aM.cur [D.J 1 A,I m,I o] [D.J 1 A,I g,I i],aM.ro (.agg (bq C p a0))] (aV.vals [.agg (bj l b (5+a) c d)]):=
 h.b'
theorem akd(h:ae (FB A g i j a b c d k l [.b (decide ((C.length:Int)>0)) false,.y A e f q,.m A 34 g i e f 4 q,.b q false])):
 b9 173 [aM.cur [D.J 1 A,I k,I l] [D.J 1 A,I e,I f],aM.ro (.agg (bq C m n))] (aV.vals [.agg (bj j a b c d)]):=
 h.b'
def qD(A:af)(a:Int)(E F G H ah K L M C:af)(b c d e:Int):aF:=bf 48 [(0,aS 1000000000),(3,aS 3),(4,aS 4),(5,aS 5),(6,aU a)] [(5,[aw 900006000 5 E,aw 900006001 5 F,aw 900006002 5 G,aw 900006003 4 H,aw 900006004 1 ah,aw 900006005 1 K,aw 900006006 1 L,aw 900006007 2 M]),(4,[.v (aP),.v (aP),.v (aP),.v (aP),.v (aP),.v (aP),.v (aP),.v (aP)]),(3,[.J .free 4 C,au b,au c]),(1000000000,[.dt 1000000100 1 A,au d,au e])]
def FA(A:af)(a b c d e f g i j:Int)(l:List O):List O:=Fy A a b c d e (.b (decide (f<c)) true::.w A g i j::.k A 36 a b g i 5 j::l)
theorem ake(h:ae (FA A d e f k l a g i j [.b (j==0) true,.r 171 [.agg (bq C b c),.agg (aX E F G H ah K L M)] [.agg (aX N Q R S a1 V X Y),ai q],.u a])):
 aY (ap f120 0) (qD A a E F G H ah K L M C b c k l) .normal (qD A (a+1) N Q R S a1 V X Y C b c g i):=
 h.oi [(6000000,900006000,5),(6000001,900006001,5),(6000002,900006002,5),(6000003,900006003,4),(6000004,900006004,1),(6000005,900006005,1),(6000006,900006006,1),(6000007,900006007,2)] [6,0,3,5,4] [5,4,3,1000000000]
def Lp(A:af)(b:Int)(E F G H ah K L M C:af)(d e c f g a:Int):aF:=bf 48 [(0,aS 1000000000),(3,aS 3),(4,aS 4),(5,aS 5),(6,aU b),(10,aU b),(11,aS 1000000000),(12,aU c),(13,.aC (.one (.bg (decide (b<c))))),(16,aS 1000000000),(17,aU a),(24,.aC (.one (.bg (a==0)))),(25,.aC (.one (.bg (a==0)))),(32,.aC (.one (.bg (a==1)))),(33,.aC (.one (.bg (a==1))))] [(5,[aw 900006000 5 E,aw 900006001 5 F,aw 900006002 5 G,aw 900006003 4 H,aw 900006004 1 ah,aw 900006005 1 K,aw 900006006 1 L,aw 900006007 2 M]),(4,[.v (aP),.v (aP),.v (aP),.v (aP),.v (aP),.v (aP),.v (aP),.v (aP)]),(3,[.J .free 4 C,au d,au e]),(1000000000,[.dt 1000000100 1 A,au f,au g])]
def KR(P:Program)(W:Array Oper)(A:af)(a:Int)(C E F G H ah K L M:af)(b c d e f g i j k l m n o:Int)(N Q R S a1 V X Y:af):aF:=
 nG P W [[],[],[],[.dB [some [D.J 1 A,I i,I j],none] (aV.vals [.agg (bj k l m n o)])],[.res [.agg (aX N Q R S a1 V X Y)]],[]] (Lp A a C E F G H ah K L M b c d e f g)
theorem akf{A:af}{k:Int}{C E F G H ah K L M:af}{a b l c d m n o e f g i j:Int}{N Q R S a1 V X Y:af}
  (h:cK [b3 prog 173 [aM.cur [D.J 1 A,I c,I d] [D.J 1 A,I n,I o],aM.ro (.agg (bq M a b))] (aV.vals [.agg (bj e f g i j)]),al 172 [.agg (aX C E F G H ah K L),.agg (bj e f g i j)] [.agg (aX N Q R S a1 V X Y)]]):
  ek prog (cU f120 10) (Lp A k C E F G H ah K L M a b l c d m) (KR prog (cU f120 10) A k C E F G H ah K L M a b l c d m n o e f g i j N Q R S a1 V X Y):=
 .om [0,0,0,1,1,0] h
theorem akg(h:ae (FA A i j c m n a f g b [.b (b==0) false,.b (b==1) true,.a (.h' (KR prog (cU f120 10) A a E F G H ah K L M C d e c f g b k l o p a0 b6 cS N Q R S a1 V X Y)),.p (ek prog (cU f120 10) (Lp A a E F G H ah K L M C d e c f g b) (KR prog (cU f120 10) A a E F G H ah K L M C d e c f g b k l o p a0 b6 cS N Q R S a1 V X Y)),.u a])):
 aY (ap f120 0) (qD A a E F G H ah K L M C d e m n) .normal (qD A (a+1) N Q R S a1 V X Y C d e k l):=
 h.oi [(6000000,900006000,5),(6000001,900006001,5),(6000002,900006002,5),(6000003,900006003,4),(6000004,900006004,1),(6000005,900006005,1),(6000006,900006006,1),(6000007,900006007,2)] [6,0,3,5,4] [5,4,3,1000000000]
theorem S4(h:ae (FA A c d e k l b f g a [.b (a==0) false,.b (a==1) false,.b (a==2) true,.r 174 [.agg (aX C E F G H ah K L)] [.agg (aX N Q R S a1 V X Y),.agg (bj m n o p a0),ai q],.u b])):
 aY (ap f120 0) (qD A b C E F G H ah K L M i j k l) .normal (qD A (b+1) N Q R S a1 V X Y M i j f g):=
 h.oi [(6000000,900006000,5),(6000001,900006001,5),(6000002,900006002,5),(6000003,900006003,4),(6000004,900006004,1),(6000005,900006005,1),(6000006,900006006,1),(6000007,900006007,2)] [6,0,3,5,4] [5,4,3,1000000000]
theorem akh(h:ae (FA A e f g k l b i j a [.b (a==0) false,.b (a==1) false,.b (a==2) false,.r 175 [.agg (bq C c d),.agg (aX E F G H ah K L M)] [.agg (aX N Q R S a1 V X Y),ai q],.u b])):
 aY (ap f120 0) (qD A b E F G H ah K L M C c d k l) .normal (qD A (b+1) N Q R S a1 V X Y C c d i j):=
 h.oi [(6000000,900006000,5),(6000001,900006001,5),(6000002,900006002,5),(6000003,900006003,4),(6000004,900006004,1),(6000005,900006005,1),(6000006,900006006,1),(6000007,900006007,2)] [6,0,3,5,4] [5,4,3,1000000000]
def KS(A C E F G H ah K L:af)(b a:Int):aF:=bf 48 [(0,aS 1000000000),(4,aS 4),(5,aS 5)] [(5,[aw 900006000 5 C,aw 900006001 5 E,aw 900006002 5 F,aw 900006003 4 G,aw 900006004 1 H,aw 900006005 1 ah,aw 900006006 1 K,aw 900006007 2 L]),(4,[.v (aP),.v (aP),.v (aP),.v (aP),.v (aP),.v (aP),.v (aP),.v (aP)]),(1000000000,[.dt 1000000100 1 A,au b,au a])]
theorem aki(h:ae (Fy A a b c e f [.b (decide (d<c)) false])):
 aY (ap f120 0) (qD A d C E F G H ah K L M g i e f) (.exit 0) (KS A C E F G H ah K L a b):=
 h.aT [5,4,0] [5,4,1000000000]
theorem akj(h:ae [.a (.dB [some [D.J 1 A,I a,I b]] (aV.vals [aO 5 C])),.p (b3 prog 118 [aM.cur [D.J 1 A,I c,I d] [D.J 1 A,I a,I b]] (aV.vals [aO 5 C])),.r 168 [aO 5 C] [.agg (aX E F G H ah K L M)],.l [(6000000,900006000,5),(6000001,900006001,5),(6000002,900006002,5),(6000003,900006003,4),(6000004,900006004,1),(6000005,900006005,1),(6000006,900006006,1),(6000007,900006007,2)] [6,0,3,5,4] [5,4,3,1000000000] (ap f120 0) (qD A 0 E F G H ah K L M Z g i a b) (.exit 0) (KS A N Q R S a1 V X Y e f)]):
 b9 120 [aM.cur [D.J 1 A,I c,I d] [D.J 1 A,I e,I f],aM.ro (.agg (bq Z g i))] (aV.vals [.agg (aX N Q R S a1 V X Y)]):=
 h.b'
def KT(M A:af)(b c:Int)(F G H ah K L C E:af)(d e a:Int):aF:=bf 80 [(0,aS 1000000000),(1,aG.aC (bl.agg [.J .free 4 A,au b,au c])),(3,aS 3),(4,aS 4),(5,aS 5),(6,aS 1000000000),(7,aG.aC (bl.agg [.J .free 4 A,au b,au c])),(8,aG.aC (bl.agg [aw 90000 5 F,aw 90001 5 G,aw 90002 5 H,aw 90003 4 ah,aw 90004 1 K,aw 90005 1 L,aw 90006 1 C,aw 90007 2 E])),(9,aS 1000000000),(10,aU a),(11,.aC (.one (.bg (a==0)))),(12,.aC (.one (.bg (a==0))))] [(5,[aw 90000 5 F,aw 90001 5 G,aw 90002 5 H,aw 90003 4 ah,aw 90004 1 K,aw 90005 1 L,aw 90006 1 C,aw 90007 2 E]),(4,[.v (aP),.v (aP),.v (aP),.v (aP),.v (aP),.v (aP),.v (aP),.v (aP)]),(3,[.J .free 4 A,au b,au c]),(1000000000,[.dt 1000000100 1 M,au d,au e])]
def KU(P:Program)(W:Array Oper)(A L:af)(l m:Int)(M C E F G H ah K:af)(a b c d e f g i j k:Int):aF:=
 nG P W [[],[],[],[.dB [some [D.J 1 A,I d,I e]] (aV.vals [.agg (bj f g i j k)])],[],[],[],[]] (KT A L l m M C E F G H ah K a b c)
theorem akk{A M:af}{l m:Int}{C E F G H ah K L:af}{f g i j k a b c d e:Int}
  (h:cK [b3 prog 121 [aM.cur [D.J 1 A,I f,I g] [D.J 1 A,I j,I k]] (aV.vals [.agg (bj a b c d e)]),(C.length+[(bj a b c d e)].length)*40<=140737488355328,C.length+[(bj a b c d e)].length<=9223372036854775807,Flat [(bj a b c d e)]]):
  ek prog (cU f70 4) (KT A M l m C E F G H ah K L f g i) (KU prog (cU f70 4) A M l m C E F G H ah K L f g i j k a b c d e):=
 .om [0,0,0,1,0,3,0,0] h
def Mx(A:af)(a b:Int)(C E F G H ah K L:af)(c d e f g:Int)(M:af)(i j:Int)(l:List O):List O:=.a (.dB [some [D.J 1 A,I a,I b],none] (aV.vals [.agg (aX C E F G H ah K L)]))::.w A c d e::.p (b3 prog 120 [aM.cur [D.J 1 A,I f,I g] [D.J 1 A,I a,I b],aM.ro (.agg (bq M i j))] (aV.vals [.agg (aX C E F G H ah K L)]))::.k A 36 a b c d 16 e::l
theorem akl(h:ae (Mx A n o L C E F G H ah K b c a p a0 M d e [.b (a==0) true,.a (.h' (KU prog (cU f70 4) A M d e L C E F G H ah K b c a f g i j k l m)),.p (ek prog (cU f70 4) (KT A M d e L C E F G H ah K b c a) (KU prog (cU f70 4) A M d e L C E F G H ah K b c a f g i j k l m))])):
 b9 70 [aM.cur [D.J 1 A,I p,I a0] [D.J 1 A,I f,I g],aM.ro (.agg (bq M d e))] (aV.vals [.agg (aX (L++[(bj i j k l m)]) C E F G H ah K)]):=
 h.b'
def KV(M A:af)(b c:Int)(F G H ah K L C E:af)(d e a:Int):aF:=bf 80 [(0,aS 1000000000),(1,aG.aC (bl.agg [.J .free 4 A,au b,au c])),(3,aS 3),(4,aS 4),(5,aS 5),(6,aS 1000000000),(7,aG.aC (bl.agg [.J .free 4 A,au b,au c])),(8,aG.aC (bl.agg [aw 90000 5 F,aw 90001 5 G,aw 90002 5 H,aw 90003 4 ah,aw 90004 1 K,aw 90005 1 L,aw 90006 1 C,aw 90007 2 E])),(9,aS 1000000000),(10,aU a),(11,.aC (.one (.bg (a==0)))),(12,.aC (.one (.bg (a==0)))),(20,.aC (.one (.bg (a==1)))),(21,.aC (.one (.bg (a==1))))] [(5,[aw 90000 5 F,aw 90001 5 G,aw 90002 5 H,aw 90003 4 ah,aw 90004 1 K,aw 90005 1 L,aw 90006 1 C,aw 90007 2 E]),(4,[.v (aP),.v (aP),.v (aP),.v (aP),.v (aP),.v (aP),.v (aP),.v (aP)]),(3,[.J .free 4 A,au b,au c]),(1000000000,[.dt 1000000100 1 M,au d,au e])]
def KW(P:Program)(W:Array Oper)(A L:af)(l m:Int)(M C E F G H ah K:af)(a b c d e f g i j k:Int):aF:=
 nG P W [[],[],[],[.dB [some [D.J 1 A,I d,I e]] (aV.vals [.agg (bj f g i j k)])],[],[],[],[]] (KV A L l m M C E F G H ah K a b c)
theorem akm{A L:af}{l m:Int}{M E C F G H ah K:af}{f g i j k a b c d e:Int}
  (h:cK [b3 prog 122 [aM.cur [D.J 1 A,I f,I g] [D.J 1 A,I j,I k]] (aV.vals [.agg (bj a b c d e)]),(C.length+[(bj a b c d e)].length)*40<=140737488355328,C.length+[(bj a b c d e)].length<=9223372036854775807,Flat [(bj a b c d e)]]):
  ek prog (cU f70 6) (KV A L l m M E C F G H ah K f g i) (KW prog (cU f70 6) A L l m M E C F G H ah K f g i j k a b c d e):=
 .om [0,0,0,1,0,3,0,0] h
theorem akn(h:ae (Mx A n o L C E F G H ah K b c a p a0 M d e [.b (a==0) false,.b (a==1) true,.a (.h' (KW prog (cU f70 6) A M d e L C E F G H ah K b c a f g i j k l m)),.p (ek prog (cU f70 6) (KV A M d e L C E F G H ah K b c a) (KW prog (cU f70 6) A M d e L C E F G H ah K b c a f g i j k l m))])):
 b9 70 [aM.cur [D.J 1 A,I p,I a0] [D.J 1 A,I f,I g],aM.ro (.agg (bq M d e))] (aV.vals [.agg (aX L C (E++[(bj i j k l m)]) F G H ah K)]):=
 h.b'
def KX(M A:af)(b c:Int)(F G H ah K L C E:af)(d e a:Int):aF:=bf 80 [(0,aS 1000000000),(1,aG.aC (bl.agg [.J .free 4 A,au b,au c])),(3,aS 3),(4,aS 4),(5,aS 5),(6,aS 1000000000),(7,aG.aC (bl.agg [.J .free 4 A,au b,au c])),(8,aG.aC (bl.agg [aw 90000 5 F,aw 90001 5 G,aw 90002 5 H,aw 90003 4 ah,aw 90004 1 K,aw 90005 1 L,aw 90006 1 C,aw 90007 2 E])),(9,aS 1000000000),(10,aU a),(11,.aC (.one (.bg (a==0)))),(12,.aC (.one (.bg (a==0)))),(20,.aC (.one (.bg (a==1)))),(21,.aC (.one (.bg (a==1)))),(29,.aC (.one (.bg (a==2)))),(30,.aC (.one (.bg (a==2))))] [(5,[aw 90000 5 F,aw 90001 5 G,aw 90002 5 H,aw 90003 4 ah,aw 90004 1 K,aw 90005 1 L,aw 90006 1 C,aw 90007 2 E]),(4,[.v (aP),.v (aP),.v (aP),.v (aP),.v (aP),.v (aP),.v (aP),.v (aP)]),(3,[.J .free 4 A,au b,au c]),(1000000000,[.dt 1000000100 1 M,au d,au e])]
def KY(P:Program)(W:Array Oper)(A L:af)(g i:Int)(M C E F G H ah K:af)(a b c d e f:Int):aF:=
 nG P W [[],[],[],[.dB [some [D.J 1 A,I d,I e],none] (aV.vals [ag f])],[.own],[],[]] (KX A L g i M C E F G H ah K a b c)
theorem ako{C L:af}{g i:Int}{M E F G A H ah K:af}{b c d e f a:Int}
  (h:cK [b3 prog 36 [aM.cur [D.J 1 C,I b,I c] [D.J 1 C,I e,I f],aM.ro (ag 4)] (aV.vals [ag a]),(0:Int)<=none.getD 0,none.getD 0<=(some a).getD (A.length:Int),(some a).getD (A.length:Int)<=(A.length:Int)]):
  ek prog (cU f70 8) (KX C L g i M E F G A H ah K b c d) (KY prog (cU f70 8) C L g i M E F G A H ah K b c d e f a):=
 .om [0,0,0,1,3,0,0] h
def FC(A:af)(a b:Int)(C E F G H ah K L:af)(c d e f g:Int)(M:af)(i j:Int)(l:List O):List O:=Mx A a b C E F G H ah K L c d e f g M i j (.b (e==0) false::.b (e==1) false::l)
theorem akp(h:ae (FC A j k L E F G C H ah K b c a l m M d e [.b (a==2) true,.a (.h' (KY prog (cU f70 8) A M d e L E F G C H ah K b c a f g i)),.p (ek prog (cU f70 8) (KX A M d e L E F G C H ah K b c a) (KY prog (cU f70 8) A M d e L E F G C H ah K b c a f g i))])):
 b9 70 [aM.cur [D.J 1 A,I l,I m] [D.J 1 A,I f,I g],aM.ro (.agg (bq M d e))] (aV.vals [.agg [D.J 5 L,D.J 5 E,D.J 5 F,D.J 4 G,D.J 1 (List.take (((some i).getD (C.length:Int)).toNat-0) (List.drop 0 C)),D.J 1 H,D.J 1 ah,D.J 2 K]]):=
 h.b'
def S5(M A:af)(b c:Int)(F G H ah K L C E:af)(d e a:Int):aF:=bf 80 [(0,aS 1000000000),(1,aG.aC (bl.agg [.J .free 4 A,au b,au c])),(3,aS 3),(4,aS 4),(5,aS 5),(6,aS 1000000000),(7,aG.aC (bl.agg [.J .free 4 A,au b,au c])),(8,aG.aC (bl.agg [aw 90000 5 F,aw 90001 5 G,aw 90002 5 H,aw 90003 4 ah,aw 90004 1 K,aw 90005 1 L,aw 90006 1 C,aw 90007 2 E])),(9,aS 1000000000),(10,aU a),(11,.aC (.one (.bg (a==0)))),(12,.aC (.one (.bg (a==0)))),(20,.aC (.one (.bg (a==1)))),(21,.aC (.one (.bg (a==1)))),(29,.aC (.one (.bg (a==2)))),(30,.aC (.one (.bg (a==2)))),(37,.aC (.one (.bg (a==3)))),(38,.aC (.one (.bg (a==3))))] [(5,[aw 90000 5 F,aw 90001 5 G,aw 90002 5 H,aw 90003 4 ah,aw 90004 1 K,aw 90005 1 L,aw 90006 1 C,aw 90007 2 E]),(4,[.v (aP),.v (aP),.v (aP),.v (aP),.v (aP),.v (aP),.v (aP),.v (aP)]),(3,[.J .free 4 A,au b,au c]),(1000000000,[.dt 1000000100 1 M,au d,au e])]
def KZ(M C:af)(c d:Int)(G H ah K A L E F:af)(a e f b:Int):aF:=bf 80 [(0,aS 1000000000),(1,aG.aC (bl.agg [.J .free 4 C,au c,au d])),(3,aS 3),(4,aS 4),(5,aS 5),(6,aS 1000000000),(7,aG.aC (bl.agg [.J .free 4 C,au c,au d])),(8,aG.aC (bl.agg [aw 90000 5 G,aw 90001 5 H,aw 90002 5 ah,aw 90003 4 K,aw 90004 1 (A.set 0 [I b]),aw 90005 1 L,aw 90006 1 E,aw 90007 2 F])),(9,aS 1000000000),(10,aU a),(11,.aC (.one (.bg (a==0)))),(12,.aC (.one (.bg (a==0)))),(20,.aC (.one (.bg (a==1)))),(21,.aC (.one (.bg (a==1)))),(29,.aC (.one (.bg (a==2)))),(30,.aC (.one (.bg (a==2)))),(37,.aC (.one (.bg (a==3)))),(38,.aC (.one (.bg (a==3)))),(39,.aC (.one (.ptr 5 4))),(40,aG.aC (bl.one (aw 90004 1 (A.set 0 [I b])))),(41,aS 1000000000),(42,.aC (.one (.J (.own 42) 1 [[I 1000000],[I 1000001],[I (-1000001)]]))),(43,aU b),(44,.aC (.one (.cL (Tag.own 90004) 1 (A.set 0 [I b]) 0 0)))] [(5,[aw 90000 5 G,aw 90001 5 H,aw 90002 5 ah,aw 90003 4 K,aw 90004 1 (A.set 0 [I b]),aw 90005 1 L,aw 90006 1 E,aw 90007 2 F]),(4,[.v (aP),.v (aP),.v (aP),.v (aP),.v (aP),.v (aP),.v (aP),.v (aP)]),(3,[.J .free 4 C,au c,au d]),(1000000000,[.dt 1000000100 1 M,au e,au f])]
theorem akq{A L:af}{g i:Int}{M E F G C H ah K:af}{d e f a b c:Int}{d25:D}
  (h:cK [b3 prog 37 [aM.cur [D.J 1 A,I d,I e] [D.J 1 A,I a,I b],aM.ro (.one (.J 1 [[I 1000000],[I 1000001],[I (-1000001)]]))] (aV.vals [ag c]),(0:Int)<=0,0<(C.length:Int),C[0]?=some [d25]]):
  ek prog (cU f70 10) (S5 A L g i M E F G C H ah K d e f) (KZ A L g i M E F G C H ah K f a b c):=
 .of [[],[],[],[],[.dB [some [D.J 1 A,I a,I b],none] (aV.vals [ag c])],[],[.el [d25]]] [[],[],[],[],[b3 prog 37 [aM.cur [D.J 1 A,I d,I e] [D.J 1 A,I a,I b],aM.ro (.one (.J 1 [[I 1000000],[I 1000001],[I (-1000001)]]))] (aV.vals [ag c])],[(0:Int)<=0,0<(C.length:Int)],[C[0]?=some [d25]]] (by kernel_rfl) (by kernel_rfl) (by kernel_rfl) h
theorem akr(h:ae (FC A j k L C E F G H ah K d e a l m M b c [.b (a==2) false,.b (a==3) true,.a (.h' (KZ A M b c L C E F G H ah K a f g i)),.p (ek prog (cU f70 10) (S5 A M b c L C E F G H ah K d e a) (KZ A M b c L C E F G H ah K a f g i))])):
 b9 70 [aM.cur [D.J 1 A,I l,I m] [D.J 1 A,I f,I g],aM.ro (.agg (bq M b c))] (aV.vals [.agg (aX L C E F (G.set 0 [I i]) H ah K)]):=
 h.b'
def K0(M A:af)(b c:Int)(F G H ah K L C E:af)(d e a:Int):aF:=bf 80 [(0,aS 1000000000),(1,aG.aC (bl.agg [.J .free 4 A,au b,au c])),(3,aS 3),(4,aS 4),(5,aS 5),(6,aS 1000000000),(7,aG.aC (bl.agg [.J .free 4 A,au b,au c])),(8,aG.aC (bl.agg [aw 90000 5 F,aw 90001 5 G,aw 90002 5 H,aw 90003 4 ah,aw 90004 1 K,aw 90005 1 L,aw 90006 1 C,aw 90007 2 E])),(9,aS 1000000000),(10,aU a),(11,.aC (.one (.bg (a==0)))),(12,.aC (.one (.bg (a==0)))),(20,.aC (.one (.bg (a==1)))),(21,.aC (.one (.bg (a==1)))),(29,.aC (.one (.bg (a==2)))),(30,.aC (.one (.bg (a==2)))),(37,.aC (.one (.bg (a==3)))),(38,.aC (.one (.bg (a==3)))),(45,.aC (.one (.bg (a==4)))),(46,.aC (.one (.bg (a==4))))] [(5,[aw 90000 5 F,aw 90001 5 G,aw 90002 5 H,aw 90003 4 ah,aw 90004 1 K,aw 90005 1 L,aw 90006 1 C,aw 90007 2 E]),(4,[.v (aP),.v (aP),.v (aP),.v (aP),.v (aP),.v (aP),.v (aP),.v (aP)]),(3,[.J .free 4 A,au b,au c]),(1000000000,[.dt 1000000100 1 M,au d,au e])]
def LY(P:Program)(W:Array Oper)(A L:af)(g i:Int)(M C E F G H ah K:af)(a b c d e f:Int):aF:=
 nG P W [[],[],[],[.dB [some [D.J 1 A,I d,I e],none] (aV.vals [ag f])],[],[],[],[],[],[]] (K0 A L g i M C E F G H ah K a b c)
theorem aks{A L:af}{g i:Int}{M E F G H ah K C:af}{b c d e f a:Int}
  (h:cK [b3 prog 36 [aM.cur [D.J 1 A,I b,I c] [D.J 1 A,I e,I f],aM.ro (ag 6)] (aV.vals [ag a]),aK .i64 (a-1),(C.length+[[I (a-1),B false]].length)*16<=140737488355328,C.length+[[I (a-1),B false]].length<=9223372036854775807,Flat [[I (a-1),B false]]]):
  ek prog (cU f70 12) (K0 A L g i M E F G H ah K C b c d) (LY prog (cU f70 12) A L g i M E F G H ah K C b c d e f a):=
 .om [0,0,0,1,1,0,0,3,0,0] h
theorem akt(h:ae (FC A j k L C E F G H ah K b c a l m M d e [.b (a==2) false,.b (a==3) false,.b (a==4) true,.a (.h' (LY prog (cU f70 12) A M d e L C E F G H ah K b c a f g i)),.p (ek prog (cU f70 12) (K0 A M d e L C E F G H ah K b c a) (LY prog (cU f70 12) A M d e L C E F G H ah K b c a f g i))])):
 b9 70 [aM.cur [D.J 1 A,I l,I m] [D.J 1 A,I f,I g],aM.ro (.agg (bq M d e))] (aV.vals [.agg (aX L C E F G H ah (K++[[I (i-1),B false]]))]):=
 h.b'
def FK(A:af)(a b:Int)(C E F G H ah K L:af)(c d e f g:Int)(M:af)(i j:Int)(l:List O):List O:=FC A a b C E F G H ah K L c d e f g M i j (.b (e==2) false::.b (e==3) false::.b (e==4) false::l)
theorem ajE(h:ae (FK A g i K C E F G H ah L b c a j k M l m [.b (a==5) true,.w A d e f,.k A 36 b c d e 2 f])):
 b9 70 [aM.cur [D.J 1 A,I j,I k] [D.J 1 A,I d,I e],aM.ro (.agg (bq M l m))] (aV.vals [.agg [D.J 5 K,D.J 5 C,D.J 5 E,D.J 4 F,D.J 1 G,D.J 1 H,D.J 1 ah,D.J 2 [[I 1,B false],[I f,B true]]]]):=
 h.b'
theorem ajF(h:ae (FK A d e L E F G H C ah K b c a f g M i j [.b (a==5) false,.b (a==6) true,.g C [[B true]] 1,.h [[B true]]])):
 b9 70 [aM.cur [D.J 1 A,I f,I g] [D.J 1 A,I b,I c],aM.ro (.agg (bq M i j))] (aV.vals [.agg (aX L E F G H (C++[[B true]]) ah K)]):=
 h.b'
theorem ajG(h:ae (FK A d e L E F C G H ah K b c a f g M i j [.b (a==5) false,.b (a==6) false,.b (a==7) true,.g C [[I 0,I 0,I 0,I 0]] 32,.h [[I 0,I 0,I 0,I 0]]])):
 b9 70 [aM.cur [D.J 1 A,I f,I g] [D.J 1 A,I b,I c],aM.ro (.agg (bq M i j))] (aV.vals [.agg (aX L E F (C++[[I 0,I 0,I 0,I 0]]) G H ah K)]):=
 h.b'
theorem ajH(h:ae (FK A d e L C E F G H ah K b c a f g M i j [.b (a==5) false,.b (a==6) false,.b (a==7) false])):
 b9 70 [aM.cur [D.J 1 A,I f,I g] [D.J 1 A,I b,I c],aM.ro (.agg (bq M i j))] (aV.vals [.agg (aX L C E F G H ah K)]):=
 h.b'
def Ed(H ah:af)(c d e f:Int)(K G:af)(a b:Int)(A C E F:af)(q:Bool):aF:=bf 30 [(0,aS 1000000000),(2,aS 2),(3,aS 3),(4,.aC (.one (.bg q))),(5,aG.fN [bl.agg [aw 110000 4 G,au a,au b,aw 110003 8 A,aw 110004 6 C,aw 110005 5 E,aw 110006 3 F],bl.one (aE.bg q)]),(6,aS 1000000000),(7,aG.aC (bl.agg [aw 80000 4 ah,au c,au d])),(8,aS 1000000000),(9,aG.aC (bl.one (aw 100000 5 K))),(10,aG.fN [bl.agg [aw 110000 4 G,au a,au b,aw 110003 8 A,aw 110004 6 C,aw 110005 5 E,aw 110006 3 F],bl.one (aE.bg q)]),(11,aG.aC (bl.agg [aw 110000 4 G,au a,au b,aw 110003 8 A,aw 110004 6 C,aw 110005 5 E,aw 110006 3 F])),(12,.aC (.one (.bg q)))] [(3,[aw 110000 4 G,au a,au b,aw 110003 8 A,aw 110004 6 C,aw 110005 5 E,aw 110006 3 F]),(2,[.v (aP),au 0,au 0,.v (aP),.v (aP),.v (aP),.v (aP)]),(1000000000,[.dt 1000000100 1 H,au e,au f])]
def z7(P:Program)(W:Array Oper)(A a1:af)(j k a b:Int)(C E:af)(c d:Int)(F G H ah:af)(q:Bool)(e f:Int)(K L:af)(g i:Int)(M N Q R S:af):aF:=
 nG P W [[],[],[.dB [some [D.J 1 A,I e,I f],none] (aV.vals [aO 3 K])],[.res [.agg (a8 L g i M N Q R),aO 1 S]],[],[],[],[]] (Ed A a1 j k a b C E c d F G H ah q)
theorem S6{A a1:af}{j k a b:Int}{K C:af}{c d:Int}{E F G H:af}{q:Bool}{e f:Int}{ah L:af}{g i:Int}{M N Q R S:af}
  (h:cK [b3 prog 66 [aM.cur [D.J 1 A,I a,I b] [D.J 1 A,I e,I f],aM.ro (ag 40)] (aV.vals [aO 3 ah]),al 119 [.agg (a8 C c d E F G H),aO 3 ah] [.agg (a8 L g i M N Q R),aO 1 S]]):
  ek prog (cU f69 2) (Ed A a1 j k a b K C c d E F G H q) (z7 prog (cU f69 2) A a1 j k a b K C c d E F G H q e f ah L g i M N Q R S):=
 .om [0,0,1,1,0,0,0,0] h
def LZ(Q R:af)(e i:Int)(a1 K:af)(c d:Int)(L M A C:af)(q:Bool)(S E:af)(a b:Int)(F G H ah N:af)(f g:Int)(r:Bool):aF:=bf 30 [(0,aS 1000000000),(2,aS 2),(3,aS 3),(4,.aC (.one (.bg q))),(5,aG.fN [bl.agg [aw 110000 4 K,au c,au d,aw 110003 8 L,aw 110004 6 M,aw 110005 5 A,aw 110006 3 C],bl.one (aE.bg q)]),(6,aS 1000000000),(7,aG.aC (bl.agg [aw 80000 4 R,au e,au i])),(8,aS 1000000000),(9,aG.aC (bl.one (aw 100000 5 a1))),(10,aG.fN [bl.agg [aw 110000 4 K,au c,au d,aw 110003 8 L,aw 110004 6 M,aw 110005 5 A,aw 110006 3 C],bl.one (aE.bg q)]),(11,aG.aC (bl.agg [aw 110000 4 K,au c,au d,aw 110003 8 L,aw 110004 6 M,aw 110005 5 A,aw 110006 3 C])),(12,.aC (.one (.bg q))),(13,aG.fN [bl.agg [aw 180000 4 E,au a,au b,aw 180003 8 F,aw 180004 6 G,aw 180005 5 H,aw 180006 3 ah],bl.one (aw 180100 1 N)]),(14,aG.aC (bl.agg [aw 110000 4 K,au c,au d,aw 110003 8 L,aw 110004 6 M,aw 110005 5 A,aw 110006 3 C])),(15,aS 1000000000),(16,aG.aC (bl.one (aw 170000 3 S))),(17,aG.fN [bl.agg [aw 180000 4 E,au a,au b,aw 180003 8 F,aw 180004 6 G,aw 180005 5 H,aw 180006 3 ah],bl.one (aw 180100 1 N)]),(18,aG.aC (bl.agg [aw 180000 4 E,au a,au b,aw 180003 8 F,aw 180004 6 G,aw 180005 5 H,aw 180006 3 ah])),(19,aG.aC (bl.one (aw 180100 1 N))),(20,aS 1000000000),(21,.aC (.one (.bg r)))] [(3,[aw 180000 4 E,au a,au b,aw 180003 8 F,aw 180004 6 G,aw 180005 5 H,aw 180006 3 ah]),(2,[.v (aP),au 0,au 0,.v (aP),.v (aP),.v (aP),.v (aP)]),(1000000000,[.dt 1000000100 1 Q,au f,au g])]
def L0(P:Program)(W:Array Oper)(A c9:af)(n o:Int)(C E:af)(a b:Int)(F G H ah:af)(q:Bool)(K L:af)(c d:Int)(M N Q R S:af)(e f:Int)(r:Bool)(g i j:Int)(a1:af)(k l:Int)(V X Y Z:af)(m:Int):aF:=
 nG P W [[],[],[.dB [some [D.J 1 A,I g,I i],none] (aV.vals [ag j])],[.res [.agg (a8 a1 k l V X Y Z),ag m]],[],[],[],[]] (LZ A c9 n o C E a b F G H ah q K L c d M N Q R S e f r)
theorem ajI{A c9:af}{n o:Int}{ah K:af}{f g:Int}{L M N Q:af}{q:Bool}{R C:af}{a b:Int}{E F G H S:af}{c d:Int}{r:Bool}{i j e:Int}{a1:af}{k l:Int}{V X Y Z:af}{m:Int}
  (h:cK [b3 prog 36 [aM.cur [D.J 1 A,I c,I d] [D.J 1 A,I i,I j],aM.ro (ag 12)] (aV.vals [ag e]),al 35 [.agg (a8 C a b E F G H),ag e] [.agg (a8 a1 k l V X Y Z),ag m]]):
  ek prog (cU f69 4) (LZ A c9 n o ah K f g L M N Q q R C a b E F G H S c d r) (L0 prog (cU f69 4) A c9 n o ah K f g L M N Q q R C a b E F G H S c d r i j e a1 k l V X Y Z m):=
 .om [0,0,1,1,0,0,0,0] h
def V3(A:af)(a b:Int)(C:af)(c d e f:Int)(E:af)(g i:Int)(F:af)(j k:Int)(G H ah K:af)(q:Bool)(l:List O):List O:=.a (.dB [some [D.J 1 A,I a,I b]] (aV.vals [.agg (bq C c d)]))::.a (.dB [some [D.J 1 A,I e,I f]] (aV.vals [aO 5 E]))::.p (b3 prog 117 [aM.cur [D.J 1 A,I g,I i] [D.J 1 A,I a,I b]] (aV.vals [.agg (bq C c d)]))::.p (b3 prog 118 [aM.cur [D.J 1 A,I a,I b] [D.J 1 A,I e,I f]] (aV.vals [aO 5 E]))::.r 116 [.agg (bq C c d),aO 5 E] [.agg (a8 F j k G H ah K),ai q]::l
theorem ajJ(h:ae (V3 A p cS E a b e f C d0 bz F c d G H ah K q [.a (.h' (z7 prog (cU f69 2) A E a b e f C F c d G H ah K q l m L M g i N Q R S a1)),.y A j k r,.p (ek prog (cU f69 2) (Ed A E a b e f C F c d G H ah K q) (z7 prog (cU f69 2) A E a b e f C F c d G H ah K q l m L M g i N Q R S a1)),.m A 34 l m j k 4 r,.b r true,.a (.h' (L0 prog (cU f69 4) A E a b C F c d G H ah K q L M g i N Q R S a1 j k r n o f0 V a0 b6 X Y Z c9 i0)),.p (ek prog (cU f69 4) (LZ A E a b C F c d G H ah K q L M g i N Q R S a1 j k r) (L0 prog (cU f69 4) A E a b C F c d G H ah K q L M g i N Q R S a1 j k r n o f0 V a0 b6 X Y Z c9 i0))])):
 b9 69 [aM.cur [D.J 1 A,I d0,I bz] [D.J 1 A,I n,I o]] (aV.vals [.agg (a8 V a0 b6 X Y Z c9)]):=
 h.b'
theorem ajK(h:ae (V3 A n o E a b c d C p a0 F e f G H ah K q [.a (.h' (z7 prog (cU f69 2) A E a b c d C F e f G H ah K q g i S L j k M N Q R a1)),.y A l m r,.p (ek prog (cU f69 2) (Ed A E a b c d C F e f G H ah K q) (z7 prog (cU f69 2) A E a b c d C F e f G H ah K q g i S L j k M N Q R a1)),.m A 34 g i l m 4 r,.b r false])):
 b9 69 [aM.cur [D.J 1 A,I p,I a0] [D.J 1 A,I l,I m]] (aV.vals [.agg (a8 L j k M N Q R)]):=
 h.b'
def S7(H C:af)(b c:Int)(A E F G:af)(d f e a:Int):aF:=bf 82 [(0,aS 1000000000),(2,aS 2),(3,aS 3),(4,aU d),(5,aS 1000000000),(6,aG.aC (bl.agg [aw 70000 4 C,au b,au c,aw 70003 8 A,aw 70004 6 E,aw 70005 5 F,aw 70006 3 G])),(7,aS 1000000000),(8,.aC (.one (.ptr 3 3))),(9,aG.aC (bl.one (aw 70003 8 A))),(10,aU (A.length:Int)),(11,aU d),(12,aS 1000000000),(13,aU a),(14,.aC (.one (.bg (a==0)))),(15,.aC (.one (.bg (a==0))))] [(3,[aw 70000 4 C,au b,au c,aw 70003 8 A,aw 70004 6 E,aw 70005 5 F,aw 70006 3 G]),(2,[.v (aP),au 0,au 0,.v (aP),.v (aP),.v (aP),.v (aP)]),(1000000000,[.dt 1000000100 1 H,au f,au e])]
def L1(S M:af)(b c:Int)(A N Q R:af)(a d e f:Int)(C E F G H ah K L:af):aF:=bf 82 [(0,aS 1000000000),(2,aS 2),(3,aS 3),(4,aU a),(5,aS 1000000000),(6,aG.aC (bl.agg [aw 70000 4 M,au b,au c,aw 70003 8 (A.set a.toNat (aX C E F G H ah K L)),aw 70004 6 N,aw 70005 5 Q,aw 70006 3 R])),(7,aS 1000000000),(8,.aC (.one (.ptr 3 3))),(9,aG.aC (bl.one (aw 70003 8 (A.set a.toNat (aX C E F G H ah K L))))),(10,aU (A.length:Int)),(11,aU a),(12,aS 1000000000),(13,aU d),(14,.aC (.one (.bg (d==0)))),(15,.aC (.one (.bg (d==0)))),(16,.aC (.one (.ptr 3 3))),(17,aG.aC (bl.one (aw 70003 8 (A.set a.toNat (aX C E F G H ah K L))))),(18,aU a),(19,aS 1000000000),(20,aS 3),(21,aG.aC (bl.agg [aw 70000 4 M,au b,au c])),(22,aG.aC (bl.agg [.cw,.cw,.cw,.cw,.cw,.cw,.cw,.cw])),(23,.aC (.one (.cL (Tag.own 70003) 8 (A.set a.toNat (aX C E F G H ah K L)) a.toNat 0)))] [(3,[aw 70000 4 M,au b,au c,aw 70003 8 (A.set a.toNat (aX C E F G H ah K L)),aw 70004 6 N,aw 70005 5 Q,aw 70006 3 R]),(2,[.v (aP),au 0,au 0,.v (aP),.v (aP),.v (aP),.v (aP)]),(1000000000,[.dt 1000000100 1 S,au e,au f])]
theorem ajL{A N:af}{d e:Int}{C Q R S:af}{a f g i b c:Int}{E F G H ah K L M:af}{d32 d33 d34 d35 d36 d37 d38 d39:D}
  (h:cK [b3 prog 70 [aM.cur [D.J 1 A,I f,I g] [D.J 1 A,I b,I c],aM.ro (.agg (bq N d e))] (aV.vals [.agg (aX E F G H ah K L M)]),0<=a,a<(C.length:Int),C[a.toNat]?=some [d32,d33,d34,d35,d36,d37,d38,d39]]):
  ek prog (cU f33 5) (S7 A N d e C Q R S a f g i) (L1 A N d e C Q R S a i b c E F G H ah K L M):=
 .of [[],[],[],[],[],[],[.dB [some [D.J 1 A,I b,I c],none] (aV.vals [.agg (aX E F G H ah K L M)])],[],[.el [d32,d33,d34,d35,d36,d37,d38,d39]]] [[],[],[],[],[],[],[b3 prog 70 [aM.cur [D.J 1 A,I f,I g] [D.J 1 A,I b,I c],aM.ro (.agg (bq N d e))] (aV.vals [.agg (aX E F G H ah K L M)])],[0<=a,a<(C.length:Int)],[C[a.toNat]?=some [d32,d33,d34,d35,d36,d37,d38,d39]]] (by kernel_rfl) (by kernel_rfl) (by kernel_rfl) h
def MC(A:af)(a b:Int)(C:af)(c d:Int)(E F G H:af)(e f g i j k m n:Int)(l:List O):List O:=.a (.dB [some [D.J 1 A,I a,I b]] (aV.vals [.agg (a8 C c d E F G H)]))::.w A e f g::.w A i j k::.p (b3 prog 69 [aM.cur [D.J 1 A,I m,I n] [D.J 1 A,I a,I b]] (aV.vals [.agg (a8 C c d E F G H)]))::.k A 36 a b e f (E.length:Int) g::.k A 36 e f i j 20 k::l
theorem ajM(h:ae (MC A l m H c d C E F G e f a g i b n o [.b (b==0) true,.a (.h' (L1 A H c d C E F G a b j k ah K L M N Q R S)),.p (ek prog (cU f33 5) (S7 A H c d C E F G a g i b) (L1 A H c d C E F G a b j k ah K L M N Q R S))])):
 b9 33 [aM.cur [D.J 1 A,I n,I o] [D.J 1 A,I j,I k]] (aV.vals [.agg (a8 H c d (C.set a.toNat (aX ah K L M N Q R S)) E F G)]):=
 h.b'
def S8(H C:af)(b c:Int)(A E F G:af)(d f e a:Int):aF:=bf 82 [(0,aS 1000000000),(2,aS 2),(3,aS 3),(4,aU d),(5,aS 1000000000),(6,aG.aC (bl.agg [aw 70000 4 C,au b,au c,aw 70003 8 A,aw 70004 6 E,aw 70005 5 F,aw 70006 3 G])),(7,aS 1000000000),(8,.aC (.one (.ptr 3 3))),(9,aG.aC (bl.one (aw 70003 8 A))),(10,aU (A.length:Int)),(11,aU d),(12,aS 1000000000),(13,aU a),(14,.aC (.one (.bg (a==0)))),(15,.aC (.one (.bg (a==0)))),(24,.aC (.one (.bg (a==1)))),(25,.aC (.one (.bg (a==1))))] [(3,[aw 70000 4 C,au b,au c,aw 70003 8 A,aw 70004 6 E,aw 70005 5 F,aw 70006 3 G]),(2,[.v (aP),au 0,au 0,.v (aP),.v (aP),.v (aP),.v (aP)]),(1000000000,[.dt 1000000100 1 H,au f,au e])]
def L2(ah F:af)(i j:Int)(E A G H:af)(k g a l m b:Int)(C:af)(c d e f:Int):aF:=bf 82 [(0,aS 1000000000),(2,aS 2),(3,aS 3),(4,aU k),(5,aS 1000000000),(6,aG.aC (bl.agg [aw 70000 4 F,au i,au j,aw 70003 8 E,aw 70004 6 (A.set a.toNat (bT b C c d e f)),aw 70005 5 G,aw 70006 3 H])),(7,aS 1000000000),(8,.aC (.one (.ptr 3 3))),(9,aG.aC (bl.one (aw 70003 8 E))),(10,aU (E.length:Int)),(11,aU k),(12,aS 1000000000),(13,aU g),(14,.aC (.one (.bg (g==0)))),(15,.aC (.one (.bg (g==0)))),(24,.aC (.one (.bg (g==1)))),(25,.aC (.one (.bg (g==1)))),(26,.aC (.one (.ptr 3 4))),(27,aG.aC (bl.one (aw 70004 6 (A.set a.toNat (bT b C c d e f))))),(28,aS 1000000000),(29,.aC (.one (.ptr 3 4))),(30,aG.aC (bl.one (aw 70004 6 (A.set a.toNat (bT b C c d e f))))),(31,aU (A.length:Int)),(32,aU a),(33,aS 1000000000),(34,aG.aC (bl.agg [au b,.cw,au c,au d,au e,au f])),(35,.aC (.one (.cL (Tag.own 70004) 6 (A.set a.toNat (bT b C c d e f)) a.toNat 0)))] [(3,[aw 70000 4 F,au i,au j,aw 70003 8 E,aw 70004 6 (A.set a.toNat (bT b C c d e f)),aw 70005 5 G,aw 70006 3 H]),(2,[.v (aP),au 0,au 0,.v (aP),.v (aP),.v (aP),.v (aP)]),(1000000000,[.dt 1000000100 1 ah,au l,au m])]
theorem ajN{A H:af}{p a0:Int}{ah C F G:af}{n l m o b c a d e f:Int}{E:af}{g i j k:Int}{d34 d35 d36 d37 d38 d39:D}
  (h:cK [b3 prog 36 [aM.cur [D.J 1 A,I l,I m] [D.J 1 A,I b,I c],aM.ro (ag (C.length:Int))] (aV.vals [ag a]),b3 prog 71 [aM.cur [D.J 1 A,I b,I c] [D.J 1 A,I d,I e]] (aV.vals [.agg (bT f E g i j k)]),0<=a,a<(C.length:Int),C[a.toNat]?=some [d34,d35,d36,d37,d38,d39]]):
  ek prog (cU f33 7) (S8 A H p a0 ah C F G n l m o) (L2 A H p a0 ah C F G n o a d e f E g i j k):=
 .of [[],[],[],[],[],[],[.dB [some [D.J 1 A,I b,I c],none] (aV.vals [ag a])],[],[.dB [some [D.J 1 A,I d,I e]] (aV.vals [.agg (bT f E g i j k)])],[],[.el [d34,d35,d36,d37,d38,d39]]] [[],[],[],[],[],[],[b3 prog 36 [aM.cur [D.J 1 A,I l,I m] [D.J 1 A,I b,I c],aM.ro (ag (C.length:Int))] (aV.vals [ag a])],[],[b3 prog 71 [aM.cur [D.J 1 A,I b,I c] [D.J 1 A,I d,I e]] (aV.vals [.agg (bT f E g i j k)])],[0<=a,a<(C.length:Int)],[C[a.toNat]?=some [d34,d35,d36,d37,d38,d39]]] (by kernel_rfl) (by kernel_rfl) (by kernel_rfl) h
theorem ajO(h:ae (MC A b6 cS H b c C E F G e f d g i a d0 bz [.b (a==0) false,.b (a==1) true,.a (.h' (L2 A H b c C E F G d a j k l m ah n o p a0)),.p (ek prog (cU f33 7) (S8 A H b c C E F G d g i a) (L2 A H b c C E F G d a j k l m ah n o p a0))])):
 b9 33 [aM.cur [D.J 1 A,I d0,I bz] [D.J 1 A,I k,I l]] (aV.vals [.agg (a8 H b c C (E.set j.toNat (bT m ah n o p a0)) F G)]):=
 h.b'
def S9(H C:af)(b c:Int)(A E F G:af)(d f e a:Int):aF:=bf 82 [(0,aS 1000000000),(2,aS 2),(3,aS 3),(4,aU d),(5,aS 1000000000),(6,aG.aC (bl.agg [aw 70000 4 C,au b,au c,aw 70003 8 A,aw 70004 6 E,aw 70005 5 F,aw 70006 3 G])),(7,aS 1000000000),(8,.aC (.one (.ptr 3 3))),(9,aG.aC (bl.one (aw 70003 8 A))),(10,aU (A.length:Int)),(11,aU d),(12,aS 1000000000),(13,aU a),(14,.aC (.one (.bg (a==0)))),(15,.aC (.one (.bg (a==0)))),(24,.aC (.one (.bg (a==1)))),(25,.aC (.one (.bg (a==1)))),(36,.aC (.one (.bg (a==2)))),(37,.aC (.one (.bg (a==2))))] [(3,[aw 70000 4 C,au b,au c,aw 70003 8 A,aw 70004 6 E,aw 70005 5 F,aw 70006 3 G]),(2,[.v (aP),au 0,au 0,.v (aP),.v (aP),.v (aP),.v (aP)]),(1000000000,[.dt 1000000100 1 H,au f,au e])]
def L3(H E:af)(d e:Int)(C F A G:af)(f c a g i b:Int)(d14 d15 d16 d17:D):aF:=bf 82 [(0,aS 1000000000),(2,aS 2),(3,aS 3),(4,aU f),(5,aS 1000000000),(6,aG.aC (bl.agg [aw 70000 4 E,au d,au e,aw 70003 8 C,aw 70004 6 F,aw 70005 5 (A.set a.toNat [d14,I (b-1),d15,d16,d17]),aw 70006 3 G])),(7,aS 1000000000),(8,.aC (.one (.ptr 3 3))),(9,aG.aC (bl.one (aw 70003 8 C))),(10,aU (C.length:Int)),(11,aU f),(12,aS 1000000000),(13,aU c),(14,.aC (.one (.bg (c==0)))),(15,.aC (.one (.bg (c==0)))),(24,.aC (.one (.bg (c==1)))),(25,.aC (.one (.bg (c==1)))),(36,.aC (.one (.bg (c==2)))),(37,.aC (.one (.bg (c==2)))),(38,.aC (.one (.ptr 3 5))),(39,aG.aC (bl.one (aw 70005 5 (A.set a.toNat [d14,I (b-1),d15,d16,d17])))),(40,aS 1000000000),(41,aU a),(42,aS 1000000000),(43,aU b),(44,aU (b-1)),(45,.aC (.one (.cL (Tag.own 70005) 5 (A.set a.toNat [d14,I (b-1),d15,d16,d17]) a.toNat 0))),(46,.aC (.one (.cL (Tag.own 70005) 5 (A.set a.toNat [d14,I (b-1),d15,d16,d17]) a.toNat 1)))] [(3,[aw 70000 4 E,au d,au e,aw 70003 8 C,aw 70004 6 F,aw 70005 5 (A.set a.toNat [d14,I (b-1),d15,d16,d17]),aw 70006 3 G]),(2,[.v (aP),au 0,au 0,.v (aP),.v (aP),.v (aP),.v (aP)]),(1000000000,[.dt 1000000100 1 H,au g,au i])]
theorem ajP{A G:af}{l m:Int}{H E C F:af}{j g i k c d a e f b:Int}{d29 d30 d31 d32 d33:D}
  (h:cK [b3 prog 36 [aM.cur [D.J 1 A,I g,I i] [D.J 1 A,I c,I d],aM.ro (ag 4)] (aV.vals [ag a]),b3 prog 36 [aM.cur [D.J 1 A,I c,I d] [D.J 1 A,I e,I f],aM.ro (ag 6)] (aV.vals [ag b]),aK .i64 (b-1),0<=a,a<(C.length:Int),C[a.toNat]?=some [d29,d30,d31,d32,d33]]):
  ek prog (cU f33 9) (S9 A G l m H E C F j g i k) (L3 A G l m H E C F j k a e f b d29 d31 d32 d33):=
 .of [[],[],[],[.dB [some [D.J 1 A,I c,I d],none] (aV.vals [ag a])],[],[.dB [some [D.J 1 A,I e,I f],none] (aV.vals [ag b])],[],[],[],[.el [d29,d30,d31,d32,d33]]] [[],[],[],[b3 prog 36 [aM.cur [D.J 1 A,I g,I i] [D.J 1 A,I c,I d],aM.ro (ag 4)] (aV.vals [ag a])],[],[b3 prog 36 [aM.cur [D.J 1 A,I c,I d] [D.J 1 A,I e,I f],aM.ro (ag 6)] (aV.vals [ag b])],[aK .i64 (b-1)],[0<=a,a<(C.length:Int)],[],[C[a.toNat]?=some [d29,d30,d31,d32,d33]]] (by kernel_rfl) (by kernel_rfl) (by kernel_rfl) h
def yz(A:af)(a b:Int)(C:af)(c d:Int)(E F G H:af)(e f g i j k m n:Int)(l:List O):List O:=MC A a b C c d E F G H e f g i j k m n (.b (k==0) false::.b (k==1) false::l)
theorem ajQ{A:af}{p a0 n o:Int}{H:af}{b c:Int}{C E F G:af}{e f d g i a j k l m:Int}{d29 d31 d32 d33:D}(h:ae (yz A n o H b c C E F G e f d g i a p a0 [.b (a==2) true,.a (.h' (L3 A H b c C E F G d a j k l m d29 d31 d32 d33)),.p (ek prog (cU f33 9) (S9 A H b c C E F G d g i a) (L3 A H b c C E F G d a j k l m d29 d31 d32 d33))])):
 b9 33 [aM.cur [D.J 1 A,I p,I a0] [D.J 1 A,I k,I l]] (aV.vals [.agg (a8 H b c C E (F.set j.toNat [d29,I (m-1),d31,d32,d33]) G)]):=
 h.b'
def S'(H C:af)(b c:Int)(A E F G:af)(d f e a:Int):aF:=bf 82 [(0,aS 1000000000),(2,aS 2),(3,aS 3),(4,aU d),(5,aS 1000000000),(6,aG.aC (bl.agg [aw 70000 4 C,au b,au c,aw 70003 8 A,aw 70004 6 E,aw 70005 5 F,aw 70006 3 G])),(7,aS 1000000000),(8,.aC (.one (.ptr 3 3))),(9,aG.aC (bl.one (aw 70003 8 A))),(10,aU (A.length:Int)),(11,aU d),(12,aS 1000000000),(13,aU a),(14,.aC (.one (.bg (a==0)))),(15,.aC (.one (.bg (a==0)))),(24,.aC (.one (.bg (a==1)))),(25,.aC (.one (.bg (a==1)))),(36,.aC (.one (.bg (a==2)))),(37,.aC (.one (.bg (a==2)))),(47,.aC (.one (.bg (a==3)))),(48,.aC (.one (.bg (a==3))))] [(3,[aw 70000 4 C,au b,au c,aw 70003 8 A,aw 70004 6 E,aw 70005 5 F,aw 70006 3 G]),(2,[.v (aP),au 0,au 0,.v (aP),.v (aP),.v (aP),.v (aP)]),(1000000000,[.dt 1000000100 1 H,au f,au e])]
def L4(H E:af)(c d:Int)(C F A G:af)(e a f g b:Int)(d13 d14 d15 d16:D):aF:=bf 82 [(0,aS 1000000000),(2,aS 2),(3,aS 3),(4,aU e),(5,aS 1000000000),(6,aG.aC (bl.agg [aw 70000 4 E,au c,au d,aw 70003 8 C,aw 70004 6 F,aw 70005 5 (A.set 0 [d13,d14,I b,d15,d16]),aw 70006 3 G])),(7,aS 1000000000),(8,.aC (.one (.ptr 3 3))),(9,aG.aC (bl.one (aw 70003 8 C))),(10,aU (C.length:Int)),(11,aU e),(12,aS 1000000000),(13,aU a),(14,.aC (.one (.bg (a==0)))),(15,.aC (.one (.bg (a==0)))),(24,.aC (.one (.bg (a==1)))),(25,.aC (.one (.bg (a==1)))),(36,.aC (.one (.bg (a==2)))),(37,.aC (.one (.bg (a==2)))),(47,.aC (.one (.bg (a==3)))),(48,.aC (.one (.bg (a==3)))),(49,.aC (.one (.ptr 3 5))),(50,aG.aC (bl.one (aw 70005 5 (A.set 0 [d13,d14,I b,d15,d16])))),(51,aS 1000000000),(52,.aC (.one (.J (.own 52) 1 [[I 1000000],[I 1000001],[I (-1000001)],[I 3]]))),(53,aU b),(54,.aC (.one (.cL (Tag.own 70005) 5 (A.set 0 [d13,d14,I b,d15,d16]) 0 0))),(55,.aC (.one (.cL (Tag.own 70005) 5 (A.set 0 [d13,d14,I b,d15,d16]) 0 2)))] [(3,[aw 70000 4 E,au c,au d,aw 70003 8 C,aw 70004 6 F,aw 70005 5 (A.set 0 [d13,d14,I b,d15,d16]),aw 70006 3 G]),(2,[.v (aP),au 0,au 0,.v (aP),.v (aP),.v (aP),.v (aP)]),(1000000000,[.dt 1000000100 1 H,au f,au g])]
theorem ajR{A G:af}{i j:Int}{H E C F:af}{f d e g a b c:Int}{d25 d26 d27 d28 d29:D}
  (h:cK [b3 prog 37 [aM.cur [D.J 1 A,I d,I e] [D.J 1 A,I a,I b],aM.ro (.one (.J 1 [[I 1000000],[I 1000001],[I (-1000001)],[I 3]]))] (aV.vals [ag c]),(0:Int)<=0,0<(C.length:Int),C[0]?=some [d25,d26,d27,d28,d29]]):
  ek prog (cU f33 11) (S' A G i j H E C F f d e g) (L4 A G i j H E C F f g a b c d25 d26 d28 d29):=
 .of [[],[],[],[],[.dB [some [D.J 1 A,I a,I b],none] (aV.vals [ag c])],[],[],[.el [d25,d26,d27,d28,d29]]] [[],[],[],[],[b3 prog 37 [aM.cur [D.J 1 A,I d,I e] [D.J 1 A,I a,I b],aM.ro (.one (.J 1 [[I 1000000],[I 1000001],[I (-1000001)],[I 3]]))] (aV.vals [ag c])],[(0:Int)<=0,0<(C.length:Int)],[],[C[0]?=some [d25,d26,d27,d28,d29]]] (by kernel_rfl) (by kernel_rfl) (by kernel_rfl) h
theorem ajS{A:af}{o p m n:Int}{H:af}{b c:Int}{C E F G:af}{e f d g i a j k l:Int}{d25 d26 d28 d29:D}(h:ae (yz A m n H b c C E F G e f d g i a o p [.b (a==2) false,.b (a==3) true,.a (.h' (L4 A H b c C E F G d a j k l d25 d26 d28 d29)),.p (ek prog (cU f33 11) (S' A H b c C E F G d g i a) (L4 A H b c C E F G d a j k l d25 d26 d28 d29))])):
 b9 33 [aM.cur [D.J 1 A,I o,I p] [D.J 1 A,I j,I k]] (aV.vals [.agg (a8 H b c C E (F.set 0 [d25,d26,I l,d28,d29]) G)]):=
 h.b'
def Uz(H C:af)(b c:Int)(A E F G:af)(d f e a:Int):aF:=bf 82 [(0,aS 1000000000),(2,aS 2),(3,aS 3),(4,aU d),(5,aS 1000000000),(6,aG.aC (bl.agg [aw 70000 4 C,au b,au c,aw 70003 8 A,aw 70004 6 E,aw 70005 5 F,aw 70006 3 G])),(7,aS 1000000000),(8,.aC (.one (.ptr 3 3))),(9,aG.aC (bl.one (aw 70003 8 A))),(10,aU (A.length:Int)),(11,aU d),(12,aS 1000000000),(13,aU a),(14,.aC (.one (.bg (a==0)))),(15,.aC (.one (.bg (a==0)))),(24,.aC (.one (.bg (a==1)))),(25,.aC (.one (.bg (a==1)))),(36,.aC (.one (.bg (a==2)))),(37,.aC (.one (.bg (a==2)))),(47,.aC (.one (.bg (a==3)))),(48,.aC (.one (.bg (a==3)))),(56,.aC (.one (.bg (a==4)))),(57,.aC (.one (.bg (a==4))))] [(3,[aw 70000 4 C,au b,au c,aw 70003 8 A,aw 70004 6 E,aw 70005 5 F,aw 70006 3 G]),(2,[.v (aP),au 0,au 0,.v (aP),.v (aP),.v (aP),.v (aP)]),(1000000000,[.dt 1000000100 1 H,au f,au e])]
def L5(H E:af)(d e:Int)(A F G C:af)(f a b g i c:Int):aF:=bf 82 [(0,aS 1000000000),(2,aS 2),(3,aS 3),(4,aU f),(5,aS 1000000000),(6,aG.aC (bl.agg [aw 70000 4 E,au d,au e,aw 70003 8 A,aw 70004 6 F,aw 70005 5 G,.J (Tag.ro 70006) 3 C])),(7,aS 1000000000),(8,.aC (.one (.ptr 3 3))),(9,aG.aC (bl.one (aw 70003 8 A))),(10,aU (A.length:Int)),(11,aU f),(12,aS 1000000000),(13,aU a),(14,.aC (.one (.bg (a==0)))),(15,.aC (.one (.bg (a==0)))),(24,.aC (.one (.bg (a==1)))),(25,.aC (.one (.bg (a==1)))),(36,.aC (.one (.bg (a==2)))),(37,.aC (.one (.bg (a==2)))),(47,.aC (.one (.bg (a==3)))),(48,.aC (.one (.bg (a==3)))),(56,.aC (.one (.bg (a==4)))),(57,.aC (.one (.bg (a==4)))),(58,.aC (.one (.ptr 3 6))),(59,.aC (.one (.J (Tag.ro 70006) 3 C))),(60,aS 1000000000),(61,aU b),(62,aU (b-1)),(63,aS 1000000000),(64,aU c),(65,aU (c-1)),(66,aG.aC (bl.agg [au (b-1),au (c-1),.v (Value.bool false)])),(67,.aC (.one (.J (.own 67) 3 [[I (b-1),I (c-1),B false]]))),(68,aG.aC (bl.one (aw 70006 3 (C++[[I (b-1),I (c-1),B false]])))),(69,.aC (.one (.ptr 3 6)))] [(3,[aw 70000 4 E,au d,au e,aw 70003 8 A,aw 70004 6 F,aw 70005 5 G,aw 70006 3 (C++[[I (b-1),I (c-1),B false]])]),(2,[.v (aP),au 0,au 0,.v (aP),.v (aP),.v (aP),.v (aP)]),(1000000000,[.dt 1000000100 1 H,au g,au i])]
theorem ajT{A G:af}{l m:Int}{H E F C:af}{j g i k c d a e f b:Int}
  (h:cK [b3 prog 36 [aM.cur [D.J 1 A,I g,I i] [D.J 1 A,I c,I d],aM.ro (ag 6)] (aV.vals [ag a]),aK .i64 (a-1),b3 prog 36 [aM.cur [D.J 1 A,I c,I d] [D.J 1 A,I e,I f],aM.ro (ag 6)] (aV.vals [ag b]),aK .i64 (b-1),(C.length+[[I (a-1),I (b-1),B false]].length)*24<=140737488355328,C.length+[[I (a-1),I (b-1),B false]].length<=9223372036854775807,Flat [[I (a-1),I (b-1),B false]]]):
  ek prog (cU f33 13) (Uz A G l m H E F C j g i k) (L5 A G l m H E F C j k a e f b):=
 .of [[],[],[],[.dB [some [D.J 1 A,I c,I d],none] (aV.vals [ag a])],[],[],[.dB [some [D.J 1 A,I e,I f],none] (aV.vals [ag b])],[],[],[],[],[],[]] [[],[],[],[b3 prog 36 [aM.cur [D.J 1 A,I g,I i] [D.J 1 A,I c,I d],aM.ro (ag 6)] (aV.vals [ag a])],[aK .i64 (a-1)],[],[b3 prog 36 [aM.cur [D.J 1 A,I c,I d] [D.J 1 A,I e,I f],aM.ro (ag 6)] (aV.vals [ag b])],[aK .i64 (b-1)],[],[],[(C.length+[[I (a-1),I (b-1),B false]].length)*24<=140737488355328,C.length+[[I (a-1),I (b-1),B false]].length<=9223372036854775807,Flat [[I (a-1),I (b-1),B false]]],[],[]] (by kernel_rfl) (by kernel_rfl) (by kernel_rfl) h
theorem ajU(h:ae (yz A n o H b c C E F G e f d g i a p a0 [.b (a==2) false,.b (a==3) false,.b (a==4) true,.a (.h' (L5 A H b c C E F G d a j k l m)),.p (ek prog (cU f33 13) (Uz A H b c C E F G d g i a) (L5 A H b c C E F G d a j k l m))])):
 b9 33 [aM.cur [D.J 1 A,I p,I a0] [D.J 1 A,I k,I l]] (aV.vals [.agg (a8 H b c C E F (G++[[I (j-1),I (m-1),B false]]))]):=
 h.b'
theorem ajV(h:ae (yz A k l ah p a0 C E F G b c n d e a m o [.b (a==2) false,.b (a==3) false,.b (a==4) false,.b (a==5) true,.a (.dB [some [D.J 1 A,I f,I g]] (aV.vals [.agg (bq H i j)])),.p (b3 prog 72 [aM.cur [D.J 1 A,I d,I e] [D.J 1 A,I f,I g]] (aV.vals [.agg (bq H i j)]))])):
 b9 33 [aM.cur [D.J 1 A,I m,I o] [D.J 1 A,I f,I g]] (aV.vals [.agg (a8 H i j C E F G)]):=
 h.b'
theorem ajW(h:ae (yz A f g H i j E F C G b c l d e a k m [.b (a==2) false,.b (a==3) false,.b (a==4) false,.b (a==5) false,.b (a==6) true,.a .own,.p ((0:Int)<=none.getD 0),.p (none.getD 0<=(some (3:Int)).getD (C.length:Int)),.p ((some (3:Int)).getD (C.length:Int)<=(C.length:Int))])):
 b9 33 [aM.cur [D.J 1 A,I k,I m] [D.J 1 A,I d,I e]] (aV.vals [.agg (a8 H i j E F (List.take (3-0) (List.drop 0 C)) G)]):=
 h.b'
theorem ajX(h:ae (yz A f g H i j C E F G b c l d e a k m [.b (a==2) false,.b (a==3) false,.b (a==4) false,.b (a==5) false,.b (a==6) false])):
 b9 33 [aM.cur [D.J 1 A,I k,I m] [D.J 1 A,I d,I e]] (aV.vals [.agg (a8 H i j C E F G)]):=
 h.b'
def FL(A:af)(a b c d e f g i j k:Int)(l:List O):List O:=.a (.dB [some [D.J 1 A,I a,I b]] (aV.vals [.agg [I c,I d,I e]]))::.w A f g i::.p (b3 prog 95 [aM.cur [D.J 1 A,I j,I k] [D.J 1 A,I a,I b]] (aV.vals [.agg [I c,I d,I e]]))::.k A 36 a b f g 10 i::l
theorem ajY(h:ae (FL A g i n j k b c d l m [.b (d==0) true,.w A e f a,.k A 36 b c e f 10 a,.v (a-1)])):
 b9 56 [aM.cur [D.J 1 A,I l,I m] [D.J 1 A,I e,I f]] (aV.vals [.agg [I (a-1),I j,I k]]):=
 h.b'
theorem ajZ(h:ae (FL A g i j n k b c a l m [.b (a==0) false,.b (a==1) true,.w A d e f,.p (b3 prog 37 [aM.cur [D.J 1 A,I b,I c] [D.J 1 A,I d,I e],aM.ro (.one (.J 1 [[I (-1)],[I 3],[I 4],[I 9223372036854775807]]))] (aV.vals [ag f]))])):
 b9 56 [aM.cur [D.J 1 A,I l,I m] [D.J 1 A,I d,I e]] (aV.vals [.agg [I j,I f,I k]]):=
 h.b'
theorem aj0(h:ae (FL A g i j k n b c a l m [.b (a==0) false,.b (a==1) false,.b (a==2) true,.w A d e f,.p (b3 prog 37 [aM.cur [D.J 1 A,I b,I c] [D.J 1 A,I d,I e],aM.ro (.one (.J 1 [[I (-1)],[I 0],[I 3],[I (-9223372036854775808)]]))] (aV.vals [ag f]))])):
 b9 56 [aM.cur [D.J 1 A,I l,I m] [D.J 1 A,I d,I e]] (aV.vals [.agg [I j,I k,I f]]):=
 h.b'
theorem aj1(h:ae (FL A d e f g i b c a j k [.b (a==0) false,.b (a==1) false,.b (a==2) false])):
 b9 56 [aM.cur [D.J 1 A,I j,I k] [D.J 1 A,I b,I c]] (aV.vals [.agg [I f,I g,I i]]):=
 h.b'
def V4(A:af)(a b c d:Int)(C:af)(e f:Int)(E F G H:af)(l:List O):List O:=.a (.dB [none] (aV.iO [some 0,none,none] [D.J 1 A,I a,I b]))::.a (.dB [some [D.J 1 A,I c,I d]] (aV.vals [.agg (a8 C e f E F G H)]))::l
theorem aj2(h:ae (V4 A d e f g H i j C E F G [.a (.dB [some [D.J 1 A,I k,I l]] (aV.vals [.agg [I a,I b,I c]])),.p (b3 prog 32 [aM.ro (aO 1 A)] (aV.iO [some 0,none,none] [D.J 1 A,I d,I e])),.p (b3 prog 33 [aM.cur [D.J 1 A,I d,I e] [D.J 1 A,I f,I g]] (aV.vals [.agg (a8 H i j C E F G)])),.p (b3 prog 56 [aM.cur [D.J 1 A,I f,I g] [D.J 1 A,I k,I l]] (aV.vals [.agg [I a,I b,I c]]))])):
 al 22 [aO 1 A] [.agg (a8 H i j C E F G),.agg [I a,I b,I c]]:=
 h.of
theorem aj3(h:ae (V4 A a b c d ah e f C E F G [.a (.dB [some [D.J 1 A,I g,I i],none] (aV.vals [aO 3 H])),.p (b3 prog 32 [aM.ro (aO 1 A)] (aV.iO [some 0,none,none] [D.J 1 A,I a,I b])),.p (b3 prog 33 [aM.cur [D.J 1 A,I a,I b] [D.J 1 A,I c,I d]] (aV.vals [.agg (a8 ah e f C E F G)])),.p (b3 prog 66 [aM.cur [D.J 1 A,I c,I d] [D.J 1 A,I g,I i],aM.ro (ag 12)] (aV.vals [aO 3 H]))])):
 al 27 [aO 1 A] [.agg (a8 ah e f C E F G),aO 3 H]:=
 h.of
