import Derived.Test.YtdchjefneblpgaaGreatGE
set_option linter.unusedVariables false
set_option linter.unusedSimpArgs false
namespace Go.Proofs.YtdchjefneblpgaaGreat
open Go.Sx Go.RowKit Go.Proofs.Tryz
variable {a b c d e f g i j k l m n o p a0 ch de d0 : Int} {A C E F G H au K L M N Q R : ah} {q r s t u v w : Bool}
def wc(A:ah)(a c d e:Int)(C:ah)(f g i j b:Int):aD:=ba 55 [(0,a1 1000000000),(2,a1 2),(3,a1 3),(4,aY a)] [(3,[az c,az d,az e,aK 52 1 C]),(2,[az f,az g,az i,.v (aS)]),(1000000000,[.e5 1000000100 1 A,az j,az b])]
def Ys(A:ah)(a d e f:Int)(C:ah)(g i j k c b:Int):aD:=ba 55 [(0,a1 1000000000),(2,a1 2),(3,a1 3),(4,aY a),(37,aY a),(38,a1 1000000000),(39,aY b),(40,.aR (.one (.bR (decide (a<b)))))] [(3,[az d,az e,az f,aK 52 1 C]),(2,[az g,az i,az j,.v (aS)]),(1000000000,[.e5 1000000100 1 A,az k,az c])]
def OS(C:ah)(a f g i:Int)(A:ah)(j k l c d e b:Int):aD:=ba 55 [(0,a1 1000000000),(2,a1 2),(3,a1 3),(4,aY a),(37,aY a),(38,a1 1000000000),(39,aY c),(40,.aR (.one (.bR (decide (a<c))))),(43,.aR (.one (.ptr 3 3))),(44,.aR (.one (.J (Tag.ro 52) 1 A))),(45,aY a),(46,aY (a*2)),(47,aY (1+a*2)),(48,a1 1000000000),(49,aY b),(50,aY (1+a*2+b)),(51,.aR (.one (.J (.own 51) 1 [[I (1+a*2+b)]]))),(52,aH.aR (bm.one (aK 52 1 (A++[[I (1+a*2+b)]])))),(53,.aR (.one (.ptr 3 3)))] [(3,[az f,az g,az i,aK 52 1 (A++[[I (1+a*2+b)]])]),(2,[az j,az k,az l,.v (aS)]),(1000000000,[.e5 1000000100 1 C,az d,az e])]
theorem arX{A:ah}{a g i j:Int}{C:ah}{k l m e f n c d b:Int}
  (h:c8 [aJ .i64 (a*2),aJ .i64 (1+a*2),cH prog 138 [a7.cur [D.J 1 A,I e,I f] [D.J 1 A,I c,I d],a7.ro (ag 2)] (bi.vals [ag b]),aJ .i64 (1+a*2+b),(C.length+[[I (1+a*2+b)]].length)*8<=140737488355328,C.length+[[I (1+a*2+b)]].length<=9223372036854775807,Flat [[I (1+a*2+b)]]]):
  h7 prog (fv f319 14) (Ys A a g i j C k l m e f n) (OS A a g i j C k l m n c d b):=
 .of [[],[],[],[],[],[],[.e3 [some [D.J 1 A,I c,I d],none] (bi.vals [ag b])],[],[],[],[],[]] [[],[],[],[aJ .i64 (a*2)],[aJ .i64 (1+a*2)],[],[cH prog 138 [a7.cur [D.J 1 A,I e,I f] [D.J 1 A,I c,I d],a7.ro (ag 2)] (bi.vals [ag b])],[aJ .i64 (1+a*2+b)],[],[(C.length+[[I (1+a*2+b)]].length)*8<=140737488355328,C.length+[[I (1+a*2+b)]].length<=9223372036854775807,Flat [[I (1+a*2+b)]]],[],[]] (by kernel_rfl) (by kernel_rfl) (by kernel_rfl) h
theorem arY(h:af [.w A j k b,.k A 138 o p j k 3 b,.b (decide (a<b)) true,.a (.pZ (OS A a c d e C f g i b l m n)),.p (h7 prog (fv f319 14) (Ys A a c d e C f g i j k b) (OS A a c d e C f g i b l m n)),.u a]):
 aT (ap f319 0) (wc A a c d e C f g i o p) .normal (wc A (a+1) c d e (C++[[I (1+a*2+n)]]) f g i l m):=
 h.aQ [4,0,3,2] [3,2,1000000000]
def z1(A:ah)(a b c:Int)(C:ah)(d e f g i:Int):aD:=ba 55 [(0,a1 1000000000),(2,a1 2),(3,a1 3)] [(3,[az a,az b,az c,aK 52 1 C]),(2,[az d,az e,az f,.v (aS)]),(1000000000,[.e5 1000000100 1 A,az g,az i])]
theorem arZ(h:af [.w A a b c,.k A 138 l m a b 3 c,.b (decide (d<c)) false]):
 aT (ap f319 0) (wc A d e f g C i j k l m) (.exit 1) (z1 A e f g C i j k a b):=
 h.aQ [3,2,0] [3,2,1000000000]
def El(A:ah)(a b c d e:Int)(l:List O):List O:=.w A a b c::.k A 138 d e a b 8 c::.v (1+c)::l
theorem ar0(h:af (El A c d a g n [.b (1+a==2) true,.w A e f b,.p (cH prog 140 [a7.cur [D.J 1 A,I c,I d] [D.J 1 A,I e,I f],a7.ro (.one (.J 1 [[I 0],[I 1],[I 3],[I 10],[I 999]]))] (bi.vals [ag b])),.b (1+a != 8) true,.l [(4000003,52,1)] [4,0,3,2] [3,2,1000000000] (ap f319 0) (wc A 0 (1+a) b 0 [] 0 0 0 e f) (.exit 1) (z1 A i j k C o p a0 l m)])):
 cW 319 [a7.cur [D.J 1 A,I g,I n] [D.J 1 A,I l,I m]] (bi.vals [.agg (bj i j k C)]):=
 h.cX
theorem ar1(h:af (El A f g a k o [.b (1+a==2) false,.b (1+a==3) true,.w A i j b,.w A c d e,.k A 138 f g i j 4 b,.v (1+b),.k A 138 i j c d (1+b) e,.b (1+a != 8) true,.l [(4000003,52,1)] [4,0,3,2] [3,2,1000000000] (ap f319 0) (wc A 0 (1+a) (1+b) e [] 0 0 0 c d) (.exit 1) (z1 A l m n C ch de d0 p a0)])):
 cW 319 [a7.cur [D.J 1 A,I k,I o] [D.J 1 A,I p,I a0]] (bi.vals [.agg (bj l m n C)]):=
 h.cX
theorem ar2(h:af (El A c d a g n [.b (1+a==2) false,.b (1+a==3) false,.b (1+a==4) true,.w A e f b,.p (cH prog 140 [a7.cur [D.J 1 A,I c,I d] [D.J 1 A,I e,I f],a7.ro (.one (.J 1 [[I 0],[I 1],[I 2],[I 3],[I 50],[I 99]]))] (bi.vals [ag b])),.b (1+a != 8) true,.l [(4000003,52,1)] [4,0,3,2] [3,2,1000000000] (ap f319 0) (wc A 0 (1+a) b 0 [] 0 0 0 e f) (.exit 1) (z1 A i j k C o p a0 l m)])):
 cW 319 [a7.cur [D.J 1 A,I g,I n] [D.J 1 A,I l,I m]] (bi.vals [.agg (bj i j k C)]):=
 h.cX
theorem ar3(h:af (El A b c a d g [.b (1+a==2) false,.b (1+a==3) false,.b (1+a==4) false,.b (1+a != 8) true,.l [(4000003,52,1)] [4,0,3,2] [3,2,1000000000] (ap f319 0) (wc A 0 (1+a) 0 0 [] 0 0 0 b c) (.exit 1) (z1 A i j k C l m n e f)])):
 cW 319 [a7.cur [D.J 1 A,I d,I g] [D.J 1 A,I e,I f]] (bi.vals [.agg (bj i j k C)]):=
 h.cX
theorem ar4(h:af (El A b c a d e [.b (1+a==2) false,.b (1+a==3) false,.b (1+a==4) false,.b (1+a != 8) false])):
 cW 319 [a7.cur [D.J 1 A,I d,I e] [D.J 1 A,I b,I c]] (bi.vals [.agg (bj (1+a) 0 0 [])]):=
 h.cX
def Em(A:ah)(a b c d e:Int)(C:ah)(f g i j k:Int)(l:List O):List O:=.a (.e3 [some [D.J 1 A,I a,I b]] (bi.vals [.agg (bj c d e C)]))::.w A f g i::.p (cH prog 319 [a7.cur [D.J 1 A,I j,I k] [D.J 1 A,I a,I b]] (bi.vals [.agg (bj c d e C)]))::.k A 138 a b f g 12 i::l
theorem ar5(h:af (Em A g i n j k C b c d l m [.b (d==0) true,.w A e f a,.k A 138 b c e f 11 a,.v (a-1)])):
 cW 252 [a7.cur [D.J 1 A,I l,I m] [D.J 1 A,I e,I f]] (bi.vals [.agg (bj (a-1) j k C)]):=
 h.cX
theorem ar6(h:af (Em A g i j n k C b c a l m [.b (a==0) false,.b (a==1) true,.w A d e f,.p (cH prog 140 [a7.cur [D.J 1 A,I b,I c] [D.J 1 A,I d,I e],a7.ro (.one (.J 1 [[I (-1)],[I 0],[I 1000],[I 100],[I 11]]))] (bi.vals [ag f]))])):
 cW 252 [a7.cur [D.J 1 A,I l,I m] [D.J 1 A,I d,I e]] (bi.vals [.agg (bj j f k C)]):=
 h.cX
theorem ar7(h:af (Em A g i j k n C b c a l m [.b (a==0) false,.b (a==1) false,.b (a==2) true,.w A d e f,.p (cH prog 140 [a7.cur [D.J 1 A,I b,I c] [D.J 1 A,I d,I e],a7.ro (.one (.J 1 [[I (-1)],[I 1],[I 3]]))] (bi.vals [ag f]))])):
 cW 252 [a7.cur [D.J 1 A,I l,I m] [D.J 1 A,I d,I e]] (bi.vals [.agg (bj j k f C)]):=
 h.cX
def OT(C:ah)(b c d:Int)(A:ah)(e f a:Int):aD:=ba 37 [(0,a1 1000000000),(2,a1 2),(3,a1 3),(4,a1 1000000000),(5,aH.aR (bm.agg [az b,az c,az d,aK 60003 1 A])),(6,a1 1000000000),(7,aY a),(8,.aR (.one (.bR (a==0)))),(9,.aR (.one (.bR (a==0)))),(14,.aR (.one (.bR (a==1)))),(15,.aR (.one (.bR (a==1)))),(20,.aR (.one (.bR (a==2)))),(21,.aR (.one (.bR (a==2)))),(26,.aR (.one (.bR (a==3)))),(27,.aR (.one (.bR (a==3))))] [(3,[az b,az c,az d,aK 60003 1 A]),(2,[az 0,az 0,az 0,.v (aS)]),(1000000000,[.e5 1000000100 1 C,az e,az f])]
def OU(P:Program)(W:Array Oper)(A:ah)(g i j:Int)(C:ah)(a b c d e f:Int):aD:=
 yQ P W [[],[],[],[],[.e3 [some [D.J 1 A,I d,I e],none] (bi.vals [ag f])],[],[],[],[]] (OT A g i j C a b c)
theorem ar8{A:ah}{g i j:Int}{C:ah}{b c d e f a:Int}
  (h:c8 [cH prog 140 [a7.cur [D.J 1 A,I b,I c] [D.J 1 A,I e,I f],a7.ro (.one (.J 1 [[I 1],[I 7],[I 8],[I (-1)]]))] (bi.vals [ag a]),(C.length+[[I a]].length)*8<=140737488355328,C.length+[[I a]].length<=9223372036854775807,Flat [[I a]]]):
  h7 prog (fv f252 10) (OT A g i j C b c d) (OU prog (fv f252 10) A g i j C b c d e f a):=
 .zQ [0,0,0,0,1,0,3,0,0] h
theorem ar9(h:af (Em A k l b c d C e f a m n [.b (a==0) false,.b (a==1) false,.b (a==2) false,.b (a==3) true,.a (.pZ (OU prog (fv f252 10) A b c d C e f a g i j)),.p (h7 prog (fv f252 10) (OT A b c d C e f a) (OU prog (fv f252 10) A b c d C e f a g i j))])):
 cW 252 [a7.cur [D.J 1 A,I m,I n] [D.J 1 A,I g,I i]] (bi.vals [.agg (bj b c d (C++[[I j]]))]):=
 h.cX
theorem asa(h:af (Em A d e f g i C b c a j k [.b (a==0) false,.b (a==1) false,.b (a==2) false,.b (a==3) false])):
 cW 252 [a7.cur [D.J 1 A,I j,I k] [D.J 1 A,I b,I c]] (bi.vals [.agg (bj f g i C)]):=
 h.cX
def Yt(A E:ah)(c d:Int)(q:Bool)(e f:Int)(C:ah)(a b:Int):aD:=ba 21 [(0,c6 1 A),(2,a1 2),(3,.aR (.one (.v (aS)))),(4,aY 0),(5,a1 8),(6,a1 6),(7,c6 1 A),(8,a1 8),(9,a1 8),(10,aH.aR (bm.agg [aK 110000 4 E,az c,az d])),(11,a1 8),(12,.aR (.one (.bR q))),(13,a1 8),(14,aH.aR (bm.agg [aK 150000 4 C,az a,az b]))] [(6,[aK 150000 4 C,az a,az b]),(8,[.J .free 1 A,az e,az f]),(2,[.v (aS),az 0,az 0])]
def OV(C F:ah)(e f:Int)(q:Bool)(A:ah)(a b:Int)(E:ah)(g d c:Int):aD:=ba 21 [(0,c6 1 C),(2,a1 2),(3,aH.aR (bm.one (aK 180000 5 E))),(4,aY (c-1)),(5,a1 8),(6,a1 6),(7,c6 1 C),(8,a1 8),(9,a1 8),(10,aH.aR (bm.agg [aK 110000 4 F,az e,az f])),(11,a1 8),(12,.aR (.one (.bR q))),(13,a1 8),(14,aH.aR (bm.agg [aK 150000 4 A,az a,az b])),(15,aH.aR (bm.agg [aK 150000 4 A,az a,az b])),(16,a1 8),(17,aH.aR (bm.one (aK 180000 5 E))),(18,a1 8),(19,aY c),(20,aY (c-1))] [(6,[aK 150000 4 A,az a,az b]),(8,[.J .free 1 C,az g,az d]),(2,[aK 150000 4 A,az a,az b])]
theorem asb{A F:ah}{k l:Int}{q:Bool}{f g:Int}{E:ah}{i j b c:Int}{C:ah}{d e a:Int}
  (h:c8 [cH prog 119 [a7.cur [D.J 1 A,I f,I g] [D.J 1 A,I b,I c]] (bi.vals [aE 5 C]),cH prog 138 [a7.cur [D.J 1 A,I b,I c] [D.J 1 A,I d,I e],a7.ro (ag 5)] (bi.vals [ag a]),aJ .i64 (a-1)]):
  h7 prog (fv f22 5) (Yt A F k l q f g E i j) (OV A F k l q E i j C d e a):=
 .of [[],[],[.e3 [some [D.J 1 A,I b,I c]] (bi.vals [aE 5 C])],[],[.e3 [some [D.J 1 A,I d,I e],none] (bi.vals [ag a])],[],[],[],[]] [[],[],[cH prog 119 [a7.cur [D.J 1 A,I f,I g] [D.J 1 A,I b,I c]] (bi.vals [aE 5 C])],[],[cH prog 138 [a7.cur [D.J 1 A,I b,I c] [D.J 1 A,I d,I e],a7.ro (ag 5)] (bi.vals [ag a])],[aJ .i64 (a-1)],[],[],[]] (by kernel_rfl) (by kernel_rfl) (by kernel_rfl) h
def aab(A:ah)(a b c d:Int)(C:ah)(e f:Int)(l:List O):List O:=.a (.e3 [none] (bi.iZ [some 0,none,none] [D.J 1 A,I a,I b]))::.a (.e3 [some [D.J 1 A,I c,I d]] (bi.vals [.agg (bg C e f)]))::l
def aac(A:ah)(a b c d:Int)(C:ah)(e f g i:Int)(q:Bool)(l:List O):List O:=aab A a b c d C e f (.y A g i q::.p (cH prog 117 [a7.ro (aE 1 A)] (bi.iZ [some 0,none,none] [D.J 1 A,I a,I b]))::.p (cH prog 118 [a7.cur [D.J 1 A,I a,I b] [D.J 1 A,I c,I d]] (bi.vals [.agg (bg C e f)]))::.m A 136 c d g i 12 q::l)
theorem asc(h:af (aac A j l m n E c d e f q [.b q true,.a (.e3 [some [D.J 1 A,I g,I i]] (bi.vals [.agg (bg C a b)])),.a (.pZ (OV A E c d q C a b F o p k)),.p (cH prog 137 [a7.cur [D.J 1 A,I e,I f] [D.J 1 A,I g,I i]] (bi.vals [.agg (bg C a b)])),.p (h7 prog (fv f22 5) (Yt A E c d q g i C a b) (OV A E c d q C a b F o p k))])):
 av 22 [aE 1 A] [.agg (bg C a b),aE 5 F,ag (k-1)]:=
 h.of
def Yu(A C:ah)(a b c d:Int)(q:Bool):aD:=ba 21 [(0,c6 1 A),(2,a1 2),(3,.aR (.one (.v (aS)))),(4,aY 0),(5,a1 8),(6,a1 6),(7,c6 1 A),(8,a1 8),(9,a1 8),(10,aH.aR (bm.agg [aK 110000 4 C,az a,az b])),(11,a1 8),(12,.aR (.one (.bR q)))] [(6,[aK 110000 4 C,az a,az b]),(8,[.J .free 1 A,az c,az d]),(2,[.v (aS),az 0,az 0])]
def OW(C A:ah)(a b:Int)(q:Bool)(E:ah)(d e c:Int):aD:=ba 21 [(0,c6 1 C),(2,a1 2),(3,aH.aR (bm.one (aK 180000 5 E))),(4,aY (c-1)),(5,a1 8),(6,a1 6),(7,c6 1 C),(8,a1 8),(9,a1 8),(10,aH.aR (bm.agg [aK 110000 4 A,az a,az b])),(11,a1 8),(12,.aR (.one (.bR q))),(15,aH.aR (bm.agg [aK 110000 4 A,az a,az b])),(16,a1 8),(17,aH.aR (bm.one (aK 180000 5 E))),(18,a1 8),(19,aY c),(20,aY (c-1))] [(6,[aK 110000 4 A,az a,az b]),(8,[.J .free 1 C,az d,az e]),(2,[aK 110000 4 A,az a,az b])]
theorem asd{A E:ah}{i j f g:Int}{q:Bool}{b c:Int}{C:ah}{d e a:Int}
  (h:c8 [cH prog 119 [a7.cur [D.J 1 A,I f,I g] [D.J 1 A,I b,I c]] (bi.vals [aE 5 C]),cH prog 138 [a7.cur [D.J 1 A,I b,I c] [D.J 1 A,I d,I e],a7.ro (ag 5)] (bi.vals [ag a]),aJ .i64 (a-1)]):
  h7 prog (fv f22 5) (Yu A E i j f g q) (OW A E i j q C d e a):=
 .of [[],[],[.e3 [some [D.J 1 A,I b,I c]] (bi.vals [aE 5 C])],[],[.e3 [some [D.J 1 A,I d,I e],none] (bi.vals [ag a])],[],[],[],[]] [[],[],[cH prog 119 [a7.cur [D.J 1 A,I f,I g] [D.J 1 A,I b,I c]] (bi.vals [aE 5 C])],[],[cH prog 138 [a7.cur [D.J 1 A,I b,I c] [D.J 1 A,I d,I e],a7.ro (ag 5)] (bi.vals [ag a])],[aJ .i64 (a-1)],[],[],[]] (by kernel_rfl) (by kernel_rfl) (by kernel_rfl) h
theorem ase(h:af (aac A e g i j C a b c d q [.b q false,.a (.pZ (OW A C a b q E k l f)),.p (h7 prog (fv f22 5) (Yu A C a b c d q) (OW A C a b q E k l f))])):
 av 22 [aE 1 A] [.agg (bg C a b),aE 5 E,ag (f-1)]:=
 h.of
def OX(H au:ah)(c d e f:Int)(K G:ah)(a b:Int)(A C E F:ah)(q:Bool):aD:=ba 34 [(0,c6 1 H),(2,a1 2),(3,.aR (.one (.v (aS)))),(4,aY 0),(5,a1 11),(6,a1 6),(7,aH.aR (bm.one (aK 160000 5 K))),(8,a1 8),(9,.aR (.one (.bR q))),(10,c6 1 H),(11,a1 11),(12,a1 11),(13,aH.aR (bm.agg [aK 140000 4 au,az c,az d])),(14,a1 11),(15,aH.aR (bm.one (aK 160000 5 K))),(16,aH.gB [bm.agg [aK 200000 4 G,az a,az b,aK 200003 8 A,aK 200004 6 C,aK 200005 5 E,aK 200006 3 F],bm.one (aG.bR q)]),(17,aH.aR (bm.agg [aK 140000 4 au,az c,az d])),(18,aH.aR (bm.one (aK 160000 5 K))),(19,aH.gB [bm.agg [aK 200000 4 G,az a,az b,aK 200003 8 A,aK 200004 6 C,aK 200005 5 E,aK 200006 3 F],bm.one (aG.bR q)]),(20,aH.aR (bm.agg [aK 200000 4 G,az a,az b,aK 200003 8 A,aK 200004 6 C,aK 200005 5 E,aK 200006 3 F])),(21,.aR (.one (.bR q)))] [(8,[aK 200000 4 G,az a,az b,aK 200003 8 A,aK 200004 6 C,aK 200005 5 E,aK 200006 3 F]),(6,[aK 140000 4 au,az c,az d]),(11,[.J .free 1 H,az e,az f]),(2,[.v (aS),az 0,az 0,.v (aS),.v (aS),.v (aS),.v (aS)])]
def OY(P:Program)(W:Array Oper)(A R:ah)(l m a b:Int)(C E:ah)(c d:Int)(F G H au:ah)(q:Bool)(e f g:Int)(K:ah)(i j:Int)(L M N Q:ah)(k:Int):aD:=
 yQ P W [[],[],[],[.e3 [some [D.J 1 A,I e,I f],none] (bi.vals [ag g])],[.res [.agg (cl K i j L M N Q),ag k]],[],[],[],[]] (OX A R l m a b C E c d F G H au q)
theorem asf{A R:ah}{l m a b:Int}{au C:ah}{c d:Int}{E F G H:ah}{q:Bool}{f g e:Int}{K:ah}{i j:Int}{L M N Q:ah}{k:Int}
  (h:c8 [cH prog 140 [a7.cur [D.J 1 A,I a,I b] [D.J 1 A,I f,I g],a7.ro (.one (.J 1 [[I 300],[I 300],[I 5]]))] (bi.vals [ag e]),av 16 [.agg (cl C c d E F G H),ag e] [.agg (cl K i j L M N Q),ag k]]):
  h7 prog (fv f25 5) (OX A R l m a b au C c d E F G H q) (OY prog (fv f25 5) A R l m a b au C c d E F G H q f g e K i j L M N Q k):=
 .zQ [0,0,0,1,1,0,0,0,0] h
def OZ(N Q:ah)(e g:Int)(R K:ah)(c d:Int)(L M A C:ah)(q:Bool)(i j k:Int)(E:ah)(a b:Int)(F G H au:ah)(f:Int):aD:=ba 34 [(0,c6 1 N),(2,a1 2),(3,.aR (.one (.v (aS)))),(4,aY 0),(5,a1 11),(6,a1 6),(7,aH.aR (bm.one (aK 160000 5 R))),(8,a1 8),(9,.aR (.one (.bR q))),(10,c6 1 N),(11,a1 11),(12,a1 11),(13,aH.aR (bm.agg [aK 140000 4 Q,az e,az g])),(14,a1 11),(15,aH.aR (bm.one (aK 160000 5 R))),(16,aH.gB [bm.agg [aK 200000 4 K,az c,az d,aK 200003 8 L,aK 200004 6 M,aK 200005 5 A,aK 200006 3 C],bm.one (aG.bR q)]),(17,aH.aR (bm.agg [aK 140000 4 Q,az e,az g])),(18,aH.aR (bm.one (aK 160000 5 R))),(19,aH.gB [bm.agg [aK 200000 4 K,az c,az d,aK 200003 8 L,aK 200004 6 M,aK 200005 5 A,aK 200006 3 C],bm.one (aG.bR q)]),(20,aH.aR (bm.agg [aK 200000 4 K,az c,az d,aK 200003 8 L,aK 200004 6 M,aK 200005 5 A,aK 200006 3 C])),(21,.aR (.one (.bR q))),(22,aH.gB [bm.agg [aK 280000 4 E,az a,az b,aK 280003 8 F,aK 280004 6 G,aK 280005 5 H,aK 280006 3 au],bm.one (az f)]),(23,aH.aR (bm.agg [aK 200000 4 K,az c,az d,aK 200003 8 L,aK 200004 6 M,aK 200005 5 A,aK 200006 3 C])),(24,a1 11),(25,.aR (.one (.J (.own 25) 1 [[I 300],[I 300],[I 5]]))),(26,aY k),(27,aH.gB [bm.agg [aK 280000 4 E,az a,az b,aK 280003 8 F,aK 280004 6 G,aK 280005 5 H,aK 280006 3 au],bm.one (az f)]),(28,aH.aR (bm.agg [aK 280000 4 E,az a,az b,aK 280003 8 F,aK 280004 6 G,aK 280005 5 H,aK 280006 3 au])),(29,aY f)] [(8,[aK 280000 4 E,az a,az b,aK 280003 8 F,aK 280004 6 G,aK 280005 5 H,aK 280006 3 au]),(6,[aK 140000 4 Q,az e,az g]),(11,[.J .free 1 N,az i,az j]),(2,[.v (aS),az 0,az 0,.v (aS),.v (aS),.v (aS),.v (aS)])]
def O0(P:Program)(W:Array Oper)(A R:ah)(m n:Int)(C E:ah)(a b:Int)(F G H au:ah)(q:Bool)(c d e:Int)(K:ah)(f g:Int)(L M N Q:ah)(i j k l:Int):aD:=
 yQ P W [[],[],[],[.e3 [some [D.J 1 A,I j,I k],none] (bi.vals [ag l])],[],[],[]] (OZ A R m n C E a b F G H au q c d e K f g L M N Q i)
theorem arp{A R:ah}{m n:Int}{C E:ah}{c d:Int}{F G H au:ah}{q:Bool}{a b e:Int}{K:ah}{f g:Int}{L M N Q:ah}{i j k l:Int}
  (h:c8 [cH prog 138 [a7.cur [D.J 1 A,I a,I b] [D.J 1 A,I j,I k],a7.ro (ag 4)] (bi.vals [ag l])]):
  h7 prog (fv f25 6) (OZ A R m n C E c d F G H au q a b e K f g L M N Q i) (O0 prog (fv f25 6) A R m n C E c d F G H au q a b e K f g L M N Q i j k l):=
 .zQ [0,0,0,1,0,0,0] h
theorem arq(h:af (aab A n o a0 ch E a b [.a (.e3 [some [D.J 1 A,I g,I i]] (bi.vals [aE 5 C])),.p (cH prog 117 [a7.ro (aE 1 A)] (bi.iZ [some 0,none,none] [D.J 1 A,I n,I o])),.p (cH prog 118 [a7.cur [D.J 1 A,I n,I o] [D.J 1 A,I a0,I ch]] (bi.vals [.agg (bg E a b)])),.p (cH prog 119 [a7.cur [D.J 1 A,I a0,I ch] [D.J 1 A,I g,I i]] (bi.vals [aE 5 C])),.r 14 [.agg (bg E a b),aE 5 C] [.agg (cl F c d G H au K),ak q],.a (.pZ (OY prog (fv f25 5) A E a b g i C F c d G H au K q j k l L e f M N Q R m)),.a (.pZ (O0 prog (fv f25 6) A E a b C F c d G H au K q j k l L e f M N Q R m de d0 p)),.p (h7 prog (fv f25 5) (OX A E a b g i C F c d G H au K q) (OY prog (fv f25 5) A E a b g i C F c d G H au K q j k l L e f M N Q R m)),.p (h7 prog (fv f25 6) (OZ A E a b C F c d G H au K q j k l L e f M N Q R m) (O0 prog (fv f25 6) A E a b C F c d G H au K q j k l L e f M N Q R m de d0 p))])):
 av 25 [aE 1 A] [.agg (cl L e f M N Q R),aE 5 C,ag p]:=
 h.of
end Go.Proofs.YtdchjefneblpgaaGreat
namespace Go.Proofs.YtdchjefneblpgaaGreat
open Go.Sx Go.RowKit Go.Proofs.Tryz
variable {a b c d e f g i j k l m n o p a0 ch de d0 : Int} {A C E F G H au K L M N Q R : ah} {q r s t u v w : Bool}
theorem ars(h:af [.b ((A.length:Int) != (C.length:Int)) true]):
 av 141 [aE 4 A,aE 4 C] [ak false]:=
 h.of
def yk(A C:ah)(a:Int):aD:=ba 26 [(0,c6 4 A),(1,c6 4 C),(5,aY a)] []
def O1(q:Bool):aD:=ba 26 [(4,.aR (.one (.bR q)))] []
theorem art(h:af [.i A a [I c,I d,I e,I f],.x C a [I g,I i,I j,I b],.b (!(c==g&&(d==i&&(e==j&&f==b)))) true]):
 aT (ap f141 0) (yk A C a) .ret (O1 false):=
 h.aQ [4] []
def Qk(A:ah)(a b c d e:Int)(C:ah)(f g i j:Int)(l:List O):List O:=.i A a [I b,I c,I d,I e]::.x C a [I f,I g,I i,I j]::.b (!(b==f&&(c==g&&(d==i&&e==j)))) false::.u a::l
theorem aru(h:af (Qk A a c d e f C g i j b [])):
 aT (ap f141 0) (yk A C a) .normal (yk A C (a+1)):=
 h.aQ [5,0,1] []
def Yv:aD:=ba 26 [] []
theorem arv(h:af [.f A a false]):
 aT (ap f141 0) (yk A C a) (.exit 0) Yv:=
 h.aQ [] []
def En(A C:ah)(l:List O):List O:=.b ((A.length:Int) != (C.length:Int)) false::l
theorem arw(h:af (En A C [.l [] [5,0,1] [] (ap f141 0) (yk A C 0) .ret (O1 q)])):
 av 141 [aE 4 A,aE 4 C] [ak q]:=
 h.of
theorem arx(h:af (En A C [.l [] [5,0,1] [] (ap f141 0) (yk A C 0) (.exit 0) Yv])):
 av 141 [aE 4 A,aE 4 C] [ak true]:=
 h.of
theorem ary(h:af [.b ((A.length:Int) != (C.length:Int)) true]):
 av 248 [aE 4 A,aE 4 C] [ak false]:=
 h.of
def xM(A C:ah)(a:Int):aD:=ba 26 [(0,c6 4 A),(1,c6 4 C),(12,aY (A.length:Int)),(13,aY a)] []
def O2(q:Bool):aD:=ba 26 [(4,.aR (.one (.bR q)))] []
theorem arz(h:af [.i A a [I c,I d,I e,I f],.x C a [I g,I i,I j,I b],.b (!(c==g&&(d==i&&(e==j&&f==b)))) true]):
 aT (ap f248 0) (xM A C a) .ret (O2 false):=
 h.aQ [4] []
theorem arA(h:af (Qk A a c d e f C g i j b [])):
 aT (ap f248 0) (xM A C a) .normal (xM A C (a+1)):=
 h.aQ [13,12,0,1] []
def Yw:aD:=ba 26 [] []
theorem arB(h:af [.f A a false]):
 aT (ap f248 0) (xM A C a) (.exit 0) Yw:=
 h.aQ [] []
theorem arC(h:af (En A C [.l [] [13,12,0,1] [] (ap f248 0) (xM A C 0) .ret (O2 q)])):
 av 248 [aE 4 A,aE 4 C] [ak q]:=
 h.of
theorem arD(h:af (En A C [.l [] [13,12,0,1] [] (ap f248 0) (xM A C 0) (.exit 0) Yw])):
 av 248 [aE 4 A,aE 4 C] [ak true]:=
 h.of
theorem arE(h:af [.r 248 [aE 4 A,aE 4 C] [ak q]]):
 av 132 [aE 4 A,aE 4 C] [ak q]:=
 h.of
def Dw(A C:ah)(a:Int):aD:=ba 26 [(0,c6 4 A),(1,c6 4 C),(5,aY a)] []
theorem arF(h:af (Qk A a c d e f C g i j b [])):
 aT (ap f19 0) (Dw A C a) .normal (Dw A C (a+1)):=
 h.aQ [5,0,1] []
def Yx:aD:=ba 26 [] []
theorem arG(h:af [.f A a false]):
 aT (ap f19 0) (Dw A C a) (.exit 0) Yx:=
 h.aQ [] []
theorem arH(h:af (En A C [.l [] [5,0,1] [] (ap f19 0) (Dw A C 0) (.exit 0) Yx])):
 av 19 [aE 4 A,aE 4 C] [ak true]:=
 h.of
def aad(A C:ah)(a b c d e f:Int)(E:ah)(q:Bool)(l:List O):List O:=.g ([]:ah) A 32::.h A::.r 249 [.agg (bg C a b),ag c] [.agg (bj d e f E),ak q]::l
theorem arI(h:af (aad A C a b c i j d E q [.n q true])):
 av 320 [.agg (bg C a b),aE 4 A,.agg [I c,I e,I f,I g]] [aE 4 ([]++A),aE 4 []]:=
 h.of
def aae(A C:ah)(a b c d e f:Int)(E:ah)(q r:Bool)(l:List O):List O:=aad A C a b c d e f E q (.n q false::.r 121 [.agg (bg C a b)] [ak r]::l)
theorem arJ(h:af (aae A C a b c i j d E q r [.n r true])):
 av 320 [.agg (bg C a b),aE 4 A,.agg [I c,I e,I f,I g]] [aE 4 ([]++A),aE 4 []]:=
 h.of
def Ql(A C:ah)(a b c d e f:Int)(E:ah)(q r:Bool)(g:Int)(s:Bool)(l:List O):List O:=aae A C a b c d e f E q r (.n r false::.r 168 [ag g,ag 0,ag 3] [ak s]::l)
theorem arK(h:af (Ql A C a b c i j e E q r d s [.n s true])):
 av 320 [.agg (bg C a b),aE 4 A,.agg [I c,I d,I f,I g]] [aE 4 ([]++A),aE 4 []]:=
 h.of
theorem arL(h:af (Ql A C a b c i j f E q r d s [.n s false,.r 168 [ag e,ag 0,ag 99] [ak t],.n t true])):
 av 320 [.agg (bg C a b),aE 4 A,.agg [I c,I d,I e,I g]] [aE 4 ([]++A),aE 4 []]:=
 h.of
def Qm(A C:ah)(a b c d e f:Int)(E:ah)(q r:Bool)(g:Int)(s:Bool)(i:Int)(t:Bool)(j:Int)(u:Bool)(l:List O):List O:=Ql A C a b c d e f E q r g s (.n s false::.r 168 [ag i,ag 0,ag 99] [ak t]::.n t false::.r 168 [ag j,ag 0,ag 999] [ak u]::l)
theorem arM(h:af (Qm A C a b c i j g E q r d s e t f u [.n u true])):
 av 320 [.agg (bg C a b),aE 4 A,.agg [I c,I d,I e,I f]] [aE 4 ([]++A),aE 4 []]:=
 h.of
theorem arN(h:af (Qm A C a b c i j g E q r d s e t f u [.n u false,.r 269 [ag 5,aE 4 A,.agg [I c,I d,I e,I f]] [aE 4 F,ak v],.n v true])):
 av 320 [.agg (bg C a b),aE 4 A,.agg [I c,I d,I e,I f]] [aE 4 ([]++A),aE 4 []]:=
 h.of
def xN(a b e f g i j:Int)(C E:ah)(k c:Int)(q:Bool)(d:Int)(A:ah):aD:=ba 101 [(5,a1 5),(9,aH.aR (bm.one (aK 21 4 A))),(10,a1 10),(12,aH.aR (bm.one (aK 600000 4 E))),(14,aY k),(15,aY c),(16,.aR (.one (.bR q))),(17,aY d)] [(10,[az g,az i,az j,aK 270003 1 C]),(5,[az a,az b,az e,az f])]
theorem arO(h:af [.f A c true,.b q true,.x A c [I e],.g C [[I e,I d,I a,I b]] 32,.h [[I e,I d,I a,I b]],.u c]):
 aT (ap f320 0) (xN g d i j k l f A E a b q c C) .normal (xN g d i j k l f A E a b q (c+1) (C++[[I e,I d,I a,I b]])):=
 h.aQ [17,10,16,9,5,14,15,12] [10,5]
def Iy(A C:ah):aD:=ba 101 [(9,aH.aR (bm.one (aK 21 4 C))),(12,aH.aR (bm.one (aK 600000 4 A)))] []
theorem arP(h:af [.f A a true,.b q false]):
 aT (ap f320 0) (xN e f g i j k b A C c d q a E) (.exit 0) (Iy C E):=
 h.aQ [12,9] []
theorem Yy(h:af [.f A a false]):
 aT (ap f320 0) (xN e f g i j k b A C c d q a E) (.exit 0) (Iy C E):=
 h.aQ [12,9] []
theorem ard(h:af (Qm C E e g c i j f F q r d s a t b u [.n u false,.r 269 [ag 5,aE 4 C,.agg [I c,I d,I a,I b]] [aE 4 A,ak v],.n v false,.r 267 [.agg (bj i j f F),ag a,ag b] [ag k,ag l,ak w],.l [] [17,10,16,9,5,14,15,12] [10,5] (ap f320 0) (xN c d a b i j f F A k l w 0 []) (.exit 0) (Iy A G)])):
 av 320 [.agg (bg E e g),aE 4 C,.agg [I c,I d,I a,I b]] [aE 4 A,aE 4 G]:=
 h.of
def aap(A:ah)(a b:Int)(q:Bool)(l:List O):List O:=.r 179 [.agg (bg A a b)] [ak q]::l
theorem Yz(h:af (aap A a b q [.n q true,.r 297 [aE 4 C] [aE 4 E]])):
 av 251 [.agg (bg A a b),aE 4 C,.agg [I c,I d,I e,I f]] [aE 4 E,aE 4 []]:=
 h.of
def aaq(A:ah)(a b:Int)(q:Bool)(c:Int)(r:Bool)(l:List O):List O:=aap A a b q (.n q false::.r 250 [.agg (bg A a b),ag c] [ak r]::l)
theorem arf(h:af (aaq A a b q c r [.n r true,.r 297 [aE 4 E] [aE 4 C]])):
 av 251 [.agg (bg A a b),aE 4 E,.agg [I c,I d,I e,I f]] [aE 4 C,aE 4 []]:=
 h.of
def Qs(A:ah)(a b:Int)(q:Bool)(c:Int)(r:Bool)(d:Int)(s:Bool)(l:List O):List O:=aaq A a b q c r (.n r false::.r 190 [ag d,ag 0,ag 3] [ak s]::l)
theorem arh(h:af (Qs A a b r c s d q [.n q true,.r 297 [aE 4 E] [aE 4 C]])):
 av 251 [.agg (bg A a b),aE 4 E,.agg [I c,I d,I e,I f]] [aE 4 C,aE 4 []]:=
 h.of
theorem ari(h:af (Qs A a b s c t d q [.n q false,.r 275 [ag e,ag f] [ak r],.n r true,.r 297 [aE 4 E] [aE 4 C]])):
 av 251 [.agg (bg A a b),aE 4 E,.agg [I c,I d,I e,I f]] [aE 4 C,aE 4 []]:=
 h.of
def Qt(A:ah)(a b:Int)(q:Bool)(c:Int)(r:Bool)(d:Int)(s:Bool)(e f:Int)(t:Bool)(C E:ah)(u:Bool)(g i j:Int)(F:ah)(k m:Int)(v:Bool)(l:List O):List O:=Qs A a b q c r d s (.n s false::.r 275 [ag e,ag f] [ak t]::.n t false::.r 318 [aE 4 C,.agg [I c,I d,I e,I f]] [aE 4 E,ak u]::.x A c (bj g i j F)::.r 298 [.agg (bj g i j F),ag e,ag f] [ag k,ag m,ak v]::l)
theorem arj(h:af (Qt A d e t a u f q b c r F C s g i j E k l v [.n s true])):
 av 251 [.agg (bg A d e),aE 4 F,.agg [I a,I f,I b,I c]] [aE 4 C,aE 4 []]:=
 h.of
theorem ark(h:af (Qt A d e u a v f q b c r F C s g i j E k l t [.n s false,.n t true])):
 av 251 [.agg (bg A d e),aE 4 F,.agg [I a,I f,I b,I c]] [aE 4 C,aE 4 []]:=
 h.of
def z6(a b c d:Int)(C:ah)(e f:Int)(A:ah)(g:Int)(E:ah):aD:=ba 94 [(5,a1 5),(8,aH.aR (bm.one (aK 460000 4 C))),(10,aY e),(11,aY f),(13,aH.aR (bm.one (aK 90 4 E))),(76,c6 1 A),(77,aY (A.length:Int)),(78,aY g)] [(5,[az a,az b,az c,az d])]
theorem arl(h:af [.i A d [I e],.g C [[I e,I c,I a,I b]] 32,.h [[I e,I c,I a,I b]],.u d]):
 aT (ap f251 0) (z6 f c g i E a b A d C) .normal (z6 f c g i E a b A (d+1) (C++[[I e,I c,I a,I b]])):=
 h.aQ [78,77,76,13,5,10,11,8] [5]
def O3(A C:ah):aD:=ba 94 [(8,aH.aR (bm.one (aK 460000 4 A))),(13,aH.aR (bm.one (aK 90 4 C)))] []
theorem arm(h:af [.f C a false]):
 aT (ap f251 0) (z6 d e f g A b c C a E) (.exit 0) (O3 A E):=
 h.aQ [8,13] []
theorem arn(h:af (Qt A e f u a v d q b c r H C s g i j E k l t [.n s false,.n t false,.x A a (bj m n o F),.l [(13,90,4)] [78,77,76,13,5,10,11,8] [5] (ap f251 0) (z6 a d b c C k l F 0 []) (.exit 0) (O3 C G)])):
 av 251 [.agg (bg A e f),aE 4 H,.agg [I a,I d,I b,I c]] [aE 4 C,aE 4 G]:=
 h.of
def ti(a:Int)(A:ah)(b:Int)(C E:ah)(c d:Int):aD:=ba 63 [(1,aY a),(2,c6 5 A),(3,a1 3),(7,aH.aR (bm.one (aK 13 4 []))),(8,aH.aR (bm.one (aK 14 4 C))),(9,aY b)] [(3,[.J .free 4 E,az c,az d])]
theorem aro(h:af [.i A d (bz f e g b c),.b (e==a) true,.r 122 [.agg (bz f e g b c)] [ak q],.b q true,.g C [[I 0,I a,I b,I c]] 32,.h [[I 0,I a,I b,I c]],.u d]):
 aT (ap f254 0) (ti a A d C E i j) .normal (ti a A (d+1) (C++[[I 0,I a,I b,I c]]) E i j):=
 h.aQ [9,2,1,8,3,7] [3]
theorem asR(h:af [.i A a (bz d b e f g),.b (b==c) true,.r 122 [.agg (bz d b e f g)] [ak q],.b q false,.u a]):
 aT (ap f254 0) (ti c A a C E i j) .normal (ti c A (a+1) C E i j):=
 h.aQ [9,2,1,8,3,7] [3]
theorem asS(h:af [.i A a (bz f c g i j),.b (c==b) false,.u a]):
 aT (ap f254 0) (ti b A a C E d e) .normal (ti b A (a+1) C E d e):=
 h.aQ [9,2,1,8,3,7] [3]
def O4(A C:ah)(a b:Int):aD:=ba 63 [(3,a1 3),(7,aH.aR (bm.one (aK 13 4 []))),(8,aH.aR (bm.one (aK 14 4 A)))] [(3,[.J .free 4 C,az a,az b])]
theorem asT(h:af [.f A a false]):
 aT (ap f254 0) (ti d A a C E b c) (.exit 0) (O4 C E b c):=
 h.aQ [8,3,7] [3]
def z7(A:ah)(a b:Int)(C E:ah):aD:=ba 63 [(3,a1 3),(7,aH.aR (bm.one (aK 7 4 E))),(8,aH.aR (bm.one (aK 8 4 C)))] [(3,[.J .free 4 A,az a,az b])]
def aar(A:ah)(a b c d:Int)(l:List O):List O:=.b (decide ((A.length:Int)>0)) true::.p ((0:Int)<=0)::.p (0<(A.length:Int))::.e A 0 [I a,I b,I c,I d]::l
theorem asU(h:af (aar A c d e f [.r 320 [.agg (bg E a b),aE 4 F,.agg [I c,I d,I e,I f]] [aE 4 G,aE 4 C],.p ((0:Int)<=(some (1:Int)).getD 0),.p ((some (1:Int)).getD 0<=none.getD (A.length:Int)),.p (none.getD (A.length:Int)<=(A.length:Int)),.g ([]:ah) (List.take (A.length-1) (List.drop 1 A)) 32,.h (List.take (A.length-1) (List.drop 1 A)),.g ([]++List.take (A.length-1) (List.drop 1 A)) C 32,.h C])):
 aT (ap f254 1) (z7 E a b A F) .normal (z7 E a b ([]++List.take (A.length-1) (List.drop 1 A)++C) G):=
 h.uu [(7,7,4),(8,8,4)] [8,3,7] [3]
def O5(A:ah):aD:=ba 63 [(7,aH.aR (bm.one (aK 7 4 A)))] []
theorem YA(h:af [.b (decide ((C.length:Int)>0)) false]):
 aT (ap f254 1) (z7 E a b C A) (.exit 2) (O5 A):=
 h.aQ [7] []
theorem asV(h:af [.l [] [9,2,1,8,3,7] [3] (ap f254 0) (ti c C 0 [] A a b) (.exit 0) (O4 E F d e),.l [(7,7,4),(8,8,4)] [8,3,7] [3] (ap f254 1) (z7 F d e E []) (.exit 2) (O5 G)]):
 av 254 [.agg (bg A a b),ag c,aE 5 C] [aE 4 G]:=
 h.of
def we(a:Int)(A:ah)(b:Int)(C E:ah)(c d:Int):aD:=ba 51 [(1,aY a),(3,a1 3),(7,.aR (.one (.v (aS)))),(8,aH.aR (bm.one (aK 31 4 C))),(15,aH.aR (bm.one (aK 160000 5 A))),(16,aY (A.length:Int)),(17,aY b)] [(3,[.J .free 4 E,az c,az d])]
theorem asW(h:af [.i A d (bz f g i a b),.r 180 [.agg (bz f g i a b)] [ak q],.b q true,.g C [[I 0,I c,I a,I b]] 32,.h [[I 0,I c,I a,I b]],.u d]):
 aT (ap f135 0) (we c A d C E j e) .normal (we c A (d+1) (C++[[I 0,I c,I a,I b]]) E j e):=
 h.aQ [17,16,15,8,1,3,7] [3]
theorem asX(h:af [.i A a (bz c d e f g),.r 180 [.agg (bz c d e f g)] [ak q],.b q false,.u a]):
 aT (ap f135 0) (we i A a C E j b) .normal (we i A (a+1) C E j b):=
 h.aQ [17,16,15,8,1,3,7] [3]
def O6(A C:ah)(a b:Int):aD:=ba 51 [(3,a1 3),(7,.aR (.one (.v (aS)))),(8,aH.aR (bm.one (aK 31 4 A)))] [(3,[.J .free 4 C,az a,az b])]
theorem asY(h:af [.f A b false]):
 aT (ap f135 0) (we d A b C E c a) (.exit 0) (O6 C E c a):=
 h.aQ [8,3,7] [3]
def z8(A:ah)(a b:Int)(C E:ah):aD:=ba 51 [(3,a1 3),(7,aH.aR (bm.one (aK 430000 4 E))),(8,aH.aR (bm.one (aK 31 4 C)))] [(3,[.J .free 4 A,az a,az b])]
theorem asZ(h:af (aar A c d e f [.r 251 [.agg (bg E a b),aE 4 F,.agg [I c,I d,I e,I f]] [aE 4 G,aE 4 C],.a .own,.p ((0:Int)<=(some (1:Int)).getD 0),.p ((some (1:Int)).getD 0<=none.getD (A.length:Int)),.p (none.getD (A.length:Int)<=(A.length:Int)),.g (List.take (A.length-1) (List.drop 1 A)) C 32,.h C])):
 aT (ap f135 1) (z8 E a b A F) .normal (z8 E a b (List.take (A.length-1) (List.drop 1 A)++C) G):=
 h.aQ [8,3,7] [3]
def O7(A:ah):aD:=ba 51 [(7,aH.aR (bm.one (aK 430000 4 A)))] []
theorem YB(h:af [.b (decide ((A.length:Int)>0)) false]):
 aT (ap f135 1) (z8 E a b A C) (.exit 2) (O7 C):=
 h.aQ [7] []
theorem as0(h:af [.r 182 [aE 5 E,ag a] [aE 5 F],.l [(8,31,4)] [17,16,15,8,1,3,7] [3] (ap f135 0) (we a F 0 [] A b c) (.exit 0) (O6 G H d e),.l [(7,430000,4)] [8,3,7] [3] (ap f135 1) (z8 H d e G []) (.exit 2) (O7 C)]):
 av 135 [.agg (bg A b c),ag a,aE 5 E] [aE 4 C]:=
 h.of
theorem as1(h:af [.r 254 [.agg (bg A a b),ag c,aE 5 C] [aE 4 E],.r 133 [.agg (bg A a b),aE 4 E] [aE 4 F]]):
 av 142 [.agg (bg A a b),ag c,aE 5 C] [aE 4 F]:=
 h.of
theorem as2(h:af [.r 135 [.agg (bg A a b),ag c,aE 5 C] [aE 4 E],.r 134 [.agg (bg A a b),aE 4 E] [aE 4 F]]):
 av 21 [.agg (bg A a b),ag c,aE 5 C] [aE 4 F]:=
 h.of
theorem as3(h:af [.r 20 [.agg (cl A a b E F G H),ag c] [aE 4 K],.r 142 [.agg (bg A a b),ag c,aE 5 au] [aE 4 C],.r 141 [aE 4 K,aE 4 C] [ak q]]):
 av 26 [.agg (cl A a b E F G H),aE 5 au,ag c] [ak q]:=
 h.of
theorem as4(h:af [.r 114 [.agg (cl A a b E F G H),ag c] [aE 4 K],.r 21 [.agg (bg A a b),ag c,aE 5 au] [aE 4 C],.r 132 [aE 4 K,aE 4 C] [ak q]]):
 av 18 [.agg (cl A a b E F G H),aE 5 au,ag c] [ak q]:=
 h.of
