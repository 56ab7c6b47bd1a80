import Derived.Test.YtdchjefneblpgaaGreatGE
set_option linter.unusedVariables false
set_option linter.unusedSimpArgs false
namespace Go.Proofs.YtdchjefneblpgaaGreat
open Go.Sx Go.RowKit Go.Proofs.Tryz
variable {a b c d e f g i j k l m n o p a0 ch de d0 cd f0 i0 j0 eb : Int} {A C E F G H au K L M N Q R S bn V X Y Z dK eH e9 fa fs ft eS ku lh l6 mv mw sn so : ah} {q r s t u v : Bool}
def se(a:Int)(A:ah)(b c d e f:Int)(C:ah)(g i j k:Int)(q:Bool)(l:List O):List O:=.r 279 [.agg (b' a A b c d e)] [.agg (b' f C g i j k)]::.r 191 [.agg (b' f C g i j k)] [ak q]::l
theorem auy(h:af (se f C g i j k c A d e a b q [.n q true])):
 av 261 [.agg (b' f C g i j k)] [.agg (b' c A d e a b),ak false]:=
 h.of
theorem auz(h:af (se f C g i j k d A e a b c q [.n q false,.b (a==0) true])):
 av 261 [.agg (b' f C g i j k)] [.agg (b' d A e a b c),ak false]:=
 h.of
theorem auA(h:af (se f C g i j k e A b a c d q [.n q false,.b (a==0) false,.v (a-1),.u b])):
 av 261 [.agg (b' f C g i j k)] [.agg (b' e A (b+1) (a-1) c d),ak true]:=
 h.of
def wk(A:ah)(a d:Int)(C:ah)(e f:Int)(E F G H:ah)(q:Bool)(b c:Int):aD:=ba 34 [(1,aY a),(4,a1 4),(6,a1 10),(7,aH.aR (bm.one (aK 130000 3 A))),(8,aY d)] [(10,[aK 900011000 4 C,az e,az f,aK 900011003 8 E,aK 900011004 6 F,aK 900011005 5 G,aK 900011006 3 H,.bR q]),(4,[.v (aS),az b,az c,.v (aS),.v (aS),.v (aS),.v (aS)])]
def P'(a:Int)(A:ah)(b c:Int)(C E F G:ah):aD:=ba 34 [(4,a1 4),(5,aY a)] [(4,[aK 235000 4 A,az b,az c,aK 235003 8 C,aK 235004 6 E,aK 235005 5 F,aK 235006 3 G])]
def abC(a b:Int)(A:ah)(c d:Int)(C E F G:ah)(q:Bool)(e:Int)(H:ah)(f g:Int)(au K L M:ah)(r:Bool)(N:ah)(l:List O):List O:=.b (decide (a<=b)) true::.a (.e3 [some [D.J 4 A,I c,I d,D.J 8 C,D.J 6 E,D.J 5 F,D.J 3 G,B q],none] (bi.vals [ag e]))::.p (cH prog 131 [a7.ref [D.J 4 H,I f,I g,D.J 8 au,D.J 6 K,D.J 5 L,D.J 3 M,B r] [D.J 4 A,I c,I d,D.J 8 C,D.J 6 E,D.J 5 F,D.J 3 G,B q],a7.ro (aE 3 N)] (bi.vals [ag e]))::l
theorem auB(h:af (abC a e A b c C E F G r d au f g K L M N q H [.b (d==0) true])):
 aT (ap f16 0) (wk H e a au f g K L M N q i j) .ret (P' a A b c C E F G):=
 h.aQ [4,5] [4]
theorem YW(h:af (abC a b C c d E F G H q e au f g K L M N r A [.b (e==0) false,.u a])):
 aT (ap f16 0) (wk A b a au f g K L M N r i j) .normal (wk A b (a+1) C c d E F G H q i j):=
 h.uu [(11000000,900011000,4),(11000003,900011003,8),(11000004,900011004,6),(11000005,900011005,5),(11000006,900011006,3)] [8,1,6,7,4] [10,4]
def Qa(a:Int)(A:ah)(c d:Int)(C E F G:ah)(q:Bool)(e b:Int):aD:=ba 34 [(1,aY a),(4,a1 4),(6,a1 10)] [(10,[aK 900011000 4 A,az c,az d,aK 900011003 8 C,aK 900011004 6 E,aK 900011005 5 F,aK 900011006 3 G,.bR q]),(4,[.v (aS),az e,az b,.v (aS),.v (aS),.v (aS),.v (aS)])]
theorem auC(h:af [.b (decide (b<=a)) false]):
 aT (ap f16 0) (wk H a b A c d C E F G q e f) (.exit 0) (Qa a A c d C E F G q e f):=
 h.aQ [6,1,4] [10,4]
def Re(A:ah)(a b:Int)(C E F G:ah)(q:Bool)(H:ah)(c d:Int)(au K L M:ah)(l:List O):List O:=.a (.e3 [none] (bi.new [D.J 4 A,I a,I b,D.J 8 C,D.J 6 E,D.J 5 F,D.J 3 G,B q]))::.p (cH prog 127 [a7.ro (.agg (cl H c d au K L M))] (bi.new [D.J 4 A,I a,I b,D.J 8 C,D.J 6 E,D.J 5 F,D.J 3 G,B q]))::l
theorem auD(h:af (Re M d b C E F G q A a c H au K L [.r 129 [.agg (cl A a c H au K L)] [aE 3 N],.r 130 [ag j,ag 0,ag 3000] [ag e],.l [(11000000,900011000,4),(11000003,900011003,8),(11000004,900011004,6),(11000005,900011005,5),(11000006,900011006,3)] [8,1,6,7,4] [10,4] (ap f16 0) (wk N e 1 M d b C E F G q 0 0) .ret (P' f Q g i R S bn V)])):
 av 16 [.agg (cl A a c H au K L),ag j] [.agg (cl Q g i R S bn V),ag f]:=
 h.of
theorem auE(h:af (Re M e c C E F G q A b d H au K L [.r 129 [.agg (cl A b d H au K L)] [aE 3 N],.r 130 [ag i,ag 0,ag 3000] [ag a],.l [(11000000,900011000,4),(11000003,900011003,8),(11000004,900011004,6),(11000005,900011005,5),(11000006,900011006,3)] [8,1,6,7,4] [10,4] (ap f16 0) (wk N a 1 M e c C E F G q 0 0) (.exit 0) (Qa a Q f g R S bn V r j k)])):
 av 16 [.agg (cl A b d H au K L),ag i] [.agg (cl Q f g R S bn V),ag a]:=
 h.of
def abD(a b:Int)(q:Bool)(l:List O):List O:=.a .wr::.r 168 [ag a,ag 0,ag (IntKind.i64.wrap (b-1))] [ak q]::l
theorem YX(h:af (abD b a q [.n q true])):
 av 61 [.agg (bg A a c),ag b,ag d] [ag (-1)]:=
 h.of
def Rf(a b:Int)(q:Bool)(c:Int)(r:Bool)(l:List O):List O:=abD a b q (.n q false::.a .wr::.r 168 [ag c,ag 0,ag (IntKind.i64.wrap (b-1))] [ak r]::l)
theorem YY(h:af (Rf b a q c r [.n r true])):
 av 61 [.agg (bg A a d),ag b,ag c] [ag (-1)]:=
 h.of
theorem auF(h:af (Rf b a q c r [.n r false,.b (decide (a<1)) true])):
 av 61 [.agg (bg A a d),ag b,ag c] [ag (-1)]:=
 h.of
theorem YZ(h:af (Rf b a q c r [.n r false,.b (decide (a<1)) false,.a .wr,.a .wr])):
 av 61 [.agg (bg A a d),ag b,ag c] [ag (IntKind.i64.wrap (IntKind.i64.wrap (b*a)+c))]:=
 h.of
def A7(A:ah)(a:Int)(C E:ah)(d e:Int)(F G H au:ah)(q:Bool)(b c:Int):aD:=ba 32 [(1,c6 3 A),(4,a1 4),(6,a1 10),(7,aH.aR (bm.one (aK 11 1 C))),(8,aY a)] [(10,[aK 900011000 4 E,az d,az e,aK 900011003 8 F,aK 900011004 6 G,aK 900011005 5 H,aK 900011006 3 au,.bR q]),(4,[.v (aS),az b,az c,.v (aS),.v (aS),.v (aS),.v (aS)])]
def Rg(A:ah)(a b c d:Int)(C:ah)(e f:Int)(E F G H:ah)(q r:Bool)(au:ah)(g i:Int)(K L M N:ah)(s:Bool)(l:List O):List O:=.i A a [I b,I c,I d]::.a (.e3 [some [D.J 4 C,I e,I f,D.J 8 E,D.J 6 F,D.J 5 G,D.J 3 H,B q],none] (bi.vals [ak r]))::.p (cH prog 128 [a7.ref [D.J 4 au,I g,I i,D.J 8 K,D.J 6 L,D.J 5 M,D.J 3 N,B s] [D.J 4 C,I e,I f,D.J 8 E,D.J 6 F,D.J 5 G,D.J 3 H,B q],a7.ro (.agg [I b,I c,I d])] (bi.vals [ak r]))::l
theorem auG(h:af (Rg au a i j k C b c E F G H r q K d e L M N Q s [.g A [[B q]] 1,.h [[B q]],.u a])):
 aT (ap f15 0) (A7 au a A K d e L M N Q s f g) .normal (A7 au (a+1) (A++[[B q]]) C b c E F G H r f g):=
 h.uu [(11000000,900011000,4),(11000003,900011003,8),(11000004,900011004,6),(11000005,900011005,5),(11000006,900011006,3)] [8,1,7,6,4] [10,4]
def Qb(A C:ah)(b c:Int)(E F G H:ah)(q:Bool)(d a:Int):aD:=ba 32 [(4,a1 4),(6,a1 10),(7,aH.aR (bm.one (aK 11 1 A)))] [(10,[aK 900011000 4 C,az b,az c,aK 900011003 8 E,aK 900011004 6 F,aK 900011005 5 G,aK 900011006 3 H,.bR q]),(4,[.v (aS),az d,az a,.v (aS),.v (aS),.v (aS),.v (aS)])]
theorem auH(h:af [.f au a false]):
 aT (ap f15 0) (A7 au a A C b c E F G H q d e) (.exit 0) (Qb A C b c E F G H q d e):=
 h.aQ [6,7,4] [10,4]
theorem auI(h:af (Re G b a A C E F q H c f R S bn V [.l [(11000000,900011000,4),(11000003,900011003,8),(11000004,900011004,6),(11000005,900011005,5),(11000006,900011006,3)] [8,1,7,6,4] [10,4] (ap f15 0) (A7 X 0 [] G b a A C E F q 0 0) (.exit 0) (Qb au K d e L M N Q r g i)])):
 av 15 [.agg (cl H c f R S bn V),aE 3 X] [.agg (cl K d e L M N Q),aE 1 au]:=
 h.of
theorem auJ(h:af (se f C g i j k a A b c d e q [.n q true])):
 av 258 [.agg (b' f C g i j k),.agg (bz m n o p l)] [.agg (b' a A b c d e),ak false]:=
 h.of
theorem auK(h:af (se f C i j k l a A b c d e q [.n q false,.r 122 [.agg (bz m n o p g)] [ak r],.n r true])):
 av 258 [.agg (b' f C i j k l),.agg (bz m n o p g)] [.agg (b' a A b c d e),ak false]:=
 h.of
theorem auL(h:af (se f C i j k l b A a c d e q [.n q false,.r 122 [.agg (bz m n o p g)] [ak r],.n r false,.b (a==0) true])):
 av 258 [.agg (b' f C i j k l),.agg (bz m n o p g)] [.agg (b' b A a c d e),ak false]:=
 h.of
theorem auM(h:af (se f C i j k l c A a d b e q [.n q false,.r 122 [.agg (bz m n o p g)] [ak r],.n r false,.b (a==0) false,.b (decide (b>=1000000000)) true])):
 av 258 [.agg (b' f C i j k l),.agg (bz m n o p g)] [.agg (b' c A a d b e),ak false]:=
 h.of
theorem auN(h:af (se l C m n o p i A b j c k q [.n q false,.r 122 [.agg (bz d e f g a)] [ak r],.n r false,.b (b==0) false,.b (decide (c>=1000000000)) false,.g A [(bz d e f g a)] 40,.h [(bz d e f g a)],.v (b-1),.u c])):
 av 258 [.agg (b' l C m n o p),.agg (bz d e f g a)] [.agg (b' i (A++[(bz d e f g a)]) (b-1) j (c+1) k),ak true]:=
 h.of
theorem auO(h:af (se f C g i j k c A d e a b q [.n q true])):
 av 260 [.agg (b' f C g i j k)] [.agg (b' c A d e a b),.agg (bz 0 0 0 0 0),ak false]:=
 h.of
theorem auP(h:af (se f C g i j k c A d e a b q [.n q false,.b ((A.length:Int)==0) true])):
 av 260 [.agg (b' f C g i j k)] [.agg (b' c A d e a b),.agg (bz 0 0 0 0 0),ak false]:=
 h.of
theorem auQ(h:af (se f C m n o p d A e b c a q [.n q false,.b ((A.length:Int)==0) false,.p ((0:Int)<=0),.p (0<(A.length:Int)),.e A 0 (bz g i j k l),.p ((0:Int)<=(some (1:Int)).getD 0),.p ((some (1:Int)).getD 0<=none.getD (A.length:Int)),.p (none.getD (A.length:Int)<=(A.length:Int)),.g ([]:ah) (List.take (A.length-1) (List.drop 1 A)) 40,.h (List.take (A.length-1) (List.drop 1 A)),.u a,.u b])):
 av 260 [.agg (b' f C m n o p)] [.agg (b' d ([]++List.take (A.length-1) (List.drop 1 A)) e (b+1) c (a+1)),.agg (bz g i j k l),ak true]:=
 h.of
def EQ(A:ah)(a b c d e:Int)(l:List O):List O:=.r 61 [.agg (bg A a b),ag c,ag d] [ag e]::l
theorem auR(h:af (EQ A a b c d e [.n q true])):
 cW 158 [a7.ref [D.J 4 A,I a,I b,D.J 8 C,D.J 6 E,D.J 5 F,D.J 3 G,B q] [D.J 4 A,I a,I b,D.J 8 C,D.J 6 E,D.J 5 F,D.J 3 G,B q],a7.ro (ag c),a7.ro (ag d)] (bi.vals [ak false]):=
 h.cX
theorem auh(h:af (EQ A a b d e c [.n q false,.b (decide (c<0)) true])):
 cW 158 [a7.ref [D.J 4 A,I a,I b,D.J 8 C,D.J 6 E,D.J 5 F,D.J 3 G,B q] [D.J 4 A,I a,I b,D.J 8 C,D.J 6 E,D.J 5 F,D.J 3 G,B q],a7.ro (ag d),a7.ro (ag e)] (bi.vals [ak false]):=
 h.cX
def ER(A:ah)(a b c d e:Int)(q:Bool)(l:List O):List O:=EQ A a b c d e (.n q false::.b (decide (e<0)) false::l)
theorem aui(h:af (ER A a b c d e q [.b (c==d) true])):
 cW 158 [a7.ref [D.J 4 A,I a,I b,D.J 8 C,D.J 6 E,D.J 5 F,D.J 3 G,B q] [D.J 4 A,I a,I b,D.J 8 C,D.J 6 E,D.J 5 F,D.J 3 G,B q],a7.ro (ag c),a7.ro (ag d)] (bi.vals [ak false]):=
 h.cX
theorem auj(h:af (ER C b i j k a q [.b (j==k) false,.a .sub,.x A a (b' c E d e f g),.r 261 [.agg (b' c E d e f g)] [.agg (b' l F m n o p),ak r],.x A a (b' c E d e f g)])):
 cW 158 [a7.ref [D.J 4 C,I b,I i,D.J 8 G,D.J 6 A,D.J 5 H,D.J 3 au,B q] [D.J 4 C,I b,I i,D.J 8 G,D.J 6 (A.set a.toNat (b' l F m n o p)),D.J 5 H,D.J 3 au,B q],a7.ro (ag j),a7.ro (ag k)] (bi.vals [ak r]):=
 h.cX
def Jl(A:ah)(a b:Int)(C E F G:ah)(q r:Bool)(H:ah)(c d:Int)(au K L M:ah)(s:Bool)(e:Int)(l:List O):List O:=.a (.e3 [some [D.J 4 A,I a,I b,D.J 8 C,D.J 6 E,D.J 5 F,D.J 3 G,B q],none] (bi.vals [ak r]))::.p (cH prog 257 [a7.ref [D.J 4 H,I c,I d,D.J 8 au,D.J 6 K,D.J 5 L,D.J 3 M,B s] [D.J 4 A,I a,I b,D.J 8 C,D.J 6 E,D.J 5 F,D.J 3 G,B q],a7.ro (ag e)] (bi.vals [ak r]))::l
theorem Y0(h:af (Jl G a b A C E F q r H c d au K L M s e [.n r true])):
 cW 171 [a7.ref [D.J 4 H,I c,I d,D.J 8 au,D.J 6 K,D.J 5 L,D.J 3 M,B s] [D.J 4 G,I a,I b,D.J 8 A,D.J 6 C,D.J 5 E,D.J 3 F,B q],a7.ro (ag e)] (bi.vals [ak false]):=
 h.cX
def ES(A:ah)(a b:Int)(C E F G:ah)(q r:Bool)(H:ah)(c d:Int)(au K L M:ah)(s:Bool)(e:Int)(N P Q R S bn V X:ah)(l:List O):List O:=Jl A a b C E F G q r H c d au K L M s e (.n r false::.a .sub::.x C e (bb N P Q R S bn V X)::l)
theorem auk(h:af (ES G a b A C E F q r H d e K L M N s c Q au R S bn V X Y [.b (decide ((au.length:Int)>0)) true])):
 cW 171 [a7.ref [D.J 4 H,I d,I e,D.J 8 K,D.J 6 L,D.J 5 M,D.J 3 N,B s] [D.J 4 G,I a,I b,D.J 8 A,D.J 6 C,D.J 5 E,D.J 3 F,B q],a7.ro (ag c)] (bi.vals [ak false]):=
 h.cX
def ET(A:ah)(a b:Int)(C E F G:ah)(q r:Bool)(H:ah)(c d:Int)(au K L M:ah)(s:Bool)(e:Int)(N P Q R S bn V X:ah)(l:List O):List O:=ES A a b C E F G q r H c d au K L M s e N P Q R S bn V X (.b (decide ((P.length:Int)>0)) false::l)
theorem aul(h:af (ET G a b A C E F q r H d e L M N Q s c au K R S bn V X Y [.b (decide ((au.length:Int)>0)) true])):
 cW 171 [a7.ref [D.J 4 H,I d,I e,D.J 8 L,D.J 6 M,D.J 5 N,D.J 3 Q,B s] [D.J 4 G,I a,I b,D.J 8 A,D.J 6 C,D.J 5 E,D.J 3 F,B q],a7.ro (ag c)] (bi.vals [ak false]):=
 h.cX
theorem aum(h:af (ET G a b A C E F q r H d e M N Q R s c au K L S bn V X Y [.b (decide ((au.length:Int)>0)) false,.b ((L.length:Int)==0) true])):
 cW 171 [a7.ref [D.J 4 H,I d,I e,D.J 8 M,D.J 6 N,D.J 5 Q,D.J 3 R,B s] [D.J 4 G,I a,I b,D.J 8 A,D.J 6 C,D.J 5 E,D.J 3 F,B q],a7.ro (ag c)] (bi.vals [ak false]):=
 h.cX
theorem aun(h:af (ET R b c C F G H q r S d e bn V X Y s a au E A K L M N Q [.b (decide ((au.length:Int)>0)) false,.b ((A.length:Int)==0) false,.p ((0:Int)<=0),.p (0<(A.length:Int)),.e A 0 (bz f g i j k),.p ((0:Int)<=(some (1:Int)).getD 0),.p ((some (1:Int)).getD 0<=none.getD (A.length:Int)),.p (none.getD (A.length:Int)<=(A.length:Int)),.g ([]:ah) (List.take (A.length-1) (List.drop 1 A)) 40,.h (List.take (A.length-1) (List.drop 1 A)),.x C a (bb au E A K L M N Q),.p (a.toNat=a.toNat),.p (a.toNat=a.toNat),.p (a.toNat=a.toNat),.p (a.toNat=a.toNat),.p (a.toNat=a.toNat),.p (a.toNat=a.toNat)])):
 cW 171 [a7.ref [D.J 4 S,I d,I e,D.J 8 bn,D.J 6 V,D.J 5 X,D.J 3 Y,B s] [D.J 4 R,I b,I c,D.J 8 (C.set a.toNat [D.J 5 [(bz f g i j k)],D.J 5 E,D.J 5 ([]++List.take (A.length-1) (List.drop 1 A)),D.J 4 K,D.J 1 L,D.J 1 M,D.J 1 N,D.J 2 Q]),D.J 6 F,D.J 5 G,D.J 3 H,B q],a7.ro (ag a)] (bi.vals [ak true]):=
 h.cX
theorem Y1(h:af [.b q true,.v ((A.length:Int)-1),.r 168 [ag c,ag 0,ag ((A.length:Int)-1)] [ak r]]):
 cW 257 [a7.ref [D.J 4 C,I a,I b,D.J 8 A,D.J 6 E,D.J 5 F,D.J 3 G,B q] [D.J 4 C,I a,I b,D.J 8 A,D.J 6 E,D.J 5 F,D.J 3 G,B q],a7.ro (ag c)] (bi.vals [ak r]):=
 h.cX
theorem auo(h:af [.b q false]):
 cW 257 [a7.ref [D.J 4 A,I a,I b,D.J 8 C,D.J 6 E,D.J 5 F,D.J 3 G,B q] [D.J 4 A,I a,I b,D.J 8 C,D.J 6 E,D.J 5 F,D.J 3 G,B q],a7.ro (ag c)] (bi.vals [ak false]):=
 h.cX
theorem Y2(h:af (Jl G a b A C E F q r H c d au K L M s e [.n r true])):
 cW 151 [a7.ref [D.J 4 H,I c,I d,D.J 8 au,D.J 6 K,D.J 5 L,D.J 3 M,B s] [D.J 4 G,I a,I b,D.J 8 A,D.J 6 C,D.J 5 E,D.J 3 F,B q],a7.ro (ag e)] (bi.vals [ak false]):=
 h.cX
theorem aup(h:af (ES G a b A C E F q r H d e K L M N s c Q au R S bn V X Y [.b ((au.length:Int)==0) true])):
 cW 151 [a7.ref [D.J 4 H,I d,I e,D.J 8 K,D.J 6 L,D.J 5 M,D.J 3 N,B s] [D.J 4 G,I a,I b,D.J 8 A,D.J 6 C,D.J 5 E,D.J 3 F,B q],a7.ro (ag c)] (bi.vals [ak false]):=
 h.cX
def Rh(A:ah)(a b:Int)(C E F G:ah)(q r:Bool)(H:ah)(c d:Int)(au K L M:ah)(s:Bool)(e:Int)(N P Q R S bn V X:ah)(f g i j k m:Int)(l:List O):List O:=ES A a b C E F G q r H c d au K L M s e N P Q R S bn V X (.b ((P.length:Int)==0) false::.a .sub::.x C e (bb N P Q R S bn V X)::.p ((0:Int)<=0)::.p (0<(P.length:Int))::.e P 0 (bz f g i j k)::.r 245 [ag j,ag a] [ag m]::l)
theorem auq(h:af (Rh F b c A E G H q r au f g bn X Y Z t a K C L M N Q R S i j k d l e [.b (e != a) true,.r 61 [.agg (bg F b c),ag a,ag e] [ag m],.a .sub,.x E m (b' n V o p a0 ch),.r 258 [.agg (b' n V o p a0 ch),.agg (bz i j k d l)] [.agg (b' de dK d0 cd f0 i0),ak s],.n s true])):
 cW 151 [a7.ref [D.J 4 au,I f,I g,D.J 8 bn,D.J 6 X,D.J 5 Y,D.J 3 Z,B t] [D.J 4 F,I b,I c,D.J 8 A,D.J 6 E,D.J 5 G,D.J 3 H,B q],a7.ro (ag a)] (bi.vals [ak false]):=
 h.cX
theorem avS(h:af (Rh H b c C E au K q r eH p a0 l6 mv sn so u a e9 F fa fs ft eS ku lh ch e de f d0 g [.b (g != a) true,.r 61 [.agg (bg H b c),ag a,ag g] [ag d],.a .sub,.x E d (b' i L j k l m),.r 258 [.agg (b' i L j k l m),.agg (bz ch e de f d0)] [.agg (b' cd mw f0 i0 j0 eb),ak t],.n t false,.x E d (b' i L j k l m),.a (.e3 [some [D.J 4 M,I n,I o,D.J 8 G,D.J 6 N,D.J 5 Q,D.J 3 R,B s],none,none,none] (bi.vals [])),.a .sub,.p (cH prog 259 [a7.ref [D.J 4 H,I b,I c,D.J 8 C,D.J 6 (E.set d.toNat (b' cd mw f0 i0 j0 eb)),D.J 5 au,D.J 3 K,B q] [D.J 4 M,I n,I o,D.J 8 G,D.J 6 N,D.J 5 Q,D.J 3 R,B s],a7.ro (ag a),a7.ro (ag e),a7.ro (ag 1)] (bi.vals [])),.x G a (bb S A bn V X Y Z dK),.p ((0:Int)<=(some (1:Int)).getD 0),.p ((some (1:Int)).getD 0<=none.getD (A.length:Int)),.p (none.getD (A.length:Int)<=(A.length:Int)),.g ([]:ah) (List.take (A.length-1) (List.drop 1 A)) 40,.h (List.take (A.length-1) (List.drop 1 A)),.x G a (bb S A bn V X Y Z dK)])):
 cW 151 [a7.ref [D.J 4 eH,I p,I a0,D.J 8 l6,D.J 6 mv,D.J 5 sn,D.J 3 so,B u] [D.J 4 M,I n,I o,D.J 8 (G.set a.toNat (bb S ([]++List.take (A.length-1) (List.drop 1 A)) bn V X Y Z dK)),D.J 6 N,D.J 5 Q,D.J 3 R,B s],a7.ro (ag a)] (bi.vals [ak true]):=
 h.cX
theorem avT(h:af (Rh eH g i A N Q R q r e9 j k fa fs ft eS s a C E F G H au K L c d e b f l [.b (l != a) false,.a .sub,.x A a (bb C E F G H au K L),.g C [(bz c d e b f)] 40,.e A a.toNat (bb C E F G H au K L),.p ((bb C E F G H au K L)[0]?=some (D.J 5 C)),.h [(bz c d e b f)],.p (A=A),.p (A=A),.p (A=A),.p (A=A),.p (A=A),.p (A=A),.p (A=A),.p (A=A),.p (A=A),.p (A=A),.p (A=A),.p (a.toNat=a.toNat),.p (C=C),.x A a (bb C E F G H au K L),.a .sub,.p (a.toNat=a.toNat),.p (0<=a),.p (a<(↑(A.set a.toNat (bb (C++[(bz c d e b f)]) E F G H au K L)).length:Int)),.e (A.set a.toNat (bb (C++[(bz c d e b f)]) E F G H au K L)) a.toNat (bb S M bn V X Y Z dK),.p ((0:Int)<=(some (1:Int)).getD 0),.p ((some (1:Int)).getD 0<=none.getD (M.length:Int)),.p (none.getD (M.length:Int)<=(M.length:Int)),.g ([]:ah) (List.take (M.length-1) (List.drop 1 M)) 40,.h (List.take (M.length-1) (List.drop 1 M)),.p (0<=a),.p (a<(↑(A.set a.toNat (bb (C++[(bz c d e b f)]) E F G H au K L)).length:Int)),.e (A.set a.toNat (bb (C++[(bz c d e b f)]) E F G H au K L)) a.toNat (bb S M bn V X Y Z dK)])):
 cW 151 [a7.ref [D.J 4 e9,I j,I k,D.J 8 fa,D.J 6 fs,D.J 5 ft,D.J 3 eS,B s] [D.J 4 eH,I g,I i,D.J 8 ((A.set a.toNat (bb (C++[(bz c d e b f)]) E F G H au K L)).set a.toNat (bb S ([]++List.take (M.length-1) (List.drop 1 M)) bn V X Y Z dK)),D.J 6 N,D.J 5 Q,D.J 3 R,B q],a7.ro (ag a)] (bi.vals [ak true]):=
 h.cX
theorem avU(h:af [.a .sub,.x L a (bb C E F G A H au K),.a .sub,.x L a (bb C E F G A H au K),.x A b [I d],.v (d+c),.x A b [I i],.e L a.toNat (bb C E F G A H au K),.p (a.toNat=a.toNat),.p (a.toNat=a.toNat),.p (a.toNat=a.toNat),.p (a.toNat=a.toNat),.b r true,.a .sub,.p (0<=a),.p (a<(↑(L.set a.toNat (bb C E F G (A.set b.toNat [I (d+c)]) H au K)).length:Int)),.e (L.set a.toNat (bb C E F G (A.set b.toNat [I (d+c)]) H au K)) a.toNat (bb C E F G (A.set b.toNat [I (d+c)]) H au K),.x (A.set b.toNat [I (d+c)]) b [I g],.r 168 [ag g,ag (-1000000),ag 1000000] [ak q]]):
 cW 259 [a7.ref [D.J 4 M,I e,I f,D.J 8 L,D.J 6 N,D.J 5 Q,D.J 3 R,B r] [D.J 4 M,I e,I f,D.J 8 (L.set a.toNat (bb C E F G (A.set b.toNat [I (d+c)]) H au K)),D.J 6 N,D.J 5 Q,D.J 3 R,B q],a7.ro (ag a),a7.ro (ag b),a7.ro (ag c)] (bi.vals []):=
 h.cX
theorem avV(h:af (EQ A a b c d e [.n q true])):
 cW 156 [a7.ref [D.J 4 A,I a,I b,D.J 8 C,D.J 6 E,D.J 5 F,D.J 3 G,B q] [D.J 4 A,I a,I b,D.J 8 C,D.J 6 E,D.J 5 F,D.J 3 G,B q],a7.ro (ag c),a7.ro (ag d)] (bi.vals [ak false]):=
 h.cX
theorem avW(h:af (EQ A a b d e c [.n q false,.b (decide (c<0)) true])):
 cW 156 [a7.ref [D.J 4 A,I a,I b,D.J 8 C,D.J 6 E,D.J 5 F,D.J 3 G,B q] [D.J 4 A,I a,I b,D.J 8 C,D.J 6 E,D.J 5 F,D.J 3 G,B q],a7.ro (ag d),a7.ro (ag e)] (bi.vals [ak false]):=
 h.cX
theorem avX(h:af (ER A a b c d e q [.b (c==d) true])):
 cW 156 [a7.ref [D.J 4 A,I a,I b,D.J 8 C,D.J 6 E,D.J 5 F,D.J 3 G,B q] [D.J 4 A,I a,I b,D.J 8 C,D.J 6 E,D.J 5 F,D.J 3 G,B q],a7.ro (ag c),a7.ro (ag d)] (bi.vals [ak false]):=
 h.cX
theorem avY(h:af (ER A a c d e b q [.b (d==e) false,.a .sub,.x C b (b' f E g i j k),.r 260 [.agg (b' f E g i j k)] [.agg (b' l au m n o p),.agg (bz a0 ch de d0 cd),ak r],.n r true])):
 cW 156 [a7.ref [D.J 4 A,I a,I c,D.J 8 F,D.J 6 C,D.J 5 G,D.J 3 H,B q] [D.J 4 A,I a,I c,D.J 8 F,D.J 6 C,D.J 5 G,D.J 3 H,B q],a7.ro (ag d),a7.ro (ag e)] (bi.vals [ak false]):=
 h.cX
theorem avZ(h:af (ER Q i o ch a g r [.b (ch==a) false,.a .sub,.x M g (b' j R k l m n),.r 260 [.agg (b' j R k l m n)] [.agg (b' de eS d0 cd f0 i0),.agg (bz c b d e f),ak s],.n s false,.x M g (b' j R k l m n),.a .sub,.x A a (bb C E F G H au K L),.g C [(bz c b d e f)] 40,.e A a.toNat (bb C E F G H au K L),.p ((bb C E F G H au K L)[0]?=some (D.J 5 C)),.h [(bz c b d e f)],.p (A=A),.p (A=A),.p (A=A),.p (A=A),.p (A=A),.p (a.toNat=a.toNat),.p (C=C),.x A a (bb C E F G H au K L),.a .sub,.p (a.toNat=a.toNat),.p (0<=a),.p (a<(↑(A.set a.toNat (bb (C++[(bz c b d e f)]) E F G H au K L)).length:Int)),.e (A.set a.toNat (bb (C++[(bz c b d e f)]) E F G H au K L)) a.toNat (bb S bn V X Y N Z dK),.x N b [B t],.e (A.set a.toNat (bb (C++[(bz c b d e f)]) E F G H au K L)) a.toNat (bb S bn V X Y N Z dK),.a (.e3 [some [D.J 4 eH,I p,I a0,D.J 8 e9,D.J 6 fa,D.J 5 fs,D.J 3 ft,B q],none,none,none] (bi.vals [])),.p (a.toNat=a.toNat),.p (a.toNat=a.toNat),.p (cH prog 259 [a7.ref [D.J 4 Q,I i,I o,D.J 8 ((A.set a.toNat (bb (C++[(bz c b d e f)]) E F G H au K L)).set a.toNat (bb S bn V X Y (N.set b.toNat [B true]) Z dK)),D.J 6 (M.set g.toNat (b' de eS d0 cd f0 i0)),D.J 5 ku,D.J 3 lh,B r] [D.J 4 eH,I p,I a0,D.J 8 e9,D.J 6 fa,D.J 5 fs,D.J 3 ft,B q],a7.ro (ag a),a7.ro (ag b),a7.ro (ag (-1))] (bi.vals []))])):
 cW 156 [a7.ref [D.J 4 Q,I i,I o,D.J 8 A,D.J 6 M,D.J 5 ku,D.J 3 lh,B r] [D.J 4 eH,I p,I a0,D.J 8 e9,D.J 6 fa,D.J 5 fs,D.J 3 ft,B q],a7.ro (ag ch),a7.ro (ag a)] (bi.vals [ak true]):=
 h.cX
theorem Y3(h:af (Jl G a b A C E F q r H c d au K L M s e [.n r true])):
 cW 170 [a7.ref [D.J 4 H,I c,I d,D.J 8 au,D.J 6 K,D.J 5 L,D.J 3 M,B s] [D.J 4 G,I a,I b,D.J 8 A,D.J 6 C,D.J 5 E,D.J 3 F,B q],a7.ro (ag e)] (bi.vals [ak false]):=
 h.cX
theorem av0(h:af (ES G a b A C E F q r H d e K L M N s c Q au R S bn V X Y [.b (decide ((au.length:Int)>0)) true])):
 cW 170 [a7.ref [D.J 4 H,I d,I e,D.J 8 K,D.J 6 L,D.J 5 M,D.J 3 N,B s] [D.J 4 G,I a,I b,D.J 8 A,D.J 6 C,D.J 5 E,D.J 3 F,B q],a7.ro (ag c)] (bi.vals [ak false]):=
 h.cX
theorem av1(h:af (ET G a b A C E F q r H d e L M N Q s c au K R S bn V X Y [.b ((au.length:Int)==0) true])):
 cW 170 [a7.ref [D.J 4 H,I d,I e,D.J 8 L,D.J 6 M,D.J 5 N,D.J 3 Q,B s] [D.J 4 G,I a,I b,D.J 8 A,D.J 6 C,D.J 5 E,D.J 3 F,B q],a7.ro (ag c)] (bi.vals [ak false]):=
 h.cX
def abE(A:ah)(a b:Int)(C E F G:ah)(q r:Bool)(H:ah)(c d:Int)(au K L M:ah)(s:Bool)(e:Int)(N P Q R S bn V X:ah)(f g i j k:Int)(Y Z:ah)(t u:Bool)(l:List O):List O:=ET A a b C E F G q r H c d au K L M s e N P Q R S bn V X (.b ((N.length:Int)==0) false::.p ((0:Int)<=0)::.p (0<(N.length:Int))::.e N 0 (bz f g i j k)::.r 176 [.agg (bg A a b),aE 4 R,.agg (bz f g i j k)] [aE 4 Y,aE 5 Z,ak t]::.p ((0:Int)<=(some (1:Int)).getD 0)::.p ((some (1:Int)).getD 0<=none.getD (N.length:Int))::.p (none.getD (N.length:Int)<=(N.length:Int))::.g ([]:ah) (List.take (N.length-1) (List.drop 1 N)) 40::.h (List.take (N.length-1) (List.drop 1 N))::.r 177 [.agg (bg A a b),.agg (bz f g i j k)] [ak u]::l)
theorem av2(h:af (abE M c d E N Q R q r S j k bn Y Z dK t a A F G H au K C L e b f g i V X u s [.b s true,.x C b [B v],.e E a.toNat (bb A F G H au K C L),.p (a.toNat=a.toNat),.p (a.toNat=a.toNat),.p (a.toNat=a.toNat),.p (a.toNat=a.toNat),.x (E.set a.toNat (bb A F G H au K (C.set b.toNat [B true]) L)) a (bb A F G H au K (C.set b.toNat [B true]) L),.p (a.toNat=a.toNat),.p (a.toNat=a.toNat),.p (a.toNat=a.toNat),.p (a.toNat=a.toNat),.p (a.toNat=a.toNat)])):
 cW 170 [a7.ref [D.J 4 S,I j,I k,D.J 8 bn,D.J 6 Y,D.J 5 Z,D.J 3 dK,B t] [D.J 4 M,I c,I d,D.J 8 ((E.set a.toNat (bb A F G H au K (C.set b.toNat [B true]) L)).set a.toNat (bb ([]++List.take (A.length-1) (List.drop 1 A)) X G V au K (C.set b.toNat [B true]) L)),D.J 6 N,D.J 5 Q,D.J 3 R,B q],a7.ro (ag a)] (bi.vals [ak true]):=
 h.cX
theorem av3(h:af (abE E b c C F G H q r S j k bn Y Z dK t a A au K L M N Q R d e f g i V X u s [.b s false,.x C a (bb A au K L M N Q R),.p (a.toNat=a.toNat),.p (a.toNat=a.toNat),.p (a.toNat=a.toNat),.p (a.toNat=a.toNat),.p (a.toNat=a.toNat)])):
 cW 170 [a7.ref [D.J 4 S,I j,I k,D.J 8 bn,D.J 6 Y,D.J 5 Z,D.J 3 dK,B t] [D.J 4 E,I b,I c,D.J 8 (C.set a.toNat (bb ([]++List.take (A.length-1) (List.drop 1 A)) X K V M N Q R)),D.J 6 F,D.J 5 G,D.J 3 H,B q],a7.ro (ag a)] (bi.vals [ak true]):=
 h.cX
theorem av4(h:af [.b (e==1) true,.a (.e3 [some [D.J 4 A,I a,I b,D.J 8 C,D.J 6 E,D.J 5 F,D.J 3 G,B q],none] (bi.vals [ak r])),.p (cH prog 170 [a7.ref [D.J 4 H,I c,I d,D.J 8 au,D.J 6 K,D.J 5 L,D.J 3 M,B s] [D.J 4 A,I a,I b,D.J 8 C,D.J 6 E,D.J 5 F,D.J 3 G,B q],a7.ro (ag f)] (bi.vals [ak r]))]):
 cW 128 [a7.ref [D.J 4 H,I c,I d,D.J 8 au,D.J 6 K,D.J 5 L,D.J 3 M,B s] [D.J 4 A,I a,I b,D.J 8 C,D.J 6 E,D.J 5 F,D.J 3 G,B q],a7.ro (.agg [I e,I f,I g])] (bi.vals [ak r]):=
 h.cX
theorem av5(h:af [.b (c==1) false,.b (c==2) true,.a (.e3 [some [D.J 4 A,I a,I b,D.J 8 C,D.J 6 E,D.J 5 F,D.J 3 G,B q],none] (bi.vals [ak r])),.p (cH prog 171 [a7.ref [D.J 4 H,I d,I e,D.J 8 au,D.J 6 K,D.J 5 L,D.J 3 M,B s] [D.J 4 A,I a,I b,D.J 8 C,D.J 6 E,D.J 5 F,D.J 3 G,B q],a7.ro (ag f)] (bi.vals [ak r]))]):
 cW 128 [a7.ref [D.J 4 H,I d,I e,D.J 8 au,D.J 6 K,D.J 5 L,D.J 3 M,B s] [D.J 4 A,I a,I b,D.J 8 C,D.J 6 E,D.J 5 F,D.J 3 G,B q],a7.ro (.agg [I c,I f,I g])] (bi.vals [ak r]):=
 h.cX
def abF(a:Int)(l:List O):List O:=.b (a==1) false::.b (a==2) false::l
theorem av6(h:af (abF a [.b (a==3) true,.a (.e3 [some [D.J 4 A,I b,I c,D.J 8 C,D.J 6 E,D.J 5 F,D.J 3 G,B q],none] (bi.vals [ak r])),.p (cH prog 151 [a7.ref [D.J 4 H,I d,I e,D.J 8 au,D.J 6 K,D.J 5 L,D.J 3 M,B s] [D.J 4 A,I b,I c,D.J 8 C,D.J 6 E,D.J 5 F,D.J 3 G,B q],a7.ro (ag f)] (bi.vals [ak r]))])):
 cW 128 [a7.ref [D.J 4 H,I d,I e,D.J 8 au,D.J 6 K,D.J 5 L,D.J 3 M,B s] [D.J 4 A,I b,I c,D.J 8 C,D.J 6 E,D.J 5 F,D.J 3 G,B q],a7.ro (.agg [I a,I f,I g])] (bi.vals [ak r]):=
 h.cX
def EW(a:Int)(l:List O):List O:=abF a (.b (a==3) false::l)
theorem av7(h:af (EW a [.b (a==4) true,.a (.e3 [some [D.J 4 A,I b,I c,D.J 8 C,D.J 6 E,D.J 5 F,D.J 3 G,B q],none,none] (bi.vals [ak r])),.p (cH prog 156 [a7.ref [D.J 4 H,I d,I f,D.J 8 au,D.J 6 K,D.J 5 L,D.J 3 M,B s] [D.J 4 A,I b,I c,D.J 8 C,D.J 6 E,D.J 5 F,D.J 3 G,B q],a7.ro (ag g),a7.ro (ag e)] (bi.vals [ak r]))])):
 cW 128 [a7.ref [D.J 4 H,I d,I f,D.J 8 au,D.J 6 K,D.J 5 L,D.J 3 M,B s] [D.J 4 A,I b,I c,D.J 8 C,D.J 6 E,D.J 5 F,D.J 3 G,B q],a7.ro (.agg [I a,I g,I e])] (bi.vals [ak r]):=
 h.cX
theorem av8(h:af (EW a [.b (a==4) false,.b (a==5) true,.a (.e3 [some [D.J 4 A,I b,I c,D.J 8 C,D.J 6 E,D.J 5 F,D.J 3 G,B q],none,none] (bi.vals [ak r])),.p (cH prog 158 [a7.ref [D.J 4 H,I d,I f,D.J 8 au,D.J 6 K,D.J 5 L,D.J 3 M,B s] [D.J 4 A,I b,I c,D.J 8 C,D.J 6 E,D.J 5 F,D.J 3 G,B q],a7.ro (ag g),a7.ro (ag e)] (bi.vals [ak r]))])):
 cW 128 [a7.ref [D.J 4 H,I d,I f,D.J 8 au,D.J 6 K,D.J 5 L,D.J 3 M,B s] [D.J 4 A,I b,I c,D.J 8 C,D.J 6 E,D.J 5 F,D.J 3 G,B q],a7.ro (.agg [I a,I g,I e])] (bi.vals [ak r]):=
 h.cX
def EX(a:Int)(l:List O):List O:=EW a (.b (a==4) false::.b (a==5) false::l)
theorem av9(h:af (EX a [.b (a==6) true,.a (.e3 [some [D.J 4 A,I b,I c,D.J 8 C,D.J 6 E,D.J 5 F,D.J 3 G,B q],none] (bi.vals [ak r])),.p (cH prog 246 [a7.ref [D.J 4 H,I d,I e,D.J 8 au,D.J 6 K,D.J 5 L,D.J 3 M,B s] [D.J 4 A,I b,I c,D.J 8 C,D.J 6 E,D.J 5 F,D.J 3 G,B q],a7.ro (ag f)] (bi.vals [ak r]))])):
 cW 128 [a7.ref [D.J 4 H,I d,I e,D.J 8 au,D.J 6 K,D.J 5 L,D.J 3 M,B s] [D.J 4 A,I b,I c,D.J 8 C,D.J 6 E,D.J 5 F,D.J 3 G,B q],a7.ro (.agg [I a,I f,I g])] (bi.vals [ak r]):=
 h.cX
theorem awa(h:af (EX a [.b (a==6) false,.b (a==7) true,.a (.e3 [some [D.J 4 A,I b,I c,D.J 8 C,D.J 6 E,D.J 5 F,D.J 3 G,B q],none] (bi.vals [ak r])),.p (cH prog 247 [a7.ref [D.J 4 H,I d,I e,D.J 8 au,D.J 6 K,D.J 5 L,D.J 3 M,B s] [D.J 4 A,I b,I c,D.J 8 C,D.J 6 E,D.J 5 F,D.J 3 G,B q],a7.ro (ag f)] (bi.vals [ak r]))])):
 cW 128 [a7.ref [D.J 4 H,I d,I e,D.J 8 au,D.J 6 K,D.J 5 L,D.J 3 M,B s] [D.J 4 A,I b,I c,D.J 8 C,D.J 6 E,D.J 5 F,D.J 3 G,B q],a7.ro (.agg [I a,I f,I g])] (bi.vals [ak r]):=
 h.cX
theorem awb(h:af (EX a [.b (a==6) false,.b (a==7) false])):
 cW 128 [a7.ref [D.J 4 A,I b,I c,D.J 8 C,D.J 6 E,D.J 5 F,D.J 3 G,B q] [D.J 4 A,I b,I c,D.J 8 C,D.J 6 E,D.J 5 F,D.J 3 G,B q],a7.ro (.agg [I a,I e,I d])] (bi.vals [ak false]):=
 h.cX
def xU(A:ah)(a b:Int)(C:ah)(c d:Int)(E F G H:ah)(q:Bool):aD:=ba 22 [(0,a1 1000000000),(1,.aR (.one (.e5 1000000200 3 A))),(5,aY b),(6,aY a)] [(1000000000,[aK 950001000 4 C,az c,az d,aK 950001003 8 E,aK 950001004 6 F,aK 950001005 5 G,aK 950001006 3 H,.bR q])]
theorem awc(h:af (Rg H a g i j A c d C E F G q r au e f K L M N s [.b r true,.u b,.u a])):
 aT (ap f131 0) (xU H a b au e f K L M N s) .normal (xU H (a+1) (b+1) A c d C E F G q):=
 h.uu [(1000000001000000,950001000,4),(1000000001000003,950001003,8),(1000000001000004,950001004,6),(1000000001000005,950001005,5),(1000000001000006,950001006,3)] [6,1,0,5] [1000000000]
theorem awd(h:af (Rg H a g i j A b c C E F G q r au e f K L M N s [.b r false,.u a])):
 aT (ap f131 0) (xU H a d au e f K L M N s) .normal (xU H (a+1) d A b c C E F G q):=
 h.uu [(1000000001000000,950001000,4),(1000000001000003,950001003,8),(1000000001000004,950001004,6),(1000000001000005,950001005,5),(1000000001000006,950001006,3)] [6,1,0,5] [1000000000]
def Y4(a:Int)(A:ah)(b c:Int)(C E F G:ah)(q:Bool):aD:=ba 22 [(0,a1 1000000000),(5,aY a)] [(1000000000,[aK 950001000 4 A,az b,az c,aK 950001003 8 C,aK 950001004 6 E,aK 950001005 5 F,aK 950001006 3 G,.bR q])]
theorem awe(h:af [.f H d false]):
 aT (ap f131 0) (xU H d a A b c C E F G q) (.exit 0) (Y4 a A b c C E F G q):=
 h.aQ [5,0] [1000000000]
theorem awf(h:af [.l [(1000000001000000,950001000,4),(1000000001000003,950001003,8),(1000000001000004,950001004,6),(1000000001000005,950001005,5),(1000000001000006,950001006,3)] [6,1,0,5] [1000000000] (ap f131 0) (xU N 0 0 A a d au K L M r) (.exit 0) (Y4 e C b c E F G H q)]):
 cW 131 [a7.ref [D.J 4 A,I a,I d,D.J 8 au,D.J 6 K,D.J 5 L,D.J 3 M,B r] [D.J 4 C,I b,I c,D.J 8 E,D.J 6 F,D.J 5 G,D.J 3 H,B q],a7.ro (aE 3 N)] (bi.vals [ag e]):=
 h.cX
