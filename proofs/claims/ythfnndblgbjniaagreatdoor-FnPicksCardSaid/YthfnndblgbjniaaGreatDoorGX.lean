import Derived.Test.YthfnndblgbjniaaGreatDoorGE
namespace Go.Proofs.YthfnndblgbjniaaGreatDoor
open Go.Sx Go.RowKit Go.Proofs.Tryz
variable {a b c d e f g i j k l m n o p a0 b6 cS d0 bz f0 i0 j0 dk : Int} {A C E F G H ah K L M N Q R S a1 V X Y Z c9 ej ew fi fj fk eF iC iD jG jH jI lj lk : af} {q r s t u v : Bool}
def qN(a:Int)(A:af)(b c d e f:Int)(C:af)(g i j k:Int)(q:Bool)(l:List O):List O:=.r 137 [.agg (bT a A b c d e)] [.agg (bT f C g i j k)]::.r 140 [.agg (bT f C g i j k)] [ai q]::l
theorem ak1(h:ae (qN f C g i j k c A d e a b q [.n q true])):
 al 163 [.agg (bT f C g i j k)] [.agg (bT c A d e a b),ai false]:=
 h.of
theorem ak2(h:ae (qN f C g i j k d A e a b c q [.n q false,.b (a==0) true])):
 al 163 [.agg (bT f C g i j k)] [.agg (bT d A e a b c),ai false]:=
 h.of
theorem ak3(h:ae (qN f C g i j k e A b a c d q [.n q false,.b (a==0) false,.v (a-1),.u b])):
 al 163 [.agg (bT f C g i j k)] [.agg (bT e A (b+1) (a-1) c d),ai true]:=
 h.of
def uJ(A:af)(a d:Int)(C:af)(e f:Int)(E F G H:af)(q:Bool)(b c:Int):aF:=bf 34 [(1,aU a),(4,aS 4),(6,aS 10),(7,aG.aC (bl.one (aw 130000 3 A))),(8,aU d)] [(10,[aw 900011000 4 C,au e,au f,aw 900011003 8 E,aw 900011004 6 F,aw 900011005 5 G,aw 900011006 3 H,.bg q]),(4,[.v (aP),au b,au c,.v (aP),.v (aP),.v (aP),.v (aP)])]
def L7(a:Int)(A:af)(b c:Int)(C E F G:af):aF:=bf 34 [(4,aS 4),(5,aU a)] [(4,[aw 235000 4 A,au b,au c,aw 235003 8 C,aw 235004 6 E,aw 235005 5 F,aw 235006 3 G])]
def Xf(a b:Int)(A:af)(c d:Int)(C E F G:af)(q:Bool)(e:Int)(H:af)(f g:Int)(ah K L M:af)(r:Bool)(N:af)(l:List O):List O:=.b (decide (a<=b)) true::.a (.dB [some [D.J 4 A,I c,I d,D.J 8 C,D.J 6 E,D.J 5 F,D.J 3 G,B q],none] (aV.vals [ag e]))::.p (b3 prog 73 [aM.ref [D.J 4 H,I f,I g,D.J 8 ah,D.J 6 K,D.J 5 L,D.J 3 M,B r] [D.J 4 A,I c,I d,D.J 8 C,D.J 6 E,D.J 5 F,D.J 3 G,B q],aM.ro (aO 3 N)] (aV.vals [ag e]))::l
theorem aku(h:ae (Xf a e A b c C E F G r d ah f g K L M N q H [.b (d==0) true])):
 aY (ap f35 0) (uJ H e a ah f g K L M N q i j) .ret (L7 a A b c C E F G):=
 h.aT [4,5] [4]
theorem UN(h:ae (Xf a b C c d E F G H q e ah f g K L M N r A [.b (e==0) false,.u a])):
 aY (ap f35 0) (uJ A b a ah f g K L M N r i j) .normal (uJ A b (a+1) C c d E F G H q i j):=
 h.oi [(11000000,900011000,4),(11000003,900011003,8),(11000004,900011004,6),(11000005,900011005,5),(11000006,900011006,3)] [8,1,6,7,4] [10,4]
def L8(a:Int)(A:af)(c d:Int)(C E F G:af)(q:Bool)(e b:Int):aF:=bf 34 [(1,aU a),(4,aS 4),(6,aS 10)] [(10,[aw 900011000 4 A,au c,au d,aw 900011003 8 C,aw 900011004 6 E,aw 900011005 5 F,aw 900011006 3 G,.bg q]),(4,[.v (aP),au e,au b,.v (aP),.v (aP),.v (aP),.v (aP)])]
theorem akv(h:ae [.b (decide (b<=a)) false]):
 aY (ap f35 0) (uJ H a b A c d C E F G q e f) (.exit 0) (L8 a A c d C E F G q e f):=
 h.aT [6,1,4] [10,4]
def Xg(A:af)(a b:Int)(C E F G:af)(q:Bool)(l:List O):List O:=.a (.dB [none] (aV.new [D.J 4 A,I a,I b,D.J 8 C,D.J 6 E,D.J 5 F,D.J 3 G,B q]))::l
def Nw(A:af)(a b:Int)(C E F G:af)(q:Bool)(H:af)(c d:Int)(ah K L M:af)(l:List O):List O:=Xg A a b C E F G q (.p (b3 prog 44 [aM.ro (.agg (a8 H c d ah K L M))] (aV.new [D.J 4 A,I a,I b,D.J 8 C,D.J 6 E,D.J 5 F,D.J 3 G,B q]))::l)
theorem akw(h:ae (Nw M d b C E F G q A a c H ah K L [.r 31 [.agg (a8 A a c H ah K L)] [aO 3 N],.r 68 [ag j,ag 0,ag 3000] [ag e],.l [(11000000,900011000,4),(11000003,900011003,8),(11000004,900011004,6),(11000005,900011005,5),(11000006,900011006,3)] [8,1,6,7,4] [10,4] (ap f35 0) (uJ N e 1 M d b C E F G q 0 0) .ret (L7 f Q g i R S a1 V)])):
 al 35 [.agg (a8 A a c H ah K L),ag j] [.agg (a8 Q g i R S a1 V),ag f]:=
 h.of
theorem akx(h:ae (Nw M e c C E F G q A b d H ah K L [.r 31 [.agg (a8 A b d H ah K L)] [aO 3 N],.r 68 [ag i,ag 0,ag 3000] [ag a],.l [(11000000,900011000,4),(11000003,900011003,8),(11000004,900011004,6),(11000005,900011005,5),(11000006,900011006,3)] [8,1,6,7,4] [10,4] (ap f35 0) (uJ N a 1 M e c C E F G q 0 0) (.exit 0) (L8 a Q f g R S a1 V r j k)])):
 al 35 [.agg (a8 A b d H ah K L),ag i] [.agg (a8 Q f g R S a1 V),ag a]:=
 h.of
def Gc(a b:Int)(q:Bool)(l:List O):List O:=.a .wr::.r 65 [ag a,ag 0,ag (IntKind.i64.wrap (b-1))] [ai q]::l
theorem UO(h:ae (Gc b a q [.n q true])):
 al 159 [.agg (bq A a c),ag b,ag d] [ag (-1)]:=
 h.of
def B2(a b:Int)(q:Bool)(c:Int)(r:Bool)(l:List O):List O:=Gc a b q (.n q false::.a .wr::.r 65 [ag c,ag 0,ag (IntKind.i64.wrap (b-1))] [ai r]::l)
theorem UP(h:ae (B2 b a q c r [.n r true])):
 al 159 [.agg (bq A a d),ag b,ag c] [ag (-1)]:=
 h.of
theorem aky(h:ae (B2 b a q c r [.n r false,.b (decide (a<1)) true])):
 al 159 [.agg (bq A a d),ag b,ag c] [ag (-1)]:=
 h.of
theorem UQ(h:ae (B2 b a q c r [.n r false,.b (decide (a<1)) false,.a .wr,.a .wr])):
 al 159 [.agg (bq A a d),ag b,ag c] [ag (IntKind.i64.wrap (IntKind.i64.wrap (b*a)+c))]:=
 h.of
def x0(A:af)(a:Int)(C E:af)(d e:Int)(F G H ah:af)(q:Bool)(b c:Int):aF:=bf 32 [(1,du 3 A),(4,aS 4),(6,aS 10),(7,aG.aC (bl.one (aw 11 1 C))),(8,aU a)] [(10,[aw 900011000 4 E,au d,au e,aw 900011003 8 F,aw 900011004 6 G,aw 900011005 5 H,aw 900011006 3 ah,.bg q]),(4,[.v (aP),au b,au c,.v (aP),.v (aP),.v (aP),.v (aP)])]
def NB(A:af)(a b c d:Int)(C:af)(e f:Int)(E F G H:af)(q r:Bool)(ah:af)(g i:Int)(K L M N:af)(s:Bool)(l:List O):List O:=.i A a [I b,I c,I d]::.a (.dB [some [D.J 4 C,I e,I f,D.J 8 E,D.J 6 F,D.J 5 G,D.J 3 H,B q],none] (aV.vals [ai r]))::.p (b3 prog 63 [aM.ref [D.J 4 ah,I g,I i,D.J 8 K,D.J 6 L,D.J 5 M,D.J 3 N,B s] [D.J 4 C,I e,I f,D.J 8 E,D.J 6 F,D.J 5 G,D.J 3 H,B q],aM.ro (.agg [I b,I c,I d])] (aV.vals [ai r]))::l
theorem akz(h:ae (NB ah a i j k C b c E F G H r q K d e L M N Q s [.g A [[B q]] 1,.h [[B q]],.u a])):
 aY (ap f119 0) (x0 ah a A K d e L M N Q s f g) .normal (x0 ah (a+1) (A++[[B q]]) C b c E F G H r f g):=
 h.oi [(11000000,900011000,4),(11000003,900011003,8),(11000004,900011004,6),(11000005,900011005,5),(11000006,900011006,3)] [8,1,7,6,4] [10,4]
def L9(A C:af)(b c:Int)(E F G H:af)(q:Bool)(d a:Int):aF:=bf 32 [(4,aS 4),(6,aS 10),(7,aG.aC (bl.one (aw 11 1 A)))] [(10,[aw 900011000 4 C,au b,au c,aw 900011003 8 E,aw 900011004 6 F,aw 900011005 5 G,aw 900011006 3 H,.bg q]),(4,[.v (aP),au d,au a,.v (aP),.v (aP),.v (aP),.v (aP)])]
theorem akA(h:ae [.f ah a false]):
 aY (ap f119 0) (x0 ah a A C b c E F G H q d e) (.exit 0) (L9 A C b c E F G H q d e):=
 h.aT [6,7,4] [10,4]
theorem akB(h:ae (Nw G b a A C E F q H c f R S a1 V [.l [(11000000,900011000,4),(11000003,900011003,8),(11000004,900011004,6),(11000005,900011005,5),(11000006,900011006,3)] [8,1,7,6,4] [10,4] (ap f119 0) (x0 X 0 [] G b a A C E F q 0 0) (.exit 0) (L9 ah K d e L M N Q r g i)])):
 al 119 [.agg (a8 H c f R S a1 V),aO 3 X] [.agg (a8 K d e L M N Q),aO 1 ah]:=
 h.of
theorem akC(h:ae (qN f C g i j k a A b c d e q [.n q true])):
 al 160 [.agg (bT f C g i j k),.agg (bj m n o p l)] [.agg (bT a A b c d e),ai false]:=
 h.of
theorem akD(h:ae (qN f C i j k l a A b c d e q [.n q false,.r 167 [.agg (bj m n o p g)] [ai r],.n r true])):
 al 160 [.agg (bT f C i j k l),.agg (bj m n o p g)] [.agg (bT a A b c d e),ai false]:=
 h.of
theorem al6(h:ae (qN f C i j k l b A a c d e q [.n q false,.r 167 [.agg (bj m n o p g)] [ai r],.n r false,.b (a==0) true])):
 al 160 [.agg (bT f C i j k l),.agg (bj m n o p g)] [.agg (bT b A a c d e),ai false]:=
 h.of
theorem al7(h:ae (qN f C i j k l c A a d b e q [.n q false,.r 167 [.agg (bj m n o p g)] [ai r],.n r false,.b (a==0) false,.b (decide (b>=1000000000)) true])):
 al 160 [.agg (bT f C i j k l),.agg (bj m n o p g)] [.agg (bT c A a d b e),ai false]:=
 h.of
theorem al8(h:ae (qN l C m n o p i A b j c k q [.n q false,.r 167 [.agg (bj d e f g a)] [ai r],.n r false,.b (b==0) false,.b (decide (c>=1000000000)) false,.g A [(bj d e f g a)] 40,.h [(bj d e f g a)],.v (b-1),.u c])):
 al 160 [.agg (bT l C m n o p),.agg (bj d e f g a)] [.agg (bT i (A++[(bj d e f g a)]) (b-1) j (c+1) k),ai true]:=
 h.of
theorem al9(h:ae (Xg A a b C E F G q [.a (.dB [some [D.J 4 H,I c,I d,D.J 8 ah,D.J 6 K,D.J 5 L,D.J 3 M,B s],none] (aV.vals [ai r])),.p (b3 prog 44 [aM.ro (.agg (a8 N e f Q R S a1))] (aV.new [D.J 4 A,I a,I b,D.J 8 C,D.J 6 E,D.J 5 F,D.J 3 G,B q])),.p (b3 prog 63 [aM.ref [D.J 4 A,I a,I b,D.J 8 C,D.J 6 E,D.J 5 F,D.J 3 G,B q] [D.J 4 H,I c,I d,D.J 8 ah,D.J 6 K,D.J 5 L,D.J 3 M,B s],aM.ro (.agg [I g,I i,I j])] (aV.vals [ai r]))])):
 al 24 [.agg (a8 N e f Q R S a1),.agg [I g,I i,I j]] [.agg (a8 H c d ah K L M),ai r]:=
 h.of
theorem ama(h:ae (qN f C g i j k c A d e a b q [.n q true])):
 al 162 [.agg (bT f C g i j k)] [.agg (bT c A d e a b),.agg (bj 0 0 0 0 0),ai false]:=
 h.of
theorem amb(h:ae (qN f C g i j k c A d e a b q [.n q false,.b ((A.length:Int)==0) true])):
 al 162 [.agg (bT f C g i j k)] [.agg (bT c A d e a b),.agg (bj 0 0 0 0 0),ai false]:=
 h.of
theorem amc(h:ae (qN f C m n o p d A e b c a q [.n q false,.b ((A.length:Int)==0) false,.p ((0:Int)<=0),.p (0<(A.length:Int)),.e A 0 (bj g i j k l),.p ((0:Int)<=(some (1:Int)).getD 0),.p ((some (1:Int)).getD 0<=none.getD (A.length:Int)),.p (none.getD (A.length:Int)<=(A.length:Int)),.g ([]:af) (List.take (A.length-1) (List.drop 1 A)) 40,.h (List.take (A.length-1) (List.drop 1 A)),.u a,.u b])):
 al 162 [.agg (bT f C m n o p)] [.agg (bT d ([]++List.take (A.length-1) (List.drop 1 A)) e (b+1) c (a+1)),.agg (bj g i j k l),ai true]:=
 h.of
def B3(A:af)(a b c d e:Int)(l:List O):List O:=.r 159 [.agg (bq A a b),ag c,ag d] [ag e]::l
theorem amd(h:ae (B3 A a b c d e [.n q true])):
 b9 114 [aM.ref [D.J 4 A,I a,I b,D.J 8 C,D.J 6 E,D.J 5 F,D.J 3 G,B q] [D.J 4 A,I a,I b,D.J 8 C,D.J 6 E,D.J 5 F,D.J 3 G,B q],aM.ro (ag c),aM.ro (ag d)] (aV.vals [ai false]):=
 h.b'
theorem ame(h:ae (B3 A a b d e c [.n q false,.b (decide (c<0)) true])):
 b9 114 [aM.ref [D.J 4 A,I a,I b,D.J 8 C,D.J 6 E,D.J 5 F,D.J 3 G,B q] [D.J 4 A,I a,I b,D.J 8 C,D.J 6 E,D.J 5 F,D.J 3 G,B q],aM.ro (ag d),aM.ro (ag e)] (aV.vals [ai false]):=
 h.b'
def wK(A:af)(a b c d e:Int)(q:Bool)(l:List O):List O:=B3 A a b c d e (.n q false::.b (decide (e<0)) false::l)
theorem amf(h:ae (wK A a b c d e q [.b (c==d) true])):
 b9 114 [aM.ref [D.J 4 A,I a,I b,D.J 8 C,D.J 6 E,D.J 5 F,D.J 3 G,B q] [D.J 4 A,I a,I b,D.J 8 C,D.J 6 E,D.J 5 F,D.J 3 G,B q],aM.ro (ag c),aM.ro (ag d)] (aV.vals [ai false]):=
 h.b'
theorem amg(h:ae (wK C b i j k a q [.b (j==k) false,.a .sub,.x A a (bT c E d e f g),.r 163 [.agg (bT c E d e f g)] [.agg (bT l F m n o p),ai r],.x A a (bT c E d e f g)])):
 b9 114 [aM.ref [D.J 4 C,I b,I i,D.J 8 G,D.J 6 A,D.J 5 H,D.J 3 ah,B q] [D.J 4 C,I b,I i,D.J 8 G,D.J 6 (A.set a.toNat (bT l F m n o p)),D.J 5 H,D.J 3 ah,B q],aM.ro (ag j),aM.ro (ag k)] (aV.vals [ai r]):=
 h.b'
def yB(A:af)(a b:Int)(C E F G:af)(q r:Bool)(H:af)(c d:Int)(ah K L M:af)(s:Bool)(e:Int)(l:List O):List O:=.a (.dB [some [D.J 4 A,I a,I b,D.J 8 C,D.J 6 E,D.J 5 F,D.J 3 G,B q],none] (aV.vals [ai r]))::.p (b3 prog 155 [aM.ref [D.J 4 H,I c,I d,D.J 8 ah,D.J 6 K,D.J 5 L,D.J 3 M,B s] [D.J 4 A,I a,I b,D.J 8 C,D.J 6 E,D.J 5 F,D.J 3 G,B q],aM.ro (ag e)] (aV.vals [ai r]))::l
theorem UR(h:ae (yB G a b A C E F q r H c d ah K L M s e [.n r true])):
 b9 111 [aM.ref [D.J 4 H,I c,I d,D.J 8 ah,D.J 6 K,D.J 5 L,D.J 3 M,B s] [D.J 4 G,I a,I b,D.J 8 A,D.J 6 C,D.J 5 E,D.J 3 F,B q],aM.ro (ag e)] (aV.vals [ai false]):=
 h.b'
def B4(A:af)(a b:Int)(C E F G:af)(q r:Bool)(H:af)(c d:Int)(ah K L M:af)(s:Bool)(e:Int)(N P Q R S a1 V X:af)(l:List O):List O:=yB A a b C E F G q r H c d ah K L M s e (.n r false::.a .sub::.x C e (aX N P Q R S a1 V X)::l)
theorem amh(h:ae (B4 G a b A C E F q r H d e K L M N s c Q ah R S a1 V X Y [.b (decide ((ah.length:Int)>0)) true])):
 b9 111 [aM.ref [D.J 4 H,I d,I e,D.J 8 K,D.J 6 L,D.J 5 M,D.J 3 N,B s] [D.J 4 G,I a,I b,D.J 8 A,D.J 6 C,D.J 5 E,D.J 3 F,B q],aM.ro (ag c)] (aV.vals [ai false]):=
 h.b'
def B5(A:af)(a b:Int)(C E F G:af)(q r:Bool)(H:af)(c d:Int)(ah K L M:af)(s:Bool)(e:Int)(N P Q R S a1 V X:af)(l:List O):List O:=B4 A a b C E F G q r H c d ah K L M s e N P Q R S a1 V X (.b (decide ((P.length:Int)>0)) false::l)
theorem ami(h:ae (B5 G a b A C E F q r H d e L M N Q s c ah K R S a1 V X Y [.b (decide ((ah.length:Int)>0)) true])):
 b9 111 [aM.ref [D.J 4 H,I d,I e,D.J 8 L,D.J 6 M,D.J 5 N,D.J 3 Q,B s] [D.J 4 G,I a,I b,D.J 8 A,D.J 6 C,D.J 5 E,D.J 3 F,B q],aM.ro (ag c)] (aV.vals [ai false]):=
 h.b'
theorem amj(h:ae (B5 G a b A C E F q r H d e M N Q R s c ah K L S a1 V X Y [.b (decide ((ah.length:Int)>0)) false,.b ((L.length:Int)==0) true])):
 b9 111 [aM.ref [D.J 4 H,I d,I e,D.J 8 M,D.J 6 N,D.J 5 Q,D.J 3 R,B s] [D.J 4 G,I a,I b,D.J 8 A,D.J 6 C,D.J 5 E,D.J 3 F,B q],aM.ro (ag c)] (aV.vals [ai false]):=
 h.b'
theorem amk(h:ae (B5 R b c C F G H q r S d e a1 V X Y s a ah E A K L M N Q [.b (decide ((ah.length:Int)>0)) false,.b ((A.length:Int)==0) false,.p ((0:Int)<=0),.p (0<(A.length:Int)),.e A 0 (bj f g i j k),.p ((0:Int)<=(some (1:Int)).getD 0),.p ((some (1:Int)).getD 0<=none.getD (A.length:Int)),.p (none.getD (A.length:Int)<=(A.length:Int)),.g ([]:af) (List.take (A.length-1) (List.drop 1 A)) 40,.h (List.take (A.length-1) (List.drop 1 A)),.x C a (aX ah E A K L M N Q),.p (a.toNat=a.toNat),.p (a.toNat=a.toNat),.p (a.toNat=a.toNat),.p (a.toNat=a.toNat),.p (a.toNat=a.toNat),.p (a.toNat=a.toNat)])):
 b9 111 [aM.ref [D.J 4 S,I d,I e,D.J 8 a1,D.J 6 V,D.J 5 X,D.J 3 Y,B s] [D.J 4 R,I b,I c,D.J 8 (C.set a.toNat [D.J 5 [(bj f g i j k)],D.J 5 E,D.J 5 ([]++List.take (A.length-1) (List.drop 1 A)),D.J 4 K,D.J 1 L,D.J 1 M,D.J 1 N,D.J 2 Q]),D.J 6 F,D.J 5 G,D.J 3 H,B q],aM.ro (ag a)] (aV.vals [ai true]):=
 h.b'
theorem US(h:ae [.b q true,.v ((A.length:Int)-1),.r 65 [ag c,ag 0,ag ((A.length:Int)-1)] [ai r]]):
 b9 155 [aM.ref [D.J 4 C,I a,I b,D.J 8 A,D.J 6 E,D.J 5 F,D.J 3 G,B q] [D.J 4 C,I a,I b,D.J 8 A,D.J 6 E,D.J 5 F,D.J 3 G,B q],aM.ro (ag c)] (aV.vals [ai r]):=
 h.b'
theorem aml(h:ae [.b q false]):
 b9 155 [aM.ref [D.J 4 A,I a,I b,D.J 8 C,D.J 6 E,D.J 5 F,D.J 3 G,B q] [D.J 4 A,I a,I b,D.J 8 C,D.J 6 E,D.J 5 F,D.J 3 G,B q],aM.ro (ag c)] (aV.vals [ai false]):=
 h.b'
theorem UT(h:ae (yB G a b A C E F q r H c d ah K L M s e [.n r true])):
 b9 112 [aM.ref [D.J 4 H,I c,I d,D.J 8 ah,D.J 6 K,D.J 5 L,D.J 3 M,B s] [D.J 4 G,I a,I b,D.J 8 A,D.J 6 C,D.J 5 E,D.J 3 F,B q],aM.ro (ag e)] (aV.vals [ai false]):=
 h.b'
theorem amm(h:ae (B4 G a b A C E F q r H d e K L M N s c Q ah R S a1 V X Y [.b ((ah.length:Int)==0) true])):
 b9 112 [aM.ref [D.J 4 H,I d,I e,D.J 8 K,D.J 6 L,D.J 5 M,D.J 3 N,B s] [D.J 4 G,I a,I b,D.J 8 A,D.J 6 C,D.J 5 E,D.J 3 F,B q],aM.ro (ag c)] (aV.vals [ai false]):=
 h.b'
def NC(A:af)(a b:Int)(C E F G:af)(q r:Bool)(H:af)(c d:Int)(ah K L M:af)(s:Bool)(e:Int)(N P Q R S a1 V X:af)(f g i j k m:Int)(l:List O):List O:=B4 A a b C E F G q r H c d ah K L M s e N P Q R S a1 V X (.b ((P.length:Int)==0) false::.a .sub::.x C e (aX N P Q R S a1 V X)::.p ((0:Int)<=0)::.p (0<(P.length:Int))::.e P 0 (bj f g i j k)::.r 158 [ag j,ag a] [ag m]::l)
theorem amn(h:ae (NC F b c A E G H q r ah f g a1 X Y Z t a K C L M N Q R S i j k d l e [.b (e != a) true,.r 159 [.agg (bq F b c),ag a,ag e] [ag m],.a .sub,.x E m (bT n V o p a0 b6),.r 160 [.agg (bT n V o p a0 b6),.agg (bj i j k d l)] [.agg (bT cS c9 d0 bz f0 i0),ai s],.n s true])):
 b9 112 [aM.ref [D.J 4 ah,I f,I g,D.J 8 a1,D.J 6 X,D.J 5 Y,D.J 3 Z,B t] [D.J 4 F,I b,I c,D.J 8 A,D.J 6 E,D.J 5 G,D.J 3 H,B q],aM.ro (ag a)] (aV.vals [ai false]):=
 h.b'
theorem amo(h:ae (NC H b c C E ah K q r ej p a0 jG jH lj lk u a ew F fi fj fk eF iC iD b6 e cS f d0 g [.b (g != a) true,.r 159 [.agg (bq H b c),ag a,ag g] [ag d],.a .sub,.x E d (bT i L j k l m),.r 160 [.agg (bT i L j k l m),.agg (bj b6 e cS f d0)] [.agg (bT bz jI f0 i0 j0 dk),ai t],.n t false,.x E d (bT i L j k l m),.a (.dB [some [D.J 4 M,I n,I o,D.J 8 G,D.J 6 N,D.J 5 Q,D.J 3 R,B s],none,none,none] (aV.vals [])),.a .sub,.p (b3 prog 161 [aM.ref [D.J 4 H,I b,I c,D.J 8 C,D.J 6 (E.set d.toNat (bT bz jI f0 i0 j0 dk)),D.J 5 ah,D.J 3 K,B q] [D.J 4 M,I n,I o,D.J 8 G,D.J 6 N,D.J 5 Q,D.J 3 R,B s],aM.ro (ag a),aM.ro (ag e),aM.ro (ag 1)] (aV.vals [])),.x G a (aX S A a1 V X Y Z c9),.p ((0:Int)<=(some (1:Int)).getD 0),.p ((some (1:Int)).getD 0<=none.getD (A.length:Int)),.p (none.getD (A.length:Int)<=(A.length:Int)),.g ([]:af) (List.take (A.length-1) (List.drop 1 A)) 40,.h (List.take (A.length-1) (List.drop 1 A)),.x G a (aX S A a1 V X Y Z c9)])):
 b9 112 [aM.ref [D.J 4 ej,I p,I a0,D.J 8 jG,D.J 6 jH,D.J 5 lj,D.J 3 lk,B u] [D.J 4 M,I n,I o,D.J 8 (G.set a.toNat (aX S ([]++List.take (A.length-1) (List.drop 1 A)) a1 V X Y Z c9)),D.J 6 N,D.J 5 Q,D.J 3 R,B s],aM.ro (ag a)] (aV.vals [ai true]):=
 h.b'
theorem amp(h:ae (NC ej g i A N Q R q r ew j k fi fj fk eF s a C E F G H ah K L c d e b f l [.b (l != a) false,.a .sub,.x A a (aX C E F G H ah K L),.g C [(bj c d e b f)] 40,.e A a.toNat (aX C E F G H ah K L),.p ((aX C E F G H ah K L)[0]?=some (D.J 5 C)),.h [(bj c d e b f)],.p (A=A),.p (A=A),.p (A=A),.p (A=A),.p (A=A),.p (A=A),.p (A=A),.p (A=A),.p (A=A),.p (A=A),.p (A=A),.p (a.toNat=a.toNat),.p (C=C),.x A a (aX C E F G H ah K L),.a .sub,.p (a.toNat=a.toNat),.p (0<=a),.p (a<(↑(A.set a.toNat (aX (C++[(bj c d e b f)]) E F G H ah K L)).length:Int)),.e (A.set a.toNat (aX (C++[(bj c d e b f)]) E F G H ah K L)) a.toNat (aX S M a1 V X Y Z c9),.p ((0:Int)<=(some (1:Int)).getD 0),.p ((some (1:Int)).getD 0<=none.getD (M.length:Int)),.p (none.getD (M.length:Int)<=(M.length:Int)),.g ([]:af) (List.take (M.length-1) (List.drop 1 M)) 40,.h (List.take (M.length-1) (List.drop 1 M)),.p (0<=a),.p (a<(↑(A.set a.toNat (aX (C++[(bj c d e b f)]) E F G H ah K L)).length:Int)),.e (A.set a.toNat (aX (C++[(bj c d e b f)]) E F G H ah K L)) a.toNat (aX S M a1 V X Y Z c9)])):
 b9 112 [aM.ref [D.J 4 ew,I j,I k,D.J 8 fi,D.J 6 fj,D.J 5 fk,D.J 3 eF,B s] [D.J 4 ej,I g,I i,D.J 8 ((A.set a.toNat (aX (C++[(bj c d e b f)]) E F G H ah K L)).set a.toNat (aX S ([]++List.take (M.length-1) (List.drop 1 M)) a1 V X Y Z c9)),D.J 6 N,D.J 5 Q,D.J 3 R,B q],aM.ro (ag a)] (aV.vals [ai true]):=
 h.b'
theorem amq(h:ae [.a .sub,.x L a (aX C E F G A H ah K),.a .sub,.x L a (aX C E F G A H ah K),.x A b [I d],.v (d+c),.x A b [I i],.e L a.toNat (aX C E F G A H ah K),.p (a.toNat=a.toNat),.p (a.toNat=a.toNat),.p (a.toNat=a.toNat),.p (a.toNat=a.toNat),.b r true,.a .sub,.p (0<=a),.p (a<(↑(L.set a.toNat (aX C E F G (A.set b.toNat [I (d+c)]) H ah K)).length:Int)),.e (L.set a.toNat (aX C E F G (A.set b.toNat [I (d+c)]) H ah K)) a.toNat (aX C E F G (A.set b.toNat [I (d+c)]) H ah K),.x (A.set b.toNat [I (d+c)]) b [I g],.r 65 [ag g,ag (-1000000),ag 1000000] [ai q]]):
 b9 161 [aM.ref [D.J 4 M,I e,I f,D.J 8 L,D.J 6 N,D.J 5 Q,D.J 3 R,B r] [D.J 4 M,I e,I f,D.J 8 (L.set a.toNat (aX C E F G (A.set b.toNat [I (d+c)]) H ah K)),D.J 6 N,D.J 5 Q,D.J 3 R,B q],aM.ro (ag a),aM.ro (ag b),aM.ro (ag c)] (aV.vals []):=
 h.b'
theorem amr(h:ae (B3 A a b c d e [.n q true])):
 b9 113 [aM.ref [D.J 4 A,I a,I b,D.J 8 C,D.J 6 E,D.J 5 F,D.J 3 G,B q] [D.J 4 A,I a,I b,D.J 8 C,D.J 6 E,D.J 5 F,D.J 3 G,B q],aM.ro (ag c),aM.ro (ag d)] (aV.vals [ai false]):=
 h.b'
theorem ams(h:ae (B3 A a b d e c [.n q false,.b (decide (c<0)) true])):
 b9 113 [aM.ref [D.J 4 A,I a,I b,D.J 8 C,D.J 6 E,D.J 5 F,D.J 3 G,B q] [D.J 4 A,I a,I b,D.J 8 C,D.J 6 E,D.J 5 F,D.J 3 G,B q],aM.ro (ag d),aM.ro (ag e)] (aV.vals [ai false]):=
 h.b'
theorem amt(h:ae (wK A a b c d e q [.b (c==d) true])):
 b9 113 [aM.ref [D.J 4 A,I a,I b,D.J 8 C,D.J 6 E,D.J 5 F,D.J 3 G,B q] [D.J 4 A,I a,I b,D.J 8 C,D.J 6 E,D.J 5 F,D.J 3 G,B q],aM.ro (ag c),aM.ro (ag d)] (aV.vals [ai false]):=
 h.b'
theorem amu(h:ae (wK A a c d e b q [.b (d==e) false,.a .sub,.x C b (bT f E g i j k),.r 162 [.agg (bT f E g i j k)] [.agg (bT l ah m n o p),.agg (bj a0 b6 cS d0 bz),ai r],.n r true])):
 b9 113 [aM.ref [D.J 4 A,I a,I c,D.J 8 F,D.J 6 C,D.J 5 G,D.J 3 H,B q] [D.J 4 A,I a,I c,D.J 8 F,D.J 6 C,D.J 5 G,D.J 3 H,B q],aM.ro (ag d),aM.ro (ag e)] (aV.vals [ai false]):=
 h.b'
theorem amv(h:ae (wK Q i o b6 a g r [.b (b6==a) false,.a .sub,.x M g (bT j R k l m n),.r 162 [.agg (bT j R k l m n)] [.agg (bT cS eF d0 bz f0 i0),.agg (bj c b d e f),ai s],.n s false,.x M g (bT j R k l m n),.a .sub,.x A a (aX C E F G H ah K L),.g C [(bj c b d e f)] 40,.e A a.toNat (aX C E F G H ah K L),.p ((aX C E F G H ah K L)[0]?=some (D.J 5 C)),.h [(bj c b d e f)],.p (A=A),.p (A=A),.p (A=A),.p (A=A),.p (A=A),.p (a.toNat=a.toNat),.p (C=C),.x A a (aX C E F G H ah K L),.a .sub,.p (a.toNat=a.toNat),.p (0<=a),.p (a<(↑(A.set a.toNat (aX (C++[(bj c b d e f)]) E F G H ah K L)).length:Int)),.e (A.set a.toNat (aX (C++[(bj c b d e f)]) E F G H ah K L)) a.toNat (aX S a1 V X Y N Z c9),.x N b [B t],.e (A.set a.toNat (aX (C++[(bj c b d e f)]) E F G H ah K L)) a.toNat (aX S a1 V X Y N Z c9),.a (.dB [some [D.J 4 ej,I p,I a0,D.J 8 ew,D.J 6 fi,D.J 5 fj,D.J 3 fk,B q],none,none,none] (aV.vals [])),.p (a.toNat=a.toNat),.p (a.toNat=a.toNat),.p (b3 prog 161 [aM.ref [D.J 4 Q,I i,I o,D.J 8 ((A.set a.toNat (aX (C++[(bj c b d e f)]) E F G H ah K L)).set a.toNat (aX S a1 V X Y (N.set b.toNat [B true]) Z c9)),D.J 6 (M.set g.toNat (bT cS eF d0 bz f0 i0)),D.J 5 iC,D.J 3 iD,B r] [D.J 4 ej,I p,I a0,D.J 8 ew,D.J 6 fi,D.J 5 fj,D.J 3 fk,B q],aM.ro (ag a),aM.ro (ag b),aM.ro (ag (-1))] (aV.vals []))])):
 b9 113 [aM.ref [D.J 4 Q,I i,I o,D.J 8 A,D.J 6 M,D.J 5 iC,D.J 3 iD,B r] [D.J 4 ej,I p,I a0,D.J 8 ew,D.J 6 fi,D.J 5 fj,D.J 3 fk,B q],aM.ro (ag b6),aM.ro (ag a)] (aV.vals [ai true]):=
 h.b'
theorem UU(h:ae (yB G a b A C E F q r H c d ah K L M s e [.n r true])):
 b9 110 [aM.ref [D.J 4 H,I c,I d,D.J 8 ah,D.J 6 K,D.J 5 L,D.J 3 M,B s] [D.J 4 G,I a,I b,D.J 8 A,D.J 6 C,D.J 5 E,D.J 3 F,B q],aM.ro (ag e)] (aV.vals [ai false]):=
 h.b'
theorem alG(h:ae (B4 G a b A C E F q r H d e K L M N s c Q ah R S a1 V X Y [.b (decide ((ah.length:Int)>0)) true])):
 b9 110 [aM.ref [D.J 4 H,I d,I e,D.J 8 K,D.J 6 L,D.J 5 M,D.J 3 N,B s] [D.J 4 G,I a,I b,D.J 8 A,D.J 6 C,D.J 5 E,D.J 3 F,B q],aM.ro (ag c)] (aV.vals [ai false]):=
 h.b'
theorem alH(h:ae (B5 G a b A C E F q r H d e L M N Q s c ah K R S a1 V X Y [.b ((ah.length:Int)==0) true])):
 b9 110 [aM.ref [D.J 4 H,I d,I e,D.J 8 L,D.J 6 M,D.J 5 N,D.J 3 Q,B s] [D.J 4 G,I a,I b,D.J 8 A,D.J 6 C,D.J 5 E,D.J 3 F,B q],aM.ro (ag c)] (aV.vals [ai false]):=
 h.b'
def Xy(A:af)(a b:Int)(C E F G:af)(q r:Bool)(H:af)(c d:Int)(ah K L M:af)(s:Bool)(e:Int)(N P Q R S a1 V X:af)(f g i j k:Int)(Y Z:af)(t u:Bool)(l:List O):List O:=B5 A a b C E F G q r H c d ah K L M s e N P Q R S a1 V X (.b ((N.length:Int)==0) false::.p ((0:Int)<=0)::.p (0<(N.length:Int))::.e N 0 (bj f g i j k)::.r 156 [.agg (bq A a b),aO 4 R,.agg (bj f g i j k)] [aO 4 Y,aO 5 Z,ai t]::.p ((0:Int)<=(some (1:Int)).getD 0)::.p ((some (1:Int)).getD 0<=none.getD (N.length:Int))::.p (none.getD (N.length:Int)<=(N.length:Int))::.g ([]:af) (List.take (N.length-1) (List.drop 1 N)) 40::.h (List.take (N.length-1) (List.drop 1 N))::.r 157 [.agg (bq A a b),.agg (bj f g i j k)] [ai u]::l)
theorem alI(h:ae (Xy M c d E N Q R q r S j k a1 Y Z c9 t a A F G H ah K C L e b f g i V X u s [.b s true,.x C b [B v],.e E a.toNat (aX A F G H ah K C L),.p (a.toNat=a.toNat),.p (a.toNat=a.toNat),.p (a.toNat=a.toNat),.p (a.toNat=a.toNat),.x (E.set a.toNat (aX A F G H ah K (C.set b.toNat [B true]) L)) a (aX A F G H ah K (C.set b.toNat [B true]) L),.p (a.toNat=a.toNat),.p (a.toNat=a.toNat),.p (a.toNat=a.toNat),.p (a.toNat=a.toNat),.p (a.toNat=a.toNat)])):
 b9 110 [aM.ref [D.J 4 S,I j,I k,D.J 8 a1,D.J 6 Y,D.J 5 Z,D.J 3 c9,B t] [D.J 4 M,I c,I d,D.J 8 ((E.set a.toNat (aX A F G H ah K (C.set b.toNat [B true]) L)).set a.toNat (aX ([]++List.take (A.length-1) (List.drop 1 A)) X G V ah K (C.set b.toNat [B true]) L)),D.J 6 N,D.J 5 Q,D.J 3 R,B q],aM.ro (ag a)] (aV.vals [ai true]):=
 h.b'
theorem alJ(h:ae (Xy E b c C F G H q r S j k a1 Y Z c9 t a A ah K L M N Q R d e f g i V X u s [.b s false,.x C a (aX A ah K L M N Q R),.p (a.toNat=a.toNat),.p (a.toNat=a.toNat),.p (a.toNat=a.toNat),.p (a.toNat=a.toNat),.p (a.toNat=a.toNat)])):
 b9 110 [aM.ref [D.J 4 S,I j,I k,D.J 8 a1,D.J 6 Y,D.J 5 Z,D.J 3 c9,B t] [D.J 4 E,I b,I c,D.J 8 (C.set a.toNat (aX ([]++List.take (A.length-1) (List.drop 1 A)) X K V M N Q R)),D.J 6 F,D.J 5 G,D.J 3 H,B q],aM.ro (ag a)] (aV.vals [ai true]):=
 h.b'
theorem alK(h:ae [.b (e==1) true,.a (.dB [some [D.J 4 A,I a,I b,D.J 8 C,D.J 6 E,D.J 5 F,D.J 3 G,B q],none] (aV.vals [ai r])),.p (b3 prog 110 [aM.ref [D.J 4 H,I c,I d,D.J 8 ah,D.J 6 K,D.J 5 L,D.J 3 M,B s] [D.J 4 A,I a,I b,D.J 8 C,D.J 6 E,D.J 5 F,D.J 3 G,B q],aM.ro (ag f)] (aV.vals [ai r]))]):
 b9 63 [aM.ref [D.J 4 H,I c,I d,D.J 8 ah,D.J 6 K,D.J 5 L,D.J 3 M,B s] [D.J 4 A,I a,I b,D.J 8 C,D.J 6 E,D.J 5 F,D.J 3 G,B q],aM.ro (.agg [I e,I f,I g])] (aV.vals [ai r]):=
 h.b'
theorem alL(h:ae [.b (c==1) false,.b (c==2) true,.a (.dB [some [D.J 4 A,I a,I b,D.J 8 C,D.J 6 E,D.J 5 F,D.J 3 G,B q],none] (aV.vals [ai r])),.p (b3 prog 111 [aM.ref [D.J 4 H,I d,I e,D.J 8 ah,D.J 6 K,D.J 5 L,D.J 3 M,B s] [D.J 4 A,I a,I b,D.J 8 C,D.J 6 E,D.J 5 F,D.J 3 G,B q],aM.ro (ag f)] (aV.vals [ai r]))]):
 b9 63 [aM.ref [D.J 4 H,I d,I e,D.J 8 ah,D.J 6 K,D.J 5 L,D.J 3 M,B s] [D.J 4 A,I a,I b,D.J 8 C,D.J 6 E,D.J 5 F,D.J 3 G,B q],aM.ro (.agg [I c,I f,I g])] (aV.vals [ai r]):=
 h.b'
def Xz(a:Int)(l:List O):List O:=.b (a==1) false::.b (a==2) false::l
theorem alM(h:ae (Xz a [.b (a==3) true,.a (.dB [some [D.J 4 A,I b,I c,D.J 8 C,D.J 6 E,D.J 5 F,D.J 3 G,B q],none] (aV.vals [ai r])),.p (b3 prog 112 [aM.ref [D.J 4 H,I d,I e,D.J 8 ah,D.J 6 K,D.J 5 L,D.J 3 M,B s] [D.J 4 A,I b,I c,D.J 8 C,D.J 6 E,D.J 5 F,D.J 3 G,B q],aM.ro (ag f)] (aV.vals [ai r]))])):
 b9 63 [aM.ref [D.J 4 H,I d,I e,D.J 8 ah,D.J 6 K,D.J 5 L,D.J 3 M,B s] [D.J 4 A,I b,I c,D.J 8 C,D.J 6 E,D.J 5 F,D.J 3 G,B q],aM.ro (.agg [I a,I f,I g])] (aV.vals [ai r]):=
 h.b'
def ND(a:Int)(l:List O):List O:=Xz a (.b (a==3) false::l)
theorem alN(h:ae (ND a [.b (a==4) true,.a (.dB [some [D.J 4 A,I b,I c,D.J 8 C,D.J 6 E,D.J 5 F,D.J 3 G,B q],none,none] (aV.vals [ai r])),.p (b3 prog 113 [aM.ref [D.J 4 H,I d,I f,D.J 8 ah,D.J 6 K,D.J 5 L,D.J 3 M,B s] [D.J 4 A,I b,I c,D.J 8 C,D.J 6 E,D.J 5 F,D.J 3 G,B q],aM.ro (ag g),aM.ro (ag e)] (aV.vals [ai r]))])):
 b9 63 [aM.ref [D.J 4 H,I d,I f,D.J 8 ah,D.J 6 K,D.J 5 L,D.J 3 M,B s] [D.J 4 A,I b,I c,D.J 8 C,D.J 6 E,D.J 5 F,D.J 3 G,B q],aM.ro (.agg [I a,I g,I e])] (aV.vals [ai r]):=
 h.b'
theorem alO(h:ae (ND a [.b (a==4) false,.b (a==5) true,.a (.dB [some [D.J 4 A,I b,I c,D.J 8 C,D.J 6 E,D.J 5 F,D.J 3 G,B q],none,none] (aV.vals [ai r])),.p (b3 prog 114 [aM.ref [D.J 4 H,I d,I f,D.J 8 ah,D.J 6 K,D.J 5 L,D.J 3 M,B s] [D.J 4 A,I b,I c,D.J 8 C,D.J 6 E,D.J 5 F,D.J 3 G,B q],aM.ro (ag g),aM.ro (ag e)] (aV.vals [ai r]))])):
 b9 63 [aM.ref [D.J 4 H,I d,I f,D.J 8 ah,D.J 6 K,D.J 5 L,D.J 3 M,B s] [D.J 4 A,I b,I c,D.J 8 C,D.J 6 E,D.J 5 F,D.J 3 G,B q],aM.ro (.agg [I a,I g,I e])] (aV.vals [ai r]):=
 h.b'
def NE(a:Int)(l:List O):List O:=ND a (.b (a==4) false::.b (a==5) false::l)
theorem alP(h:ae (NE a [.b (a==6) true,.a (.dB [some [D.J 4 A,I b,I c,D.J 8 C,D.J 6 E,D.J 5 F,D.J 3 G,B q],none] (aV.vals [ai r])),.p (b3 prog 115 [aM.ref [D.J 4 H,I d,I e,D.J 8 ah,D.J 6 K,D.J 5 L,D.J 3 M,B s] [D.J 4 A,I b,I c,D.J 8 C,D.J 6 E,D.J 5 F,D.J 3 G,B q],aM.ro (ag f)] (aV.vals [ai r]))])):
 b9 63 [aM.ref [D.J 4 H,I d,I e,D.J 8 ah,D.J 6 K,D.J 5 L,D.J 3 M,B s] [D.J 4 A,I b,I c,D.J 8 C,D.J 6 E,D.J 5 F,D.J 3 G,B q],aM.ro (.agg [I a,I f,I g])] (aV.vals [ai r]):=
 h.b'
theorem alQ(h:ae (NE a [.b (a==6) false,.b (a==7) true,.a (.dB [some [D.J 4 A,I b,I c,D.J 8 C,D.J 6 E,D.J 5 F,D.J 3 G,B q],none] (aV.vals [ai r])),.p (b3 prog 45 [aM.ref [D.J 4 H,I d,I e,D.J 8 ah,D.J 6 K,D.J 5 L,D.J 3 M,B s] [D.J 4 A,I b,I c,D.J 8 C,D.J 6 E,D.J 5 F,D.J 3 G,B q],aM.ro (ag f)] (aV.vals [ai r]))])):
 b9 63 [aM.ref [D.J 4 H,I d,I e,D.J 8 ah,D.J 6 K,D.J 5 L,D.J 3 M,B s] [D.J 4 A,I b,I c,D.J 8 C,D.J 6 E,D.J 5 F,D.J 3 G,B q],aM.ro (.agg [I a,I f,I g])] (aV.vals [ai r]):=
 h.b'
theorem alR(h:ae (NE a [.b (a==6) false,.b (a==7) false])):
 b9 63 [aM.ref [D.J 4 A,I b,I c,D.J 8 C,D.J 6 E,D.J 5 F,D.J 3 G,B q] [D.J 4 A,I b,I c,D.J 8 C,D.J 6 E,D.J 5 F,D.J 3 G,B q],aM.ro (.agg [I a,I e,I d])] (aV.vals [ai false]):=
 h.b'
def vG(A:af)(a b:Int)(C:af)(c d:Int)(E F G H:af)(q:Bool):aF:=bf 22 [(0,aS 1000000000),(1,.aC (.one (.dt 1000000200 3 A))),(5,aU b),(6,aU a)] [(1000000000,[aw 950001000 4 C,au c,au d,aw 950001003 8 E,aw 950001004 6 F,aw 950001005 5 G,aw 950001006 3 H,.bg q])]
theorem alS(h:ae (NB H a g i j A c d C E F G q r ah e f K L M N s [.b r true,.u b,.u a])):
 aY (ap f73 0) (vG H a b ah e f K L M N s) .normal (vG H (a+1) (b+1) A c d C E F G q):=
 h.oi [(1000000001000000,950001000,4),(1000000001000003,950001003,8),(1000000001000004,950001004,6),(1000000001000005,950001005,5),(1000000001000006,950001006,3)] [6,1,0,5] [1000000000]
theorem alT(h:ae (NB H a g i j A b c C E F G q r ah e f K L M N s [.b r false,.u a])):
 aY (ap f73 0) (vG H a d ah e f K L M N s) .normal (vG H (a+1) d A b c C E F G q):=
 h.oi [(1000000001000000,950001000,4),(1000000001000003,950001003,8),(1000000001000004,950001004,6),(1000000001000005,950001005,5),(1000000001000006,950001006,3)] [6,1,0,5] [1000000000]
def UW(a:Int)(A:af)(b c:Int)(C E F G:af)(q:Bool):aF:=bf 22 [(0,aS 1000000000),(5,aU a)] [(1000000000,[aw 950001000 4 A,au b,au c,aw 950001003 8 C,aw 950001004 6 E,aw 950001005 5 F,aw 950001006 3 G,.bg q])]
theorem alU(h:ae [.f H d false]):
 aY (ap f73 0) (vG H d a A b c C E F G q) (.exit 0) (UW a A b c C E F G q):=
 h.aT [5,0] [1000000000]
theorem alV(h:ae [.l [(1000000001000000,950001000,4),(1000000001000003,950001003,8),(1000000001000004,950001004,6),(1000000001000005,950001005,5),(1000000001000006,950001006,3)] [6,1,0,5] [1000000000] (ap f73 0) (vG N 0 0 A a d ah K L M r) (.exit 0) (UW e C b c E F G H q)]):
 b9 73 [aM.ref [D.J 4 A,I a,I d,D.J 8 ah,D.J 6 K,D.J 5 L,D.J 3 M,B r] [D.J 4 C,I b,I c,D.J 8 E,D.J 6 F,D.J 5 G,D.J 3 H,B q],aM.ro (aO 3 N)] (aV.vals [ag e]):=
 h.b'
