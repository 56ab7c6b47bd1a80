import Derived.Test.YtdchjefneblpgaaGreatGE
namespace Go.Proofs.YtdchjefneblpgaaGreat
open Go.Sx Go.RowKit Go.Proofs.Tryz
variable {a b c d e f g i j k l m n o p a0 cg dx d0 bE f0 i0 j0 da : Int} {A C E F G H ao K L M N Q R S bm V X Y Z ew il iX iY iZ i' ka sx sy ui uj uk sA sB : ae} {q r s t u v : Bool}
def p7(a:Int)(A:ae)(b c d e f:Int)(C:ae)(g i j k:Int)(q:Bool)(l:List O):List O:=.r 279 [.agg (ch a A b c d e)] [.agg (ch f C g i j k)]::.r 191 [.agg (ch f C g i j k)] [ak q]::l
theorem af1(h:ad (p7 f C g i j k c A d e a b q [.n q true])):
av 261 [.agg (ch f C g i j k)] [.agg (ch c A d e a b),ak false]:=
h.of
theorem af2(h:ad (p7 f C g i j k d A e a b c q [.n q false,.b (a==0) true])):
av 261 [.agg (ch f C g i j k)] [.agg (ch d A e a b c),ak false]:=
h.of
theorem af3(h:ad (p7 f C g i j k e A b a c d q [.n q false,.b (a==0) false,.v (a-1),.u b])):
av 261 [.agg (ch f C g i j k)] [.agg (ch e A (b+1) (a-1) c d),ak true]:=
h.of
def tM(A:ae)(a d:Int)(C:ae)(e f:Int)(E F G H:ae)(q:Bool)(b c:Int):aI:=bg 34 [(1,aY a),(4,aQ 4),(6,aQ 10),(7,aJ.aK (bu.one (aC 130000 3 A))),(8,aY d)] [(10,[aC 900011000 4 C,ax e,ax f,aC 900011003 8 E,aC 900011004 6 F,aC 900011005 5 G,aC 900011006 3 H,.ba q]),(4,[.v (aO),ax b,ax c,.v (aO),.v (aO),.v (aO),.v (aO)])]
def KH(a:Int)(A:ae)(b c:Int)(C E F G:ae):aI:=bg 34 [(4,aQ 4),(5,aY a)] [(4,[aC 235000 4 A,ax b,ax c,aC 235003 8 C,aC 235004 6 E,aC 235005 5 F,aC 235006 3 G])]
def VL(a b:Int)(A:ae)(c d:Int)(C E F G:ae)(q:Bool)(e:Int)(H:ae)(f g:Int)(ao K L M:ae)(r:Bool)(N:ae)(l:List O):List O:=.b (decide (a<=b)) true::.a (.dr [some [D.J 4 A,I c,I d,D.J 8 C,D.J 6 E,D.J 5 F,D.J 3 G,B q],none] (aT.vals [af e]))::.p (bY prog 131 [aM.ref [D.J 4 H,I f,I g,D.J 8 ao,D.J 6 K,D.J 5 L,D.J 3 M,B r] [D.J 4 A,I c,I d,D.J 8 C,D.J 6 E,D.J 5 F,D.J 3 G,B q],aM.ro (aP 3 N)] (aT.vals [af e]))::l
theorem af4(h:ad (VL a e A b c C E F G r d ao f g K L M N q H [.b (d==0) true])):
a7 (aq f16 0) (tM H e a ao f g K L M N q i j) .ret (KH a A b c C E F G):=
h.aX [4,5] [4]
theorem TE(h:ad (VL a b C c d E F G H q e ao f g K L M N r A [.b (e==0) false,.u a])):
a7 (aq f16 0) (tM A b a ao f g K L M N r i j) .normal (tM A b (a+1) C c d E F G H q i j):=
h.pF [(11000000,900011000,4),(11000003,900011003,8),(11000004,900011004,6),(11000005,900011005,5),(11000006,900011006,3)] [8,1,6,7,4] [10,4]
def KI(a:Int)(A:ae)(c d:Int)(C E F G:ae)(q:Bool)(e b:Int):aI:=bg 34 [(1,aY a),(4,aQ 4),(6,aQ 10)] [(10,[aC 900011000 4 A,ax c,ax d,aC 900011003 8 C,aC 900011004 6 E,aC 900011005 5 F,aC 900011006 3 G,.ba q]),(4,[.v (aO),ax e,ax b,.v (aO),.v (aO),.v (aO),.v (aO)])]
theorem af5(h:ad [.b (decide (b<=a)) false]):
a7 (aq f16 0) (tM H a b A c d C E F G q e f) (.exit 0) (KI a A c d C E F G q e f):=
h.aX [6,1,4] [10,4]
def MD(A:ae)(a b:Int)(C E F G:ae)(q:Bool)(H:ae)(c d:Int)(ao K L M:ae)(l:List O):List O:=.a (.dr [none] (aT.new [D.J 4 A,I a,I b,D.J 8 C,D.J 6 E,D.J 5 F,D.J 3 G,B q]))::.p (bY prog 127 [aM.ro (.agg (cl H c d ao K L M))] (aT.new [D.J 4 A,I a,I b,D.J 8 C,D.J 6 E,D.J 5 F,D.J 3 G,B q]))::l
theorem af6(h:ad (MD M d b C E F G q A a c H ao K L [.r 129 [.agg (cl A a c H ao K L)] [aP 3 N],.r 130 [af j,af 0,af 3000] [af e],.l [(11000000,900011000,4),(11000003,900011003,8),(11000004,900011004,6),(11000005,900011005,5),(11000006,900011006,3)] [8,1,6,7,4] [10,4] (aq f16 0) (tM N e 1 M d b C E F G q 0 0) .ret (KH f Q g i R S bm V)])):
av 16 [.agg (cl A a c H ao K L),af j] [.agg (cl Q g i R S bm V),af f]:=
h.of
theorem af7(h:ad (MD M e c C E F G q A b d H ao K L [.r 129 [.agg (cl A b d H ao K L)] [aP 3 N],.r 130 [af i,af 0,af 3000] [af a],.l [(11000000,900011000,4),(11000003,900011003,8),(11000004,900011004,6),(11000005,900011005,5),(11000006,900011006,3)] [8,1,6,7,4] [10,4] (aq f16 0) (tM N a 1 M e c C E F G q 0 0) (.exit 0) (KI a Q f g R S bm V r j k)])):
av 16 [.agg (cl A b d H ao K L),af i] [.agg (cl Q f g R S bm V),af a]:=
h.of
def VM(a b:Int)(q:Bool)(l:List O):List O:=.a .wr::.r 168 [af a,af 0,af (IntKind.i64.wrap (b-1))] [ak q]::l
theorem TF(h:ad (VM b a q [.n q true])):
av 61 [.agg (bq A a c),af b,af d] [af (-1)]:=
h.of
def Mv(a b:Int)(q:Bool)(c:Int)(r:Bool)(l:List O):List O:=VM a b q (.n q false::.a .wr::.r 168 [af c,af 0,af (IntKind.i64.wrap (b-1))] [ak r]::l)
theorem TG(h:ad (Mv b a q c r [.n r true])):
av 61 [.agg (bq A a d),af b,af c] [af (-1)]:=
h.of
theorem af8(h:ad (Mv b a q c r [.n r false,.b (decide (a<1)) true])):
av 61 [.agg (bq A a d),af b,af c] [af (-1)]:=
h.of
theorem TH(h:ad (Mv b a q c r [.n r false,.b (decide (a<1)) false,.a .wr,.a .wr])):
av 61 [.agg (bq A a d),af b,af c] [af (IntKind.i64.wrap (IntKind.i64.wrap (b*a)+c))]:=
h.of
def xh(A:ae)(a:Int)(C E:ae)(d e:Int)(F G H ao:ae)(q:Bool)(b c:Int):aI:=bg 32 [(1,dw 3 A),(4,aQ 4),(6,aQ 10),(7,aJ.aK (bu.one (aC 11 1 C))),(8,aY a)] [(10,[aC 900011000 4 E,ax d,ax e,aC 900011003 8 F,aC 900011004 6 G,aC 900011005 5 H,aC 900011006 3 ao,.ba q]),(4,[.v (aO),ax b,ax c,.v (aO),.v (aO),.v (aO),.v (aO)])]
def Mw(A:ae)(a b c d:Int)(C:ae)(e f:Int)(E F G H:ae)(q r:Bool)(ao:ae)(g i:Int)(K L M N:ae)(s:Bool)(l:List O):List O:=.i A a [I b,I c,I d]::.a (.dr [some [D.J 4 C,I e,I f,D.J 8 E,D.J 6 F,D.J 5 G,D.J 3 H,B q],none] (aT.vals [ak r]))::.p (bY prog 128 [aM.ref [D.J 4 ao,I g,I i,D.J 8 K,D.J 6 L,D.J 5 M,D.J 3 N,B s] [D.J 4 C,I e,I f,D.J 8 E,D.J 6 F,D.J 5 G,D.J 3 H,B q],aM.ro (.agg [I b,I c,I d])] (aT.vals [ak r]))::l
theorem ahA(h:ad (Mw ao a i j k C b c E F G H r q K d e L M N Q s [.g A [[B q]] 1,.h [[B q]],.u a])):
a7 (aq f15 0) (xh ao a A K d e L M N Q s f g) .normal (xh ao (a+1) (A++[[B q]]) C b c E F G H r f g):=
h.pF [(11000000,900011000,4),(11000003,900011003,8),(11000004,900011004,6),(11000005,900011005,5),(11000006,900011006,3)] [8,1,7,6,4] [10,4]
def KJ(A C:ae)(b c:Int)(E F G H:ae)(q:Bool)(d a:Int):aI:=bg 32 [(4,aQ 4),(6,aQ 10),(7,aJ.aK (bu.one (aC 11 1 A)))] [(10,[aC 900011000 4 C,ax b,ax c,aC 900011003 8 E,aC 900011004 6 F,aC 900011005 5 G,aC 900011006 3 H,.ba q]),(4,[.v (aO),ax d,ax a,.v (aO),.v (aO),.v (aO),.v (aO)])]
theorem ahB(h:ad [.f ao a false]):
a7 (aq f15 0) (xh ao a A C b c E F G H q d e) (.exit 0) (KJ A C b c E F G H q d e):=
h.aX [6,7,4] [10,4]
theorem ahC(h:ad (MD G b a A C E F q H c f R S bm V [.l [(11000000,900011000,4),(11000003,900011003,8),(11000004,900011004,6),(11000005,900011005,5),(11000006,900011006,3)] [8,1,7,6,4] [10,4] (aq f15 0) (xh X 0 [] G b a A C E F q 0 0) (.exit 0) (KJ ao K d e L M N Q r g i)])):
av 15 [.agg (cl H c f R S bm V),aP 3 X] [.agg (cl K d e L M N Q),aP 1 ao]:=
h.of
theorem ahD(h:ad (p7 f C g i j k a A b c d e q [.n q true])):
av 258 [.agg (ch f C g i j k),.agg (bn m n o p l)] [.agg (ch a A b c d e),ak false]:=
h.of
theorem ahE(h:ad (p7 f C i j k l a A b c d e q [.n q false,.r 122 [.agg (bn m n o p g)] [ak r],.n r true])):
av 258 [.agg (ch f C i j k l),.agg (bn m n o p g)] [.agg (ch a A b c d e),ak false]:=
h.of
theorem ahF(h:ad (p7 f C i j k l b A a c d e q [.n q false,.r 122 [.agg (bn m n o p g)] [ak r],.n r false,.b (a==0) true])):
av 258 [.agg (ch f C i j k l),.agg (bn m n o p g)] [.agg (ch b A a c d e),ak false]:=
h.of
theorem ahG(h:ad (p7 f C i j k l c A a d b e q [.n q false,.r 122 [.agg (bn m n o p g)] [ak r],.n r false,.b (a==0) false,.b (decide (b>=1000000000)) true])):
av 258 [.agg (ch f C i j k l),.agg (bn m n o p g)] [.agg (ch c A a d b e),ak false]:=
h.of
theorem ahH(h:ad (p7 l C m n o p i A b j c k q [.n q false,.r 122 [.agg (bn d e f g a)] [ak r],.n r false,.b (b==0) false,.b (decide (c>=1000000000)) false,.g A [(bn d e f g a)] 40,.h [(bn d e f g a)],.v (b-1),.u c])):
av 258 [.agg (ch l C m n o p),.agg (bn d e f g a)] [.agg (ch i (A++[(bn d e f g a)]) (b-1) j (c+1) k),ak true]:=
h.of
theorem ahI(h:ad (p7 f C g i j k c A d e a b q [.n q true])):
av 260 [.agg (ch f C g i j k)] [.agg (ch c A d e a b),.agg (bn 0 0 0 0 0),ak false]:=
h.of
theorem ahJ(h:ad (p7 f C g i j k c A d e a b q [.n q false,.b ((A.length:Int)==0) true])):
av 260 [.agg (ch f C g i j k)] [.agg (ch c A d e a b),.agg (bn 0 0 0 0 0),ak false]:=
h.of
theorem ahK(h:ad (p7 f C m n o p d A e b c a q [.n q false,.b ((A.length:Int)==0) false,.p ((0:Int)<=0),.p (0<(A.length:Int)),.e A 0 (bn g i j k l),.p ((0:Int)<=(some (1:Int)).getD 0),.p ((some (1:Int)).getD 0<=none.getD (A.length:Int)),.p (none.getD (A.length:Int)<=(A.length:Int)),.g ([]:ae) (List.take (A.length-1) (List.drop 1 A)) 40,.h (List.take (A.length-1) (List.drop 1 A)),.u a,.u b])):
av 260 [.agg (ch f C m n o p)] [.agg (ch d ([]++List.take (A.length-1) (List.drop 1 A)) e (b+1) c (a+1)),.agg (bn g i j k l),ak true]:=
h.of
def Bg(A:ae)(a b c d e:Int)(l:List O):List O:=.r 61 [.agg (bq A a b),af c,af d] [af e]::l
theorem ahL(h:ad (Bg A a b c d e [.n q true])):
b3 158 [aM.ref [D.J 4 A,I a,I b,D.J 8 C,D.J 6 E,D.J 5 F,D.J 3 G,B q] [D.J 4 A,I a,I b,D.J 8 C,D.J 6 E,D.J 5 F,D.J 3 G,B q],aM.ro (af c),aM.ro (af d)] (aT.vals [ak false]):=
h.b6
theorem ahM(h:ad (Bg A a b d e c [.n q false,.b (decide (c<0)) true])):
b3 158 [aM.ref [D.J 4 A,I a,I b,D.J 8 C,D.J 6 E,D.J 5 F,D.J 3 G,B q] [D.J 4 A,I a,I b,D.J 8 C,D.J 6 E,D.J 5 F,D.J 3 G,B q],aM.ro (af d),aM.ro (af e)] (aT.vals [ak false]):=
h.b6
def Bh(A:ae)(a b c d e:Int)(q:Bool)(l:List O):List O:=Bg A a b c d e (.n q false::.b (decide (e<0)) false::l)
theorem ahN(h:ad (Bh A a b c d e q [.b (c==d) true])):
b3 158 [aM.ref [D.J 4 A,I a,I b,D.J 8 C,D.J 6 E,D.J 5 F,D.J 3 G,B q] [D.J 4 A,I a,I b,D.J 8 C,D.J 6 E,D.J 5 F,D.J 3 G,B q],aM.ro (af c),aM.ro (af d)] (aT.vals [ak false]):=
h.b6
theorem ahO(h:ad (Bh C b i j k a q [.b (j==k) false,.a .sub,.x A a (ch c E d e f g),.r 261 [.agg (ch c E d e f g)] [.agg (ch l F m n o p),ak r],.x A a (ch c E d e f g)])):
b3 158 [aM.ref [D.J 4 C,I b,I i,D.J 8 G,D.J 6 A,D.J 5 H,D.J 3 ao,B q] [D.J 4 C,I b,I i,D.J 8 G,D.J 6 (A.set a.toNat (ch l F m n o p)),D.J 5 H,D.J 3 ao,B q],aM.ro (af j),aM.ro (af k)] (aT.vals [ak r]):=
h.b6
def E2(A:ae)(a b:Int)(C E F G:ae)(q r:Bool)(H:ae)(c d:Int)(ao K L M:ae)(s:Bool)(e:Int)(l:List O):List O:=.a (.dr [some [D.J 4 A,I a,I b,D.J 8 C,D.J 6 E,D.J 5 F,D.J 3 G,B q],none] (aT.vals [ak r]))::.p (bY prog 257 [aM.ref [D.J 4 H,I c,I d,D.J 8 ao,D.J 6 K,D.J 5 L,D.J 3 M,B s] [D.J 4 A,I a,I b,D.J 8 C,D.J 6 E,D.J 5 F,D.J 3 G,B q],aM.ro (af e)] (aT.vals [ak r]))::l
theorem TI(h:ad (E2 G a b A C E F q r H c d ao K L M s e [.n r true])):
b3 171 [aM.ref [D.J 4 H,I c,I d,D.J 8 ao,D.J 6 K,D.J 5 L,D.J 3 M,B s] [D.J 4 G,I a,I b,D.J 8 A,D.J 6 C,D.J 5 E,D.J 3 F,B q],aM.ro (af e)] (aT.vals [ak false]):=
h.b6
def Bi(A:ae)(a b:Int)(C E F G:ae)(q r:Bool)(H:ae)(c d:Int)(ao K L M:ae)(s:Bool)(e:Int)(N P Q R S bm V X:ae)(l:List O):List O:=E2 A a b C E F G q r H c d ao K L M s e (.n r false::.a .sub::.x C e (bb N P Q R S bm V X)::l)
theorem ahP(h:ad (Bi G a b A C E F q r H d e K L M N s c Q ao R S bm V X Y [.b (decide ((ao.length:Int)>0)) true])):
b3 171 [aM.ref [D.J 4 H,I d,I e,D.J 8 K,D.J 6 L,D.J 5 M,D.J 3 N,B s] [D.J 4 G,I a,I b,D.J 8 A,D.J 6 C,D.J 5 E,D.J 3 F,B q],aM.ro (af c)] (aT.vals [ak false]):=
h.b6
def Bj(A:ae)(a b:Int)(C E F G:ae)(q r:Bool)(H:ae)(c d:Int)(ao K L M:ae)(s:Bool)(e:Int)(N P Q R S bm V X:ae)(l:List O):List O:=Bi A a b C E F G q r H c d ao K L M s e N P Q R S bm V X (.b (decide ((P.length:Int)>0)) false::l)
theorem ahQ(h:ad (Bj G a b A C E F q r H d e L M N Q s c ao K R S bm V X Y [.b (decide ((ao.length:Int)>0)) true])):
b3 171 [aM.ref [D.J 4 H,I d,I e,D.J 8 L,D.J 6 M,D.J 5 N,D.J 3 Q,B s] [D.J 4 G,I a,I b,D.J 8 A,D.J 6 C,D.J 5 E,D.J 3 F,B q],aM.ro (af c)] (aT.vals [ak false]):=
h.b6
theorem ahR(h:ad (Bj G a b A C E F q r H d e M N Q R s c ao K L S bm V X Y [.b (decide ((ao.length:Int)>0)) false,.b ((L.length:Int)==0) true])):
b3 171 [aM.ref [D.J 4 H,I d,I e,D.J 8 M,D.J 6 N,D.J 5 Q,D.J 3 R,B s] [D.J 4 G,I a,I b,D.J 8 A,D.J 6 C,D.J 5 E,D.J 3 F,B q],aM.ro (af c)] (aT.vals [ak false]):=
h.b6
theorem ahS(h:ad (Bj R b c C F G H q r S d e bm V X Y s a ao E A K L M N Q [.b (decide ((ao.length:Int)>0)) false,.b ((A.length:Int)==0) false,.p ((0:Int)<=0),.p (0<(A.length:Int)),.e A 0 (bn f g i j k),.p ((0:Int)<=(some (1:Int)).getD 0),.p ((some (1:Int)).getD 0<=none.getD (A.length:Int)),.p (none.getD (A.length:Int)<=(A.length:Int)),.g ([]:ae) (List.take (A.length-1) (List.drop 1 A)) 40,.h (List.take (A.length-1) (List.drop 1 A)),.x C a (bb ao E A K L M N Q),.p (a.toNat=a.toNat),.p (a.toNat=a.toNat),.p (a.toNat=a.toNat),.p (a.toNat=a.toNat),.p (a.toNat=a.toNat),.p (a.toNat=a.toNat)])):
b3 171 [aM.ref [D.J 4 S,I d,I e,D.J 8 bm,D.J 6 V,D.J 5 X,D.J 3 Y,B s] [D.J 4 R,I b,I c,D.J 8 (C.set a.toNat [D.J 5 [(bn f g i j k)],D.J 5 E,D.J 5 ([]++List.take (A.length-1) (List.drop 1 A)),D.J 4 K,D.J 1 L,D.J 1 M,D.J 1 N,D.J 2 Q]),D.J 6 F,D.J 5 G,D.J 3 H,B q],aM.ro (af a)] (aT.vals [ak true]):=
h.b6
theorem TJ(h:ad [.b q true,.v ((A.length:Int)-1),.r 168 [af c,af 0,af ((A.length:Int)-1)] [ak r]]):
b3 257 [aM.ref [D.J 4 C,I a,I b,D.J 8 A,D.J 6 E,D.J 5 F,D.J 3 G,B q] [D.J 4 C,I a,I b,D.J 8 A,D.J 6 E,D.J 5 F,D.J 3 G,B q],aM.ro (af c)] (aT.vals [ak r]):=
h.b6
theorem ahT(h:ad [.b q false]):
b3 257 [aM.ref [D.J 4 A,I a,I b,D.J 8 C,D.J 6 E,D.J 5 F,D.J 3 G,B q] [D.J 4 A,I a,I b,D.J 8 C,D.J 6 E,D.J 5 F,D.J 3 G,B q],aM.ro (af c)] (aT.vals [ak false]):=
h.b6
theorem SU(h:ad (E2 G a b A C E F q r H c d ao K L M s e [.n r true])):
b3 151 [aM.ref [D.J 4 H,I c,I d,D.J 8 ao,D.J 6 K,D.J 5 L,D.J 3 M,B s] [D.J 4 G,I a,I b,D.J 8 A,D.J 6 C,D.J 5 E,D.J 3 F,B q],aM.ro (af e)] (aT.vals [ak false]):=
h.b6
theorem ahU(h:ad (Bi G a b A C E F q r H d e K L M N s c Q ao R S bm V X Y [.b ((ao.length:Int)==0) true])):
b3 151 [aM.ref [D.J 4 H,I d,I e,D.J 8 K,D.J 6 L,D.J 5 M,D.J 3 N,B s] [D.J 4 G,I a,I b,D.J 8 A,D.J 6 C,D.J 5 E,D.J 3 F,B q],aM.ro (af c)] (aT.vals [ak false]):=
h.b6
def Mx(A:ae)(a b:Int)(C E F G:ae)(q r:Bool)(H:ae)(c d:Int)(ao K L M:ae)(s:Bool)(e:Int)(N P Q R S bm V X:ae)(f g i j k m:Int)(l:List O):List O:=Bi A a b C E F G q r H c d ao K L M s e N P Q R S bm V X (.b ((P.length:Int)==0) false::.a .sub::.x C e (bb N P Q R S bm V X)::.p ((0:Int)<=0)::.p (0<(P.length:Int))::.e P 0 (bn f g i j k)::.r 245 [af j,af a] [af m]::l)
theorem ahV(h:ad (Mx F b c A E G H q r ao f g bm X Y Z t a K C L M N Q R S i j k d l e [.b (e != a) true,.r 61 [.agg (bq F b c),af a,af e] [af m],.a .sub,.x E m (ch n V o p a0 cg),.r 258 [.agg (ch n V o p a0 cg),.agg (bn i j k d l)] [.agg (ch dx ew d0 bE f0 i0),ak s],.n s true])):
b3 151 [aM.ref [D.J 4 ao,I f,I g,D.J 8 bm,D.J 6 X,D.J 5 Y,D.J 3 Z,B t] [D.J 4 F,I b,I c,D.J 8 A,D.J 6 E,D.J 5 G,D.J 3 H,B q],aM.ro (af a)] (aT.vals [ak false]):=
h.b6
theorem ahW(h:ad (Mx H b c C E ao K q r il p a0 ui uj sA sB u a iX F iY iZ i' ka sx sy cg e dx f d0 g [.b (g != a) true,.r 61 [.agg (bq H b c),af a,af g] [af d],.a .sub,.x E d (ch i L j k l m),.r 258 [.agg (ch i L j k l m),.agg (bn cg e dx f d0)] [.agg (ch bE uk f0 i0 j0 da),ak t],.n t false,.x E d (ch i L j k l m),.a (.dr [some [D.J 4 M,I n,I o,D.J 8 G,D.J 6 N,D.J 5 Q,D.J 3 R,B s],none,none,none] (aT.vals [])),.a .sub,.p (bY prog 259 [aM.ref [D.J 4 H,I b,I c,D.J 8 C,D.J 6 (E.set d.toNat (ch bE uk f0 i0 j0 da)),D.J 5 ao,D.J 3 K,B q] [D.J 4 M,I n,I o,D.J 8 G,D.J 6 N,D.J 5 Q,D.J 3 R,B s],aM.ro (af a),aM.ro (af e),aM.ro (af 1)] (aT.vals [])),.x G a (bb S A bm V X Y Z ew),.p ((0:Int)<=(some (1:Int)).getD 0),.p ((some (1:Int)).getD 0<=none.getD (A.length:Int)),.p (none.getD (A.length:Int)<=(A.length:Int)),.g ([]:ae) (List.take (A.length-1) (List.drop 1 A)) 40,.h (List.take (A.length-1) (List.drop 1 A)),.x G a (bb S A bm V X Y Z ew)])):
b3 151 [aM.ref [D.J 4 il,I p,I a0,D.J 8 ui,D.J 6 uj,D.J 5 sA,D.J 3 sB,B u] [D.J 4 M,I n,I o,D.J 8 (G.set a.toNat (bb S ([]++List.take (A.length-1) (List.drop 1 A)) bm V X Y Z ew)),D.J 6 N,D.J 5 Q,D.J 3 R,B s],aM.ro (af a)] (aT.vals [ak true]):=
h.b6
theorem ahX(h:ad (Mx il g i A N Q R q r iX j k iY iZ i' ka s a C E F G H ao K L c d e b f l [.b (l != a) false,.a .sub,.x A a (bb C E F G H ao K L),.g C [(bn c d e b f)] 40,.e A a.toNat (bb C E F G H ao K L),.p ((bb C E F G H ao K L)[0]?=some (D.J 5 C)),.h [(bn c d e b f)],.p (A=A),.p (A=A),.p (A=A),.p (A=A),.p (A=A),.p (A=A),.p (A=A),.p (A=A),.p (A=A),.p (A=A),.p (A=A),.p (a.toNat=a.toNat),.p (C=C),.x A a (bb C E F G H ao K L),.a .sub,.p (a.toNat=a.toNat),.p (0<=a),.p (a<(↑(A.set a.toNat (bb (C++[(bn c d e b f)]) E F G H ao K L)).length:Int)),.e (A.set a.toNat (bb (C++[(bn c d e b f)]) E F G H ao K L)) a.toNat (bb S M bm V X Y Z ew),.p ((0:Int)<=(some (1:Int)).getD 0),.p ((some (1:Int)).getD 0<=none.getD (M.length:Int)),.p (none.getD (M.length:Int)<=(M.length:Int)),.g ([]:ae) (List.take (M.length-1) (List.drop 1 M)) 40,.h (List.take (M.length-1) (List.drop 1 M)),.p (0<=a),.p (a<(↑(A.set a.toNat (bb (C++[(bn c d e b f)]) E F G H ao K L)).length:Int)),.e (A.set a.toNat (bb (C++[(bn c d e b f)]) E F G H ao K L)) a.toNat (bb S M bm V X Y Z ew)])):
b3 151 [aM.ref [D.J 4 iX,I j,I k,D.J 8 iY,D.J 6 iZ,D.J 5 i',D.J 3 ka,B s] [D.J 4 il,I g,I i,D.J 8 ((A.set a.toNat (bb (C++[(bn c d e b f)]) E F G H ao K L)).set a.toNat (bb S ([]++List.take (M.length-1) (List.drop 1 M)) bm V X Y Z ew)),D.J 6 N,D.J 5 Q,D.J 3 R,B q],aM.ro (af a)] (aT.vals [ak true]):=
h.b6
theorem ahY(h:ad [.a .sub,.x L a (bb C E F G A H ao K),.a .sub,.x L a (bb C E F G A H ao K),.x A b [I d],.v (d+c),.x A b [I i],.e L a.toNat (bb C E F G A H ao K),.p (a.toNat=a.toNat),.p (a.toNat=a.toNat),.p (a.toNat=a.toNat),.p (a.toNat=a.toNat),.b r true,.a .sub,.p (0<=a),.p (a<(↑(L.set a.toNat (bb C E F G (A.set b.toNat [I (d+c)]) H ao K)).length:Int)),.e (L.set a.toNat (bb C E F G (A.set b.toNat [I (d+c)]) H ao K)) a.toNat (bb C E F G (A.set b.toNat [I (d+c)]) H ao K),.x (A.set b.toNat [I (d+c)]) b [I g],.r 168 [af g,af (-1000000),af 1000000] [ak q]]):
b3 259 [aM.ref [D.J 4 M,I e,I f,D.J 8 L,D.J 6 N,D.J 5 Q,D.J 3 R,B r] [D.J 4 M,I e,I f,D.J 8 (L.set a.toNat (bb C E F G (A.set b.toNat [I (d+c)]) H ao K)),D.J 6 N,D.J 5 Q,D.J 3 R,B q],aM.ro (af a),aM.ro (af b),aM.ro (af c)] (aT.vals []):=
h.b6
theorem ahZ(h:ad (Bg A a b c d e [.n q true])):
b3 156 [aM.ref [D.J 4 A,I a,I b,D.J 8 C,D.J 6 E,D.J 5 F,D.J 3 G,B q] [D.J 4 A,I a,I b,D.J 8 C,D.J 6 E,D.J 5 F,D.J 3 G,B q],aM.ro (af c),aM.ro (af d)] (aT.vals [ak false]):=
h.b6
theorem aha(h:ad (Bg A a b d e c [.n q false,.b (decide (c<0)) true])):
b3 156 [aM.ref [D.J 4 A,I a,I b,D.J 8 C,D.J 6 E,D.J 5 F,D.J 3 G,B q] [D.J 4 A,I a,I b,D.J 8 C,D.J 6 E,D.J 5 F,D.J 3 G,B q],aM.ro (af d),aM.ro (af e)] (aT.vals [ak false]):=
h.b6
theorem ahb(h:ad (Bh A a b c d e q [.b (c==d) true])):
b3 156 [aM.ref [D.J 4 A,I a,I b,D.J 8 C,D.J 6 E,D.J 5 F,D.J 3 G,B q] [D.J 4 A,I a,I b,D.J 8 C,D.J 6 E,D.J 5 F,D.J 3 G,B q],aM.ro (af c),aM.ro (af d)] (aT.vals [ak false]):=
h.b6
theorem ahc(h:ad (Bh A a c d e b q [.b (d==e) false,.a .sub,.x C b (ch f E g i j k),.r 260 [.agg (ch f E g i j k)] [.agg (ch l ao m n o p),.agg (bn a0 cg dx d0 bE),ak r],.n r true])):
b3 156 [aM.ref [D.J 4 A,I a,I c,D.J 8 F,D.J 6 C,D.J 5 G,D.J 3 H,B q] [D.J 4 A,I a,I c,D.J 8 F,D.J 6 C,D.J 5 G,D.J 3 H,B q],aM.ro (af d),aM.ro (af e)] (aT.vals [ak false]):=
h.b6
theorem ahd(h:ad (Bh Q i o cg a g r [.b (cg==a) false,.a .sub,.x M g (ch j R k l m n),.r 260 [.agg (ch j R k l m n)] [.agg (ch dx ka d0 bE f0 i0),.agg (bn c b d e f),ak s],.n s false,.x M g (ch j R k l m n),.a .sub,.x A a (bb C E F G H ao K L),.g C [(bn c b d e f)] 40,.e A a.toNat (bb C E F G H ao K L),.p ((bb C E F G H ao K L)[0]?=some (D.J 5 C)),.h [(bn c b d e f)],.p (A=A),.p (A=A),.p (A=A),.p (A=A),.p (A=A),.p (a.toNat=a.toNat),.p (C=C),.x A a (bb C E F G H ao K L),.a .sub,.p (a.toNat=a.toNat),.p (0<=a),.p (a<(↑(A.set a.toNat (bb (C++[(bn c b d e f)]) E F G H ao K L)).length:Int)),.e (A.set a.toNat (bb (C++[(bn c b d e f)]) E F G H ao K L)) a.toNat (bb S bm V X Y N Z ew),.x N b [B t],.e (A.set a.toNat (bb (C++[(bn c b d e f)]) E F G H ao K L)) a.toNat (bb S bm V X Y N Z ew),.a (.dr [some [D.J 4 il,I p,I a0,D.J 8 iX,D.J 6 iY,D.J 5 iZ,D.J 3 i',B q],none,none,none] (aT.vals [])),.p (a.toNat=a.toNat),.p (a.toNat=a.toNat),.p (bY prog 259 [aM.ref [D.J 4 Q,I i,I o,D.J 8 ((A.set a.toNat (bb (C++[(bn c b d e f)]) E F G H ao K L)).set a.toNat (bb S bm V X Y (N.set b.toNat [B true]) Z ew)),D.J 6 (M.set g.toNat (ch dx ka d0 bE f0 i0)),D.J 5 sx,D.J 3 sy,B r] [D.J 4 il,I p,I a0,D.J 8 iX,D.J 6 iY,D.J 5 iZ,D.J 3 i',B q],aM.ro (af a),aM.ro (af b),aM.ro (af (-1))] (aT.vals []))])):
b3 156 [aM.ref [D.J 4 Q,I i,I o,D.J 8 A,D.J 6 M,D.J 5 sx,D.J 3 sy,B r] [D.J 4 il,I p,I a0,D.J 8 iX,D.J 6 iY,D.J 5 iZ,D.J 3 i',B q],aM.ro (af cg),aM.ro (af a)] (aT.vals [ak true]):=
h.b6
theorem SV(h:ad (E2 G a b A C E F q r H c d ao K L M s e [.n r true])):
b3 170 [aM.ref [D.J 4 H,I c,I d,D.J 8 ao,D.J 6 K,D.J 5 L,D.J 3 M,B s] [D.J 4 G,I a,I b,D.J 8 A,D.J 6 C,D.J 5 E,D.J 3 F,B q],aM.ro (af e)] (aT.vals [ak false]):=
h.b6
theorem ahe(h:ad (Bi G a b A C E F q r H d e K L M N s c Q ao R S bm V X Y [.b (decide ((ao.length:Int)>0)) true])):
b3 170 [aM.ref [D.J 4 H,I d,I e,D.J 8 K,D.J 6 L,D.J 5 M,D.J 3 N,B s] [D.J 4 G,I a,I b,D.J 8 A,D.J 6 C,D.J 5 E,D.J 3 F,B q],aM.ro (af c)] (aT.vals [ak false]):=
h.b6
theorem ahf(h:ad (Bj G a b A C E F q r H d e L M N Q s c ao K R S bm V X Y [.b ((ao.length:Int)==0) true])):
b3 170 [aM.ref [D.J 4 H,I d,I e,D.J 8 L,D.J 6 M,D.J 5 N,D.J 3 Q,B s] [D.J 4 G,I a,I b,D.J 8 A,D.J 6 C,D.J 5 E,D.J 3 F,B q],aM.ro (af c)] (aT.vals [ak false]):=
h.b6
def Vz(A:ae)(a b:Int)(C E F G:ae)(q r:Bool)(H:ae)(c d:Int)(ao K L M:ae)(s:Bool)(e:Int)(N P Q R S bm V X:ae)(f g i j k:Int)(Y Z:ae)(t u:Bool)(l:List O):List O:=Bj A a b C E F G q r H c d ao K L M s e N P Q R S bm V X (.b ((N.length:Int)==0) false::.p ((0:Int)<=0)::.p (0<(N.length:Int))::.e N 0 (bn f g i j k)::.r 176 [.agg (bq A a b),aP 4 R,.agg (bn f g i j k)] [aP 4 Y,aP 5 Z,ak t]::.p ((0:Int)<=(some (1:Int)).getD 0)::.p ((some (1:Int)).getD 0<=none.getD (N.length:Int))::.p (none.getD (N.length:Int)<=(N.length:Int))::.g ([]:ae) (List.take (N.length-1) (List.drop 1 N)) 40::.h (List.take (N.length-1) (List.drop 1 N))::.r 177 [.agg (bq A a b),.agg (bn f g i j k)] [ak u]::l)
theorem ahg(h:ad (Vz M c d E N Q R q r S j k bm Y Z ew t a A F G H ao K C L e b f g i V X u s [.b s true,.x C b [B v],.e E a.toNat (bb A F G H ao K C L),.p (a.toNat=a.toNat),.p (a.toNat=a.toNat),.p (a.toNat=a.toNat),.p (a.toNat=a.toNat),.x (E.set a.toNat (bb A F G H ao K (C.set b.toNat [B true]) L)) a (bb A F G H ao K (C.set b.toNat [B true]) L),.p (a.toNat=a.toNat),.p (a.toNat=a.toNat),.p (a.toNat=a.toNat),.p (a.toNat=a.toNat),.p (a.toNat=a.toNat)])):
b3 170 [aM.ref [D.J 4 S,I j,I k,D.J 8 bm,D.J 6 Y,D.J 5 Z,D.J 3 ew,B t] [D.J 4 M,I c,I d,D.J 8 ((E.set a.toNat (bb A F G H ao K (C.set b.toNat [B true]) L)).set a.toNat (bb ([]++List.take (A.length-1) (List.drop 1 A)) X G V ao K (C.set b.toNat [B true]) L)),D.J 6 N,D.J 5 Q,D.J 3 R,B q],aM.ro (af a)] (aT.vals [ak true]):=
h.b6
theorem ahh(h:ad (Vz E b c C F G H q r S j k bm Y Z ew t a A ao K L M N Q R d e f g i V X u s [.b s false,.x C a (bb A ao K L M N Q R),.p (a.toNat=a.toNat),.p (a.toNat=a.toNat),.p (a.toNat=a.toNat),.p (a.toNat=a.toNat),.p (a.toNat=a.toNat)])):
b3 170 [aM.ref [D.J 4 S,I j,I k,D.J 8 bm,D.J 6 Y,D.J 5 Z,D.J 3 ew,B t] [D.J 4 E,I b,I c,D.J 8 (C.set a.toNat (bb ([]++List.take (A.length-1) (List.drop 1 A)) X K V M N Q R)),D.J 6 F,D.J 5 G,D.J 3 H,B q],aM.ro (af a)] (aT.vals [ak true]):=
h.b6
theorem ahi(h:ad [.b (e==1) true,.a (.dr [some [D.J 4 A,I a,I b,D.J 8 C,D.J 6 E,D.J 5 F,D.J 3 G,B q],none] (aT.vals [ak r])),.p (bY prog 170 [aM.ref [D.J 4 H,I c,I d,D.J 8 ao,D.J 6 K,D.J 5 L,D.J 3 M,B s] [D.J 4 A,I a,I b,D.J 8 C,D.J 6 E,D.J 5 F,D.J 3 G,B q],aM.ro (af f)] (aT.vals [ak r]))]):
b3 128 [aM.ref [D.J 4 H,I c,I d,D.J 8 ao,D.J 6 K,D.J 5 L,D.J 3 M,B s] [D.J 4 A,I a,I b,D.J 8 C,D.J 6 E,D.J 5 F,D.J 3 G,B q],aM.ro (.agg [I e,I f,I g])] (aT.vals [ak r]):=
h.b6
theorem ahj(h:ad [.b (c==1) false,.b (c==2) true,.a (.dr [some [D.J 4 A,I a,I b,D.J 8 C,D.J 6 E,D.J 5 F,D.J 3 G,B q],none] (aT.vals [ak r])),.p (bY prog 171 [aM.ref [D.J 4 H,I d,I e,D.J 8 ao,D.J 6 K,D.J 5 L,D.J 3 M,B s] [D.J 4 A,I a,I b,D.J 8 C,D.J 6 E,D.J 5 F,D.J 3 G,B q],aM.ro (af f)] (aT.vals [ak r]))]):
b3 128 [aM.ref [D.J 4 H,I d,I e,D.J 8 ao,D.J 6 K,D.J 5 L,D.J 3 M,B s] [D.J 4 A,I a,I b,D.J 8 C,D.J 6 E,D.J 5 F,D.J 3 G,B q],aM.ro (.agg [I c,I f,I g])] (aT.vals [ak r]):=
h.b6
def VA(a:Int)(l:List O):List O:=.b (a==1) false::.b (a==2) false::l
theorem ahk(h:ad (VA a [.b (a==3) true,.a (.dr [some [D.J 4 A,I b,I c,D.J 8 C,D.J 6 E,D.J 5 F,D.J 3 G,B q],none] (aT.vals [ak r])),.p (bY prog 151 [aM.ref [D.J 4 H,I d,I e,D.J 8 ao,D.J 6 K,D.J 5 L,D.J 3 M,B s] [D.J 4 A,I b,I c,D.J 8 C,D.J 6 E,D.J 5 F,D.J 3 G,B q],aM.ro (af f)] (aT.vals [ak r]))])):
b3 128 [aM.ref [D.J 4 H,I d,I e,D.J 8 ao,D.J 6 K,D.J 5 L,D.J 3 M,B s] [D.J 4 A,I b,I c,D.J 8 C,D.J 6 E,D.J 5 F,D.J 3 G,B q],aM.ro (.agg [I a,I f,I g])] (aT.vals [ak r]):=
h.b6
def My(a:Int)(l:List O):List O:=VA a (.b (a==3) false::l)
theorem ahl(h:ad (My a [.b (a==4) true,.a (.dr [some [D.J 4 A,I b,I c,D.J 8 C,D.J 6 E,D.J 5 F,D.J 3 G,B q],none,none] (aT.vals [ak r])),.p (bY prog 156 [aM.ref [D.J 4 H,I d,I f,D.J 8 ao,D.J 6 K,D.J 5 L,D.J 3 M,B s] [D.J 4 A,I b,I c,D.J 8 C,D.J 6 E,D.J 5 F,D.J 3 G,B q],aM.ro (af g),aM.ro (af e)] (aT.vals [ak r]))])):
b3 128 [aM.ref [D.J 4 H,I d,I f,D.J 8 ao,D.J 6 K,D.J 5 L,D.J 3 M,B s] [D.J 4 A,I b,I c,D.J 8 C,D.J 6 E,D.J 5 F,D.J 3 G,B q],aM.ro (.agg [I a,I g,I e])] (aT.vals [ak r]):=
h.b6
theorem ahm(h:ad (My a [.b (a==4) false,.b (a==5) true,.a (.dr [some [D.J 4 A,I b,I c,D.J 8 C,D.J 6 E,D.J 5 F,D.J 3 G,B q],none,none] (aT.vals [ak r])),.p (bY prog 158 [aM.ref [D.J 4 H,I d,I f,D.J 8 ao,D.J 6 K,D.J 5 L,D.J 3 M,B s] [D.J 4 A,I b,I c,D.J 8 C,D.J 6 E,D.J 5 F,D.J 3 G,B q],aM.ro (af g),aM.ro (af e)] (aT.vals [ak r]))])):
b3 128 [aM.ref [D.J 4 H,I d,I f,D.J 8 ao,D.J 6 K,D.J 5 L,D.J 3 M,B s] [D.J 4 A,I b,I c,D.J 8 C,D.J 6 E,D.J 5 F,D.J 3 G,B q],aM.ro (.agg [I a,I g,I e])] (aT.vals [ak r]):=
h.b6
def Mz(a:Int)(l:List O):List O:=My a (.b (a==4) false::.b (a==5) false::l)
theorem ahn(h:ad (Mz a [.b (a==6) true,.a (.dr [some [D.J 4 A,I b,I c,D.J 8 C,D.J 6 E,D.J 5 F,D.J 3 G,B q],none] (aT.vals [ak r])),.p (bY prog 246 [aM.ref [D.J 4 H,I d,I e,D.J 8 ao,D.J 6 K,D.J 5 L,D.J 3 M,B s] [D.J 4 A,I b,I c,D.J 8 C,D.J 6 E,D.J 5 F,D.J 3 G,B q],aM.ro (af f)] (aT.vals [ak r]))])):
b3 128 [aM.ref [D.J 4 H,I d,I e,D.J 8 ao,D.J 6 K,D.J 5 L,D.J 3 M,B s] [D.J 4 A,I b,I c,D.J 8 C,D.J 6 E,D.J 5 F,D.J 3 G,B q],aM.ro (.agg [I a,I f,I g])] (aT.vals [ak r]):=
h.b6
theorem aho(h:ad (Mz a [.b (a==6) false,.b (a==7) true,.a (.dr [some [D.J 4 A,I b,I c,D.J 8 C,D.J 6 E,D.J 5 F,D.J 3 G,B q],none] (aT.vals [ak r])),.p (bY prog 247 [aM.ref [D.J 4 H,I d,I e,D.J 8 ao,D.J 6 K,D.J 5 L,D.J 3 M,B s] [D.J 4 A,I b,I c,D.J 8 C,D.J 6 E,D.J 5 F,D.J 3 G,B q],aM.ro (af f)] (aT.vals [ak r]))])):
b3 128 [aM.ref [D.J 4 H,I d,I e,D.J 8 ao,D.J 6 K,D.J 5 L,D.J 3 M,B s] [D.J 4 A,I b,I c,D.J 8 C,D.J 6 E,D.J 5 F,D.J 3 G,B q],aM.ro (.agg [I a,I f,I g])] (aT.vals [ak r]):=
h.b6
theorem ahp(h:ad (Mz a [.b (a==6) false,.b (a==7) false])):
b3 128 [aM.ref [D.J 4 A,I b,I c,D.J 8 C,D.J 6 E,D.J 5 F,D.J 3 G,B q] [D.J 4 A,I b,I c,D.J 8 C,D.J 6 E,D.J 5 F,D.J 3 G,B q],aM.ro (.agg [I a,I e,I d])] (aT.vals [ak false]):=
h.b6
def vr(A:ae)(a b:Int)(C:ae)(c d:Int)(E F G H:ae)(q:Bool):aI:=bg 22 [(0,aQ 1000000000),(1,.aK (.one (.de 1000000200 3 A))),(5,aY b),(6,aY a)] [(1000000000,[aC 950001000 4 C,ax c,ax d,aC 950001003 8 E,aC 950001004 6 F,aC 950001005 5 G,aC 950001006 3 H,.ba q])]
theorem ahq(h:ad (Mw H a g i j A c d C E F G q r ao e f K L M N s [.b r true,.u b,.u a])):
a7 (aq f131 0) (vr H a b ao e f K L M N s) .normal (vr H (a+1) (b+1) A c d C E F G q):=
h.pF [(1000000001000000,950001000,4),(1000000001000003,950001003,8),(1000000001000004,950001004,6),(1000000001000005,950001005,5),(1000000001000006,950001006,3)] [6,1,0,5] [1000000000]
theorem ahr(h:ad (Mw H a g i j A b c C E F G q r ao e f K L M N s [.b r false,.u a])):
a7 (aq f131 0) (vr H a d ao e f K L M N s) .normal (vr H (a+1) d A b c C E F G q):=
h.pF [(1000000001000000,950001000,4),(1000000001000003,950001003,8),(1000000001000004,950001004,6),(1000000001000005,950001005,5),(1000000001000006,950001006,3)] [6,1,0,5] [1000000000]
def SX(a:Int)(A:ae)(b c:Int)(C E F G:ae)(q:Bool):aI:=bg 22 [(0,aQ 1000000000),(5,aY a)] [(1000000000,[aC 950001000 4 A,ax b,ax c,aC 950001003 8 C,aC 950001004 6 E,aC 950001005 5 F,aC 950001006 3 G,.ba q])]
theorem ahs(h:ad [.f H d false]):
a7 (aq f131 0) (vr H d a A b c C E F G q) (.exit 0) (SX a A b c C E F G q):=
h.aX [5,0] [1000000000]
theorem aht(h:ad [.l [(1000000001000000,950001000,4),(1000000001000003,950001003,8),(1000000001000004,950001004,6),(1000000001000005,950001005,5),(1000000001000006,950001006,3)] [6,1,0,5] [1000000000] (aq f131 0) (vr N 0 0 A a d ao K L M r) (.exit 0) (SX e C b c E F G H q)]):
b3 131 [aM.ref [D.J 4 A,I a,I d,D.J 8 ao,D.J 6 K,D.J 5 L,D.J 3 M,B r] [D.J 4 C,I b,I c,D.J 8 E,D.J 6 F,D.J 5 G,D.J 3 H,B q],aM.ro (aP 3 N)] (aT.vals [af e]):=
h.b6
