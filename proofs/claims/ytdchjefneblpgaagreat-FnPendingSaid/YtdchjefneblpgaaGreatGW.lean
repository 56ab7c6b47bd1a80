import Derived.Test.YtdchjefneblpgaaGreatGE
set_option linter.unusedVariables false
set_option linter.unusedSimpArgs false
namespace Go.Proofs.YtdchjefneblpgaaGreat
open Go.Sx Go.RowKit Go.Proofs.Tryz
variable {a b c d e f g i j k l m n o p a0 cf dg d0 bE f0 g0 i0 j0 : Int} {A C E F G H aw K L M N Q R S bO V X Y Z fu kt lj lR n1 n2 r4 u6 u7 FY FZ F0 F1 F2 : ai} {q r s t u v : Bool}
end Go.Proofs.YtdchjefneblpgaaGreat
namespace Go.Proofs.YtdchjefneblpgaaGreat
open Go.Sx Go.RowKit Go.Proofs.Tryz
variable {a b c d e f g i j k l m n o p a0 cf dg d0 bE f0 g0 i0 j0 : Int} {A C E F G H aw K L M N Q R S bO V X Y Z fu kt lj lR n1 n2 r4 u6 u7 FY FZ F0 F1 F2 : ai} {q r s t u v : Bool}
def qJ(a:Int)(A:ai)(b c d e f:Int)(C:ai)(g i j k:Int)(q:Bool)(l:List O):List O:=.r 279 [.agg (cI a A b c d e)] [.agg (cI f C g i j k)]::.r 191 [.agg (cI f C g i j k)] [aI q]::l
theorem agO(h:ak (qJ f C g i j k c A d e a b q [.n q true])):
 aK 261 [.agg (cI f C g i j k)] [.agg (cI c A d e a b),aI false]:=
 h.of
theorem agP(h:ak (qJ f C g i j k d A e a b c q [.n q false,.b (a==0) true])):
 aK 261 [.agg (cI f C g i j k)] [.agg (cI d A e a b c),aI false]:=
 h.of
theorem agQ(h:ak (qJ f C g i j k e A b a c d q [.n q false,.b (a==0) false,.v (a-1),.u b])):
 aK 261 [.agg (cI f C g i j k)] [.agg (cI e A (b+1) (a-1) c d),aI true]:=
 h.of
def uN(A:ai)(a d:Int)(C:ai)(e f:Int)(E F G H:ai)(q:Bool)(b c:Int):aE:=bi 34 [(1,aZ a),(4,aS 4),(6,aS 10),(7,aB.aD (bd.one (ay 130000 3 A))),(8,aZ d)] [(10,[ay 900011000 4 C,aq e,aq f,ay 900011003 8 E,ay 900011004 6 F,ay 900011005 5 G,ay 900011006 3 H,.bg q]),(4,[.v (aO),aq b,aq c,.v (aO),.v (aO),.v (aO),.v (aO)])]
def Lh(a:Int)(A:ai)(b c:Int)(C E F G:ai):aE:=bi 34 [(4,aS 4),(5,aZ a)] [(4,[ay 235000 4 A,aq b,aq c,ay 235003 8 C,ay 235004 6 E,ay 235005 5 F,ay 235006 3 G])]
def VN(a b:Int)(A:ai)(c d:Int)(C E F G:ai)(q:Bool)(e:Int)(H:ai)(f g:Int)(aw K L M:ai)(r:Bool)(N:ai)(l:List O):List O:=.b (decide (a<=b)) true::.a (.dq [some [D.J 4 A,I c,I d,D.J 8 C,D.J 6 E,D.J 5 F,D.J 3 G,B q],none] (aT.vals [al e]))::.p (bU prog 131 [aJ.ref [D.J 4 H,I f,I g,D.J 8 aw,D.J 6 K,D.J 5 L,D.J 3 M,B r] [D.J 4 A,I c,I d,D.J 8 C,D.J 6 E,D.J 5 F,D.J 3 G,B q],aJ.ro (a7 3 N)] (aT.vals [al e]))::l
theorem agR(h:ak (VN a e A b c C E F G r d aw f g K L M N q H [.b (d==0) true])):
 bb (az f16 0) (uN H e a aw f g K L M N q i j) .ret (Lh a A b c C E F G):=
 h.a' [4,5] [4]
theorem Uw(h:ak (VN a b C c d E F G H q e aw f g K L M N r A [.b (e==0) false,.u a])):
 bb (az f16 0) (uN A b a aw f g K L M N r i j) .normal (uN A b (a+1) C c d E F G H q i j):=
 h.lu [(11000000,900011000,4),(11000003,900011003,8),(11000004,900011004,6),(11000005,900011005,5),(11000006,900011006,3)] [8,1,6,7,4] [10,4]
def Li(a:Int)(A:ai)(c d:Int)(C E F G:ai)(q:Bool)(e b:Int):aE:=bi 34 [(1,aZ a),(4,aS 4),(6,aS 10)] [(10,[ay 900011000 4 A,aq c,aq d,ay 900011003 8 C,ay 900011004 6 E,ay 900011005 5 F,ay 900011006 3 G,.bg q]),(4,[.v (aO),aq e,aq b,.v (aO),.v (aO),.v (aO),.v (aO)])]
theorem agS(h:ak [.b (decide (b<=a)) false]):
 bb (az f16 0) (uN H a b A c d C E F G q e f) (.exit 0) (Li a A c d C E F G q e f):=
 h.a' [6,1,4] [10,4]
def Ms(A:ai)(a b:Int)(C E F G:ai)(q:Bool)(H:ai)(c d:Int)(aw K L M:ai)(l:List O):List O:=.a (.dq [none] (aT.new [D.J 4 A,I a,I b,D.J 8 C,D.J 6 E,D.J 5 F,D.J 3 G,B q]))::.p (bU prog 127 [aJ.ro (.agg (cl H c d aw K L M))] (aT.new [D.J 4 A,I a,I b,D.J 8 C,D.J 6 E,D.J 5 F,D.J 3 G,B q]))::l
theorem agT(h:ak (Ms M d b C E F G q A a c H aw K L [.r 129 [.agg (cl A a c H aw K L)] [a7 3 N],.r 130 [al j,al 0,al 3000] [al e],.l [(11000000,900011000,4),(11000003,900011003,8),(11000004,900011004,6),(11000005,900011005,5),(11000006,900011006,3)] [8,1,6,7,4] [10,4] (az f16 0) (uN N e 1 M d b C E F G q 0 0) .ret (Lh f Q g i R S bO V)])):
 aK 16 [.agg (cl A a c H aw K L),al j] [.agg (cl Q g i R S bO V),al f]:=
 h.of
theorem agU(h:ak (Ms M e c C E F G q A b d H aw K L [.r 129 [.agg (cl A b d H aw K L)] [a7 3 N],.r 130 [al i,al 0,al 3000] [al a],.l [(11000000,900011000,4),(11000003,900011003,8),(11000004,900011004,6),(11000005,900011005,5),(11000006,900011006,3)] [8,1,6,7,4] [10,4] (az f16 0) (uN N a 1 M e c C E F G q 0 0) (.exit 0) (Li a Q f g R S bO V r j k)])):
 aK 16 [.agg (cl A b d H aw K L),al i] [.agg (cl Q f g R S bO V),al a]:=
 h.of
def VO(a b:Int)(q:Bool)(l:List O):List O:=.a .wr::.r 168 [al a,al 0,al (IntKind.i64.wrap (b-1))] [aI q]::l
theorem Ux(h:ak (VO b a q [.n q true])):
 aK 61 [.agg (bS A a c),al b,al d] [al (-1)]:=
 h.of
def Mt(a b:Int)(q:Bool)(c:Int)(r:Bool)(l:List O):List O:=VO a b q (.n q false::.a .wr::.r 168 [al c,al 0,al (IntKind.i64.wrap (b-1))] [aI r]::l)
theorem Uy(h:ak (Mt b a q c r [.n r true])):
 aK 61 [.agg (bS A a d),al b,al c] [al (-1)]:=
 h.of
theorem agV(h:ak (Mt b a q c r [.n r false,.b (decide (a<1)) true])):
 aK 61 [.agg (bS A a d),al b,al c] [al (-1)]:=
 h.of
theorem Uz(h:ak (Mt b a q c r [.n r false,.b (decide (a<1)) false,.a .wr,.a .wr])):
 aK 61 [.agg (bS A a d),al b,al c] [al (IntKind.i64.wrap (IntKind.i64.wrap (b*a)+c))]:=
 h.of
def yY(A:ai)(a:Int)(C E:ai)(d e:Int)(F G H aw:ai)(q:Bool)(b c:Int):aE:=bi 32 [(1,dX 3 A),(4,aS 4),(6,aS 10),(7,aB.aD (bd.one (ay 11 1 C))),(8,aZ a)] [(10,[ay 900011000 4 E,aq d,aq e,ay 900011003 8 F,ay 900011004 6 G,ay 900011005 5 H,ay 900011006 3 aw,.bg q]),(4,[.v (aO),aq b,aq c,.v (aO),.v (aO),.v (aO),.v (aO)])]
def Mu(A:ai)(a b c d:Int)(C:ai)(e f:Int)(E F G H:ai)(q r:Bool)(aw:ai)(g i:Int)(K L M N:ai)(s:Bool)(l:List O):List O:=.i A a [I b,I c,I d]::.a (.dq [some [D.J 4 C,I e,I f,D.J 8 E,D.J 6 F,D.J 5 G,D.J 3 H,B q],none] (aT.vals [aI r]))::.p (bU prog 128 [aJ.ref [D.J 4 aw,I g,I i,D.J 8 K,D.J 6 L,D.J 5 M,D.J 3 N,B s] [D.J 4 C,I e,I f,D.J 8 E,D.J 6 F,D.J 5 G,D.J 3 H,B q],aJ.ro (.agg [I b,I c,I d])] (aT.vals [aI r]))::l
theorem agW(h:ak (Mu aw a i j k C b c E F G H r q K d e L M N Q s [.g A [[B q]] 1,.h [[B q]],.u a])):
 bb (az f15 0) (yY aw a A K d e L M N Q s f g) .normal (yY aw (a+1) (A++[[B q]]) C b c E F G H r f g):=
 h.lu [(11000000,900011000,4),(11000003,900011003,8),(11000004,900011004,6),(11000005,900011005,5),(11000006,900011006,3)] [8,1,7,6,4] [10,4]
def Lj(A C:ai)(b c:Int)(E F G H:ai)(q:Bool)(d a:Int):aE:=bi 32 [(4,aS 4),(6,aS 10),(7,aB.aD (bd.one (ay 11 1 A)))] [(10,[ay 900011000 4 C,aq b,aq c,ay 900011003 8 E,ay 900011004 6 F,ay 900011005 5 G,ay 900011006 3 H,.bg q]),(4,[.v (aO),aq d,aq a,.v (aO),.v (aO),.v (aO),.v (aO)])]
theorem agX(h:ak [.f aw a false]):
 bb (az f15 0) (yY aw a A C b c E F G H q d e) (.exit 0) (Lj A C b c E F G H q d e):=
 h.a' [6,7,4] [10,4]
theorem agY(h:ak (Ms G b a A C E F q H c f R S bO V [.l [(11000000,900011000,4),(11000003,900011003,8),(11000004,900011004,6),(11000005,900011005,5),(11000006,900011006,3)] [8,1,7,6,4] [10,4] (az f15 0) (yY X 0 [] G b a A C E F q 0 0) (.exit 0) (Lj aw K d e L M N Q r g i)])):
 aK 15 [.agg (cl H c f R S bO V),a7 3 X] [.agg (cl K d e L M N Q),a7 1 aw]:=
 h.of
theorem agZ(h:ak (qJ f C g i j k a A b c d e q [.n q true])):
 aK 258 [.agg (cI f C g i j k),.agg (bu m n o p l)] [.agg (cI a A b c d e),aI false]:=
 h.of
theorem ag0(h:ak (qJ f C i j k l a A b c d e q [.n q false,.r 122 [.agg (bu m n o p g)] [aI r],.n r true])):
 aK 258 [.agg (cI f C i j k l),.agg (bu m n o p g)] [.agg (cI a A b c d e),aI false]:=
 h.of
theorem ag1(h:ak (qJ f C i j k l b A a c d e q [.n q false,.r 122 [.agg (bu m n o p g)] [aI r],.n r false,.b (a==0) true])):
 aK 258 [.agg (cI f C i j k l),.agg (bu m n o p g)] [.agg (cI b A a c d e),aI false]:=
 h.of
theorem ag2(h:ak (qJ f C i j k l c A a d b e q [.n q false,.r 122 [.agg (bu m n o p g)] [aI r],.n r false,.b (a==0) false,.b (decide (b>=1000000000)) true])):
 aK 258 [.agg (cI f C i j k l),.agg (bu m n o p g)] [.agg (cI c A a d b e),aI false]:=
 h.of
theorem ag3(h:ak (qJ l C m n o p i A b j c k q [.n q false,.r 122 [.agg (bu d e f g a)] [aI r],.n r false,.b (b==0) false,.b (decide (c>=1000000000)) false,.g A [(bu d e f g a)] 40,.h [(bu d e f g a)],.v (b-1),.u c])):
 aK 258 [.agg (cI l C m n o p),.agg (bu d e f g a)] [.agg (cI i (A++[(bu d e f g a)]) (b-1) j (c+1) k),aI true]:=
 h.of
theorem ag4(h:ak (qJ f C g i j k c A d e a b q [.n q true])):
 aK 260 [.agg (cI f C g i j k)] [.agg (cI c A d e a b),.agg (bu 0 0 0 0 0),aI false]:=
 h.of
theorem ag5(h:ak (qJ f C g i j k c A d e a b q [.n q false,.b ((A.length:Int)==0) true])):
 aK 260 [.agg (cI f C g i j k)] [.agg (cI c A d e a b),.agg (bu 0 0 0 0 0),aI false]:=
 h.of
theorem ag6(h:ak (qJ f C m n o p d A e b c a q [.n q false,.b ((A.length:Int)==0) false,.p ((0:Int)<=0),.p (0<(A.length:Int)),.e A 0 (bu g i j k l),.p ((0:Int)<=(some (1:Int)).getD 0),.p ((some (1:Int)).getD 0<=none.getD (A.length:Int)),.p (none.getD (A.length:Int)<=(A.length:Int)),.g ([]:ai) (List.take (A.length-1) (List.drop 1 A)) 40,.h (List.take (A.length-1) (List.drop 1 A)),.u a,.u b])):
 aK 260 [.agg (cI f C m n o p)] [.agg (cI d ([]++List.take (A.length-1) (List.drop 1 A)) e (b+1) c (a+1)),.agg (bu g i j k l),aI true]:=
 h.of
def Cc(A:ai)(a b c d e:Int)(l:List O):List O:=.r 61 [.agg (bS A a b),al c,al d] [al e]::l
theorem ag7(h:ak (Cc A a b c d e [.n q true])):
 bZ 158 [aJ.ref [D.J 4 A,I a,I b,D.J 8 C,D.J 6 E,D.J 5 F,D.J 3 G,B q] [D.J 4 A,I a,I b,D.J 8 C,D.J 6 E,D.J 5 F,D.J 3 G,B q],aJ.ro (al c),aJ.ro (al d)] (aT.vals [aI false]):=
 h.b0
theorem ag8(h:ak (Cc A a b d e c [.n q false,.b (decide (c<0)) true])):
 bZ 158 [aJ.ref [D.J 4 A,I a,I b,D.J 8 C,D.J 6 E,D.J 5 F,D.J 3 G,B q] [D.J 4 A,I a,I b,D.J 8 C,D.J 6 E,D.J 5 F,D.J 3 G,B q],aJ.ro (al d),aJ.ro (al e)] (aT.vals [aI false]):=
 h.b0
def Cd(A:ai)(a b c d e:Int)(q:Bool)(l:List O):List O:=Cc A a b c d e (.n q false::.b (decide (e<0)) false::l)
theorem ag9(h:ak (Cd A a b c d e q [.b (c==d) true])):
 bZ 158 [aJ.ref [D.J 4 A,I a,I b,D.J 8 C,D.J 6 E,D.J 5 F,D.J 3 G,B q] [D.J 4 A,I a,I b,D.J 8 C,D.J 6 E,D.J 5 F,D.J 3 G,B q],aJ.ro (al c),aJ.ro (al d)] (aT.vals [aI false]):=
 h.b0
theorem aha(h:ak (Cd C b i j k a q [.b (j==k) false,.a .sub,.x A a (cI c E d e f g),.r 261 [.agg (cI c E d e f g)] [.agg (cI l F m n o p),aI r],.x A a (cI c E d e f g)])):
 bZ 158 [aJ.ref [D.J 4 C,I b,I i,D.J 8 G,D.J 6 A,D.J 5 H,D.J 3 aw,B q] [D.J 4 C,I b,I i,D.J 8 G,D.J 6 (A.set a.toNat (cI l F m n o p)),D.J 5 H,D.J 3 aw,B q],aJ.ro (al j),aJ.ro (al k)] (aT.vals [aI r]):=
 h.b0
def FF(A:ai)(a b:Int)(C E F G:ai)(q r:Bool)(H:ai)(c d:Int)(aw K L M:ai)(s:Bool)(e:Int)(l:List O):List O:=.a (.dq [some [D.J 4 A,I a,I b,D.J 8 C,D.J 6 E,D.J 5 F,D.J 3 G,B q],none] (aT.vals [aI r]))::.p (bU prog 257 [aJ.ref [D.J 4 H,I c,I d,D.J 8 aw,D.J 6 K,D.J 5 L,D.J 3 M,B s] [D.J 4 A,I a,I b,D.J 8 C,D.J 6 E,D.J 5 F,D.J 3 G,B q],aJ.ro (al e)] (aT.vals [aI r]))::l
theorem UA(h:ak (FF G a b A C E F q r H c d aw K L M s e [.n r true])):
 bZ 171 [aJ.ref [D.J 4 H,I c,I d,D.J 8 aw,D.J 6 K,D.J 5 L,D.J 3 M,B s] [D.J 4 G,I a,I b,D.J 8 A,D.J 6 C,D.J 5 E,D.J 3 F,B q],aJ.ro (al e)] (aT.vals [aI false]):=
 h.b0
def Ce(A:ai)(a b:Int)(C E F G:ai)(q r:Bool)(H:ai)(c d:Int)(aw K L M:ai)(s:Bool)(e:Int)(N P Q R S bO V X:ai)(l:List O):List O:=FF A a b C E F G q r H c d aw K L M s e (.n r false::.a .sub::.x C e (bz N P Q R S bO V X)::l)
theorem ahb(h:ak (Ce G a b A C E F q r H d e K L M N s c Q aw R S bO V X Y [.b (decide ((aw.length:Int)>0)) true])):
 bZ 171 [aJ.ref [D.J 4 H,I d,I e,D.J 8 K,D.J 6 L,D.J 5 M,D.J 3 N,B s] [D.J 4 G,I a,I b,D.J 8 A,D.J 6 C,D.J 5 E,D.J 3 F,B q],aJ.ro (al c)] (aT.vals [aI false]):=
 h.b0
def Ch(A:ai)(a b:Int)(C E F G:ai)(q r:Bool)(H:ai)(c d:Int)(aw K L M:ai)(s:Bool)(e:Int)(N P Q R S bO V X:ai)(l:List O):List O:=Ce A a b C E F G q r H c d aw K L M s e N P Q R S bO V X (.b (decide ((P.length:Int)>0)) false::l)
theorem ahc(h:ak (Ch G a b A C E F q r H d e L M N Q s c aw K R S bO V X Y [.b (decide ((aw.length:Int)>0)) true])):
 bZ 171 [aJ.ref [D.J 4 H,I d,I e,D.J 8 L,D.J 6 M,D.J 5 N,D.J 3 Q,B s] [D.J 4 G,I a,I b,D.J 8 A,D.J 6 C,D.J 5 E,D.J 3 F,B q],aJ.ro (al c)] (aT.vals [aI false]):=
 h.b0
theorem agD(h:ak (Ch G a b A C E F q r H d e M N Q R s c aw K L S bO V X Y [.b (decide ((aw.length:Int)>0)) false,.b ((L.length:Int)==0) true])):
 bZ 171 [aJ.ref [D.J 4 H,I d,I e,D.J 8 M,D.J 6 N,D.J 5 Q,D.J 3 R,B s] [D.J 4 G,I a,I b,D.J 8 A,D.J 6 C,D.J 5 E,D.J 3 F,B q],aJ.ro (al c)] (aT.vals [aI false]):=
 h.b0
theorem agE(h:ak (Ch R b c C F G H q r S d e bO V X Y s a aw E A K L M N Q [.b (decide ((aw.length:Int)>0)) false,.b ((A.length:Int)==0) false,.p ((0:Int)<=0),.p (0<(A.length:Int)),.e A 0 (bu f g i j k),.p ((0:Int)<=(some (1:Int)).getD 0),.p ((some (1:Int)).getD 0<=none.getD (A.length:Int)),.p (none.getD (A.length:Int)<=(A.length:Int)),.g ([]:ai) (List.take (A.length-1) (List.drop 1 A)) 40,.h (List.take (A.length-1) (List.drop 1 A)),.x C a (bz aw E A K L M N Q),.p (a.toNat=a.toNat),.p (a.toNat=a.toNat),.p (a.toNat=a.toNat),.p (a.toNat=a.toNat),.p (a.toNat=a.toNat),.p (a.toNat=a.toNat)])):
 bZ 171 [aJ.ref [D.J 4 S,I d,I e,D.J 8 bO,D.J 6 V,D.J 5 X,D.J 3 Y,B s] [D.J 4 R,I b,I c,D.J 8 (C.set a.toNat [D.J 5 [(bu f g i j k)],D.J 5 E,D.J 5 ([]++List.take (A.length-1) (List.drop 1 A)),D.J 4 K,D.J 1 L,D.J 1 M,D.J 1 N,D.J 2 Q]),D.J 6 F,D.J 5 G,D.J 3 H,B q],aJ.ro (al a)] (aT.vals [aI true]):=
 h.b0
theorem UB(h:ak [.b q true,.v ((A.length:Int)-1),.r 168 [al c,al 0,al ((A.length:Int)-1)] [aI r]]):
 bZ 257 [aJ.ref [D.J 4 C,I a,I b,D.J 8 A,D.J 6 E,D.J 5 F,D.J 3 G,B q] [D.J 4 C,I a,I b,D.J 8 A,D.J 6 E,D.J 5 F,D.J 3 G,B q],aJ.ro (al c)] (aT.vals [aI r]):=
 h.b0
theorem agF(h:ak [.b q false]):
 bZ 257 [aJ.ref [D.J 4 A,I a,I b,D.J 8 C,D.J 6 E,D.J 5 F,D.J 3 G,B q] [D.J 4 A,I a,I b,D.J 8 C,D.J 6 E,D.J 5 F,D.J 3 G,B q],aJ.ro (al c)] (aT.vals [aI false]):=
 h.b0
theorem UC(h:ak (FF G a b A C E F q r H c d aw K L M s e [.n r true])):
 bZ 151 [aJ.ref [D.J 4 H,I c,I d,D.J 8 aw,D.J 6 K,D.J 5 L,D.J 3 M,B s] [D.J 4 G,I a,I b,D.J 8 A,D.J 6 C,D.J 5 E,D.J 3 F,B q],aJ.ro (al e)] (aT.vals [aI false]):=
 h.b0
theorem agG(h:ak (Ce G a b A C E F q r H d e K L M N s c Q aw R S bO V X Y [.b ((aw.length:Int)==0) true])):
 bZ 151 [aJ.ref [D.J 4 H,I d,I e,D.J 8 K,D.J 6 L,D.J 5 M,D.J 3 N,B s] [D.J 4 G,I a,I b,D.J 8 A,D.J 6 C,D.J 5 E,D.J 3 F,B q],aJ.ro (al c)] (aT.vals [aI false]):=
 h.b0
def MA(A:ai)(a b:Int)(C E F G:ai)(q r:Bool)(H:ai)(c d:Int)(aw K L M:ai)(s:Bool)(e:Int)(N P Q R S bO V X:ai)(f g i j k m:Int)(l:List O):List O:=Ce A a b C E F G q r H c d aw K L M s e N P Q R S bO V X (.b ((P.length:Int)==0) false::.a .sub::.x C e (bz N P Q R S bO V X)::.p ((0:Int)<=0)::.p (0<(P.length:Int))::.e P 0 (bu f g i j k)::.r 245 [al j,al a] [al m]::l)
theorem agH(h:ak (MA F b c A E G H q r aw f g bO X Y Z t a K C L M N Q R S i j k d l e [.b (e != a) true,.r 61 [.agg (bS F b c),al a,al e] [al m],.a .sub,.x E m (cI n V o p a0 cf),.r 258 [.agg (cI n V o p a0 cf),.agg (bu i j k d l)] [.agg (cI dg fu d0 bE f0 g0),aI s],.n s true])):
 bZ 151 [aJ.ref [D.J 4 aw,I f,I g,D.J 8 bO,D.J 6 X,D.J 5 Y,D.J 3 Z,B t] [D.J 4 F,I b,I c,D.J 8 A,D.J 6 E,D.J 5 G,D.J 3 H,B q],aJ.ro (al a)] (aT.vals [aI false]):=
 h.b0
theorem agI(h:ak (MA H b c C E aw K q r kt p a0 FY FZ F1 F2 u a lj F lR n1 n2 r4 u6 u7 cf e dg f d0 g [.b (g != a) true,.r 61 [.agg (bS H b c),al a,al g] [al d],.a .sub,.x E d (cI i L j k l m),.r 258 [.agg (cI i L j k l m),.agg (bu cf e dg f d0)] [.agg (cI bE F0 f0 g0 i0 j0),aI t],.n t false,.x E d (cI i L j k l m),.a (.dq [some [D.J 4 M,I n,I o,D.J 8 G,D.J 6 N,D.J 5 Q,D.J 3 R,B s],none,none,none] (aT.vals [])),.a .sub,.p (bU prog 259 [aJ.ref [D.J 4 H,I b,I c,D.J 8 C,D.J 6 (E.set d.toNat (cI bE F0 f0 g0 i0 j0)),D.J 5 aw,D.J 3 K,B q] [D.J 4 M,I n,I o,D.J 8 G,D.J 6 N,D.J 5 Q,D.J 3 R,B s],aJ.ro (al a),aJ.ro (al e),aJ.ro (al 1)] (aT.vals [])),.x G a (bz S A bO V X Y Z fu),.p ((0:Int)<=(some (1:Int)).getD 0),.p ((some (1:Int)).getD 0<=none.getD (A.length:Int)),.p (none.getD (A.length:Int)<=(A.length:Int)),.g ([]:ai) (List.take (A.length-1) (List.drop 1 A)) 40,.h (List.take (A.length-1) (List.drop 1 A)),.x G a (bz S A bO V X Y Z fu)])):
 bZ 151 [aJ.ref [D.J 4 kt,I p,I a0,D.J 8 FY,D.J 6 FZ,D.J 5 F1,D.J 3 F2,B u] [D.J 4 M,I n,I o,D.J 8 (G.set a.toNat (bz S ([]++List.take (A.length-1) (List.drop 1 A)) bO V X Y Z fu)),D.J 6 N,D.J 5 Q,D.J 3 R,B s],aJ.ro (al a)] (aT.vals [aI true]):=
 h.b0
theorem agJ(h:ak (MA kt g i A N Q R q r lj j k lR n1 n2 r4 s a C E F G H aw K L c d e b f l [.b (l != a) false,.a .sub,.x A a (bz C E F G H aw K L),.g C [(bu c d e b f)] 40,.e A a.toNat (bz C E F G H aw K L),.p ((bz C E F G H aw K L)[0]?=some (D.J 5 C)),.h [(bu c d e b f)],.p (A=A),.p (A=A),.p (A=A),.p (A=A),.p (A=A),.p (A=A),.p (A=A),.p (A=A),.p (A=A),.p (A=A),.p (A=A),.p (a.toNat=a.toNat),.p (C=C),.x A a (bz C E F G H aw K L),.a .sub,.p (a.toNat=a.toNat),.p (0<=a),.p (a<(↑(A.set a.toNat (bz (C++[(bu c d e b f)]) E F G H aw K L)).length:Int)),.e (A.set a.toNat (bz (C++[(bu c d e b f)]) E F G H aw K L)) a.toNat (bz S M bO V X Y Z fu),.p ((0:Int)<=(some (1:Int)).getD 0),.p ((some (1:Int)).getD 0<=none.getD (M.length:Int)),.p (none.getD (M.length:Int)<=(M.length:Int)),.g ([]:ai) (List.take (M.length-1) (List.drop 1 M)) 40,.h (List.take (M.length-1) (List.drop 1 M)),.p (0<=a),.p (a<(↑(A.set a.toNat (bz (C++[(bu c d e b f)]) E F G H aw K L)).length:Int)),.e (A.set a.toNat (bz (C++[(bu c d e b f)]) E F G H aw K L)) a.toNat (bz S M bO V X Y Z fu)])):
 bZ 151 [aJ.ref [D.J 4 lj,I j,I k,D.J 8 lR,D.J 6 n1,D.J 5 n2,D.J 3 r4,B s] [D.J 4 kt,I g,I i,D.J 8 ((A.set a.toNat (bz (C++[(bu c d e b f)]) E F G H aw K L)).set a.toNat (bz S ([]++List.take (M.length-1) (List.drop 1 M)) bO V X Y Z fu)),D.J 6 N,D.J 5 Q,D.J 3 R,B q],aJ.ro (al a)] (aT.vals [aI true]):=
 h.b0
theorem agK(h:ak [.a .sub,.x L a (bz C E F G A H aw K),.a .sub,.x L a (bz C E F G A H aw K),.x A b [I d],.v (d+c),.x A b [I i],.e L a.toNat (bz C E F G A H aw K),.p (a.toNat=a.toNat),.p (a.toNat=a.toNat),.p (a.toNat=a.toNat),.p (a.toNat=a.toNat),.b r true,.a .sub,.p (0<=a),.p (a<(↑(L.set a.toNat (bz C E F G (A.set b.toNat [I (d+c)]) H aw K)).length:Int)),.e (L.set a.toNat (bz C E F G (A.set b.toNat [I (d+c)]) H aw K)) a.toNat (bz C E F G (A.set b.toNat [I (d+c)]) H aw K),.x (A.set b.toNat [I (d+c)]) b [I g],.r 168 [al g,al (-1000000),al 1000000] [aI q]]):
 bZ 259 [aJ.ref [D.J 4 M,I e,I f,D.J 8 L,D.J 6 N,D.J 5 Q,D.J 3 R,B r] [D.J 4 M,I e,I f,D.J 8 (L.set a.toNat (bz C E F G (A.set b.toNat [I (d+c)]) H aw K)),D.J 6 N,D.J 5 Q,D.J 3 R,B q],aJ.ro (al a),aJ.ro (al b),aJ.ro (al c)] (aT.vals []):=
 h.b0
theorem agL(h:ak (Cc A a b c d e [.n q true])):
 bZ 156 [aJ.ref [D.J 4 A,I a,I b,D.J 8 C,D.J 6 E,D.J 5 F,D.J 3 G,B q] [D.J 4 A,I a,I b,D.J 8 C,D.J 6 E,D.J 5 F,D.J 3 G,B q],aJ.ro (al c),aJ.ro (al d)] (aT.vals [aI false]):=
 h.b0
theorem agM(h:ak (Cc A a b d e c [.n q false,.b (decide (c<0)) true])):
 bZ 156 [aJ.ref [D.J 4 A,I a,I b,D.J 8 C,D.J 6 E,D.J 5 F,D.J 3 G,B q] [D.J 4 A,I a,I b,D.J 8 C,D.J 6 E,D.J 5 F,D.J 3 G,B q],aJ.ro (al d),aJ.ro (al e)] (aT.vals [aI false]):=
 h.b0
theorem aid(h:ak (Cd A a b c d e q [.b (c==d) true])):
 bZ 156 [aJ.ref [D.J 4 A,I a,I b,D.J 8 C,D.J 6 E,D.J 5 F,D.J 3 G,B q] [D.J 4 A,I a,I b,D.J 8 C,D.J 6 E,D.J 5 F,D.J 3 G,B q],aJ.ro (al c),aJ.ro (al d)] (aT.vals [aI false]):=
 h.b0
theorem aie(h:ak (Cd A a c d e b q [.b (d==e) false,.a .sub,.x C b (cI f E g i j k),.r 260 [.agg (cI f E g i j k)] [.agg (cI l aw m n o p),.agg (bu a0 cf dg d0 bE),aI r],.n r true])):
 bZ 156 [aJ.ref [D.J 4 A,I a,I c,D.J 8 F,D.J 6 C,D.J 5 G,D.J 3 H,B q] [D.J 4 A,I a,I c,D.J 8 F,D.J 6 C,D.J 5 G,D.J 3 H,B q],aJ.ro (al d),aJ.ro (al e)] (aT.vals [aI false]):=
 h.b0
theorem aif(h:ak (Cd Q i o cf a g r [.b (cf==a) false,.a .sub,.x M g (cI j R k l m n),.r 260 [.agg (cI j R k l m n)] [.agg (cI dg r4 d0 bE f0 g0),.agg (bu c b d e f),aI s],.n s false,.x M g (cI j R k l m n),.a .sub,.x A a (bz C E F G H aw K L),.g C [(bu c b d e f)] 40,.e A a.toNat (bz C E F G H aw K L),.p ((bz C E F G H aw K L)[0]?=some (D.J 5 C)),.h [(bu c b d e f)],.p (A=A),.p (A=A),.p (A=A),.p (A=A),.p (A=A),.p (a.toNat=a.toNat),.p (C=C),.x A a (bz C E F G H aw K L),.a .sub,.p (a.toNat=a.toNat),.p (0<=a),.p (a<(↑(A.set a.toNat (bz (C++[(bu c b d e f)]) E F G H aw K L)).length:Int)),.e (A.set a.toNat (bz (C++[(bu c b d e f)]) E F G H aw K L)) a.toNat (bz S bO V X Y N Z fu),.x N b [B t],.e (A.set a.toNat (bz (C++[(bu c b d e f)]) E F G H aw K L)) a.toNat (bz S bO V X Y N Z fu),.a (.dq [some [D.J 4 kt,I p,I a0,D.J 8 lj,D.J 6 lR,D.J 5 n1,D.J 3 n2,B q],none,none,none] (aT.vals [])),.p (a.toNat=a.toNat),.p (a.toNat=a.toNat),.p (bU prog 259 [aJ.ref [D.J 4 Q,I i,I o,D.J 8 ((A.set a.toNat (bz (C++[(bu c b d e f)]) E F G H aw K L)).set a.toNat (bz S bO V X Y (N.set b.toNat [B true]) Z fu)),D.J 6 (M.set g.toNat (cI dg r4 d0 bE f0 g0)),D.J 5 u6,D.J 3 u7,B r] [D.J 4 kt,I p,I a0,D.J 8 lj,D.J 6 lR,D.J 5 n1,D.J 3 n2,B q],aJ.ro (al a),aJ.ro (al b),aJ.ro (al (-1))] (aT.vals []))])):
 bZ 156 [aJ.ref [D.J 4 Q,I i,I o,D.J 8 A,D.J 6 M,D.J 5 u6,D.J 3 u7,B r] [D.J 4 kt,I p,I a0,D.J 8 lj,D.J 6 lR,D.J 5 n1,D.J 3 n2,B q],aJ.ro (al cf),aJ.ro (al a)] (aT.vals [aI true]):=
 h.b0
theorem UD(h:ak (FF G a b A C E F q r H c d aw K L M s e [.n r true])):
 bZ 170 [aJ.ref [D.J 4 H,I c,I d,D.J 8 aw,D.J 6 K,D.J 5 L,D.J 3 M,B s] [D.J 4 G,I a,I b,D.J 8 A,D.J 6 C,D.J 5 E,D.J 3 F,B q],aJ.ro (al e)] (aT.vals [aI false]):=
 h.b0
theorem aih(h:ak (Ce G a b A C E F q r H d e K L M N s c Q aw R S bO V X Y [.b (decide ((aw.length:Int)>0)) true])):
 bZ 170 [aJ.ref [D.J 4 H,I d,I e,D.J 8 K,D.J 6 L,D.J 5 M,D.J 3 N,B s] [D.J 4 G,I a,I b,D.J 8 A,D.J 6 C,D.J 5 E,D.J 3 F,B q],aJ.ro (al c)] (aT.vals [aI false]):=
 h.b0
theorem aii(h:ak (Ch G a b A C E F q r H d e L M N Q s c aw K R S bO V X Y [.b ((aw.length:Int)==0) true])):
 bZ 170 [aJ.ref [D.J 4 H,I d,I e,D.J 8 L,D.J 6 M,D.J 5 N,D.J 3 Q,B s] [D.J 4 G,I a,I b,D.J 8 A,D.J 6 C,D.J 5 E,D.J 3 F,B q],aJ.ro (al c)] (aT.vals [aI false]):=
 h.b0
def V2(A:ai)(a b:Int)(C E F G:ai)(q r:Bool)(H:ai)(c d:Int)(aw K L M:ai)(s:Bool)(e:Int)(N P Q R S bO V X:ai)(f g i j k:Int)(Y Z:ai)(t u:Bool)(l:List O):List O:=Ch A a b C E F G q r H c d aw K L M s e N P Q R S bO V X (.b ((N.length:Int)==0) false::.p ((0:Int)<=0)::.p (0<(N.length:Int))::.e N 0 (bu f g i j k)::.r 176 [.agg (bS A a b),a7 4 R,.agg (bu f g i j k)] [a7 4 Y,a7 5 Z,aI t]::.p ((0:Int)<=(some (1:Int)).getD 0)::.p ((some (1:Int)).getD 0<=none.getD (N.length:Int))::.p (none.getD (N.length:Int)<=(N.length:Int))::.g ([]:ai) (List.take (N.length-1) (List.drop 1 N)) 40::.h (List.take (N.length-1) (List.drop 1 N))::.r 177 [.agg (bS A a b),.agg (bu f g i j k)] [aI u]::l)
theorem aij(h:ak (V2 M c d E N Q R q r S j k bO Y Z fu t a A F G H aw K C L e b f g i V X u s [.b s true,.x C b [B v],.e E a.toNat (bz A F G H aw K C L),.p (a.toNat=a.toNat),.p (a.toNat=a.toNat),.p (a.toNat=a.toNat),.p (a.toNat=a.toNat),.x (E.set a.toNat (bz A F G H aw K (C.set b.toNat [B true]) L)) a (bz A F G H aw K (C.set b.toNat [B true]) L),.p (a.toNat=a.toNat),.p (a.toNat=a.toNat),.p (a.toNat=a.toNat),.p (a.toNat=a.toNat),.p (a.toNat=a.toNat)])):
 bZ 170 [aJ.ref [D.J 4 S,I j,I k,D.J 8 bO,D.J 6 Y,D.J 5 Z,D.J 3 fu,B t] [D.J 4 M,I c,I d,D.J 8 ((E.set a.toNat (bz A F G H aw K (C.set b.toNat [B true]) L)).set a.toNat (bz ([]++List.take (A.length-1) (List.drop 1 A)) X G V aw K (C.set b.toNat [B true]) L)),D.J 6 N,D.J 5 Q,D.J 3 R,B q],aJ.ro (al a)] (aT.vals [aI true]):=
 h.b0
theorem aik(h:ak (V2 E b c C F G H q r S j k bO Y Z fu t a A aw K L M N Q R d e f g i V X u s [.b s false,.x C a (bz A aw K L M N Q R),.p (a.toNat=a.toNat),.p (a.toNat=a.toNat),.p (a.toNat=a.toNat),.p (a.toNat=a.toNat),.p (a.toNat=a.toNat)])):
 bZ 170 [aJ.ref [D.J 4 S,I j,I k,D.J 8 bO,D.J 6 Y,D.J 5 Z,D.J 3 fu,B t] [D.J 4 E,I b,I c,D.J 8 (C.set a.toNat (bz ([]++List.take (A.length-1) (List.drop 1 A)) X K V M N Q R)),D.J 6 F,D.J 5 G,D.J 3 H,B q],aJ.ro (al a)] (aT.vals [aI true]):=
 h.b0
theorem ail(h:ak [.b (e==1) true,.a (.dq [some [D.J 4 A,I a,I b,D.J 8 C,D.J 6 E,D.J 5 F,D.J 3 G,B q],none] (aT.vals [aI r])),.p (bU prog 170 [aJ.ref [D.J 4 H,I c,I d,D.J 8 aw,D.J 6 K,D.J 5 L,D.J 3 M,B s] [D.J 4 A,I a,I b,D.J 8 C,D.J 6 E,D.J 5 F,D.J 3 G,B q],aJ.ro (al f)] (aT.vals [aI r]))]):
 bZ 128 [aJ.ref [D.J 4 H,I c,I d,D.J 8 aw,D.J 6 K,D.J 5 L,D.J 3 M,B s] [D.J 4 A,I a,I b,D.J 8 C,D.J 6 E,D.J 5 F,D.J 3 G,B q],aJ.ro (.agg [I e,I f,I g])] (aT.vals [aI r]):=
 h.b0
theorem aim(h:ak [.b (c==1) false,.b (c==2) true,.a (.dq [some [D.J 4 A,I a,I b,D.J 8 C,D.J 6 E,D.J 5 F,D.J 3 G,B q],none] (aT.vals [aI r])),.p (bU prog 171 [aJ.ref [D.J 4 H,I d,I e,D.J 8 aw,D.J 6 K,D.J 5 L,D.J 3 M,B s] [D.J 4 A,I a,I b,D.J 8 C,D.J 6 E,D.J 5 F,D.J 3 G,B q],aJ.ro (al f)] (aT.vals [aI r]))]):
 bZ 128 [aJ.ref [D.J 4 H,I d,I e,D.J 8 aw,D.J 6 K,D.J 5 L,D.J 3 M,B s] [D.J 4 A,I a,I b,D.J 8 C,D.J 6 E,D.J 5 F,D.J 3 G,B q],aJ.ro (.agg [I c,I f,I g])] (aT.vals [aI r]):=
 h.b0
def V3(a:Int)(l:List O):List O:=.b (a==1) false::.b (a==2) false::l
theorem ain(h:ak (V3 a [.b (a==3) true,.a (.dq [some [D.J 4 A,I b,I c,D.J 8 C,D.J 6 E,D.J 5 F,D.J 3 G,B q],none] (aT.vals [aI r])),.p (bU prog 151 [aJ.ref [D.J 4 H,I d,I e,D.J 8 aw,D.J 6 K,D.J 5 L,D.J 3 M,B s] [D.J 4 A,I b,I c,D.J 8 C,D.J 6 E,D.J 5 F,D.J 3 G,B q],aJ.ro (al f)] (aT.vals [aI r]))])):
 bZ 128 [aJ.ref [D.J 4 H,I d,I e,D.J 8 aw,D.J 6 K,D.J 5 L,D.J 3 M,B s] [D.J 4 A,I b,I c,D.J 8 C,D.J 6 E,D.J 5 F,D.J 3 G,B q],aJ.ro (.agg [I a,I f,I g])] (aT.vals [aI r]):=
 h.b0
def MB(a:Int)(l:List O):List O:=V3 a (.b (a==3) false::l)
theorem aio(h:ak (MB a [.b (a==4) true,.a (.dq [some [D.J 4 A,I b,I c,D.J 8 C,D.J 6 E,D.J 5 F,D.J 3 G,B q],none,none] (aT.vals [aI r])),.p (bU prog 156 [aJ.ref [D.J 4 H,I d,I f,D.J 8 aw,D.J 6 K,D.J 5 L,D.J 3 M,B s] [D.J 4 A,I b,I c,D.J 8 C,D.J 6 E,D.J 5 F,D.J 3 G,B q],aJ.ro (al g),aJ.ro (al e)] (aT.vals [aI r]))])):
 bZ 128 [aJ.ref [D.J 4 H,I d,I f,D.J 8 aw,D.J 6 K,D.J 5 L,D.J 3 M,B s] [D.J 4 A,I b,I c,D.J 8 C,D.J 6 E,D.J 5 F,D.J 3 G,B q],aJ.ro (.agg [I a,I g,I e])] (aT.vals [aI r]):=
 h.b0
theorem aip(h:ak (MB a [.b (a==4) false,.b (a==5) true,.a (.dq [some [D.J 4 A,I b,I c,D.J 8 C,D.J 6 E,D.J 5 F,D.J 3 G,B q],none,none] (aT.vals [aI r])),.p (bU prog 158 [aJ.ref [D.J 4 H,I d,I f,D.J 8 aw,D.J 6 K,D.J 5 L,D.J 3 M,B s] [D.J 4 A,I b,I c,D.J 8 C,D.J 6 E,D.J 5 F,D.J 3 G,B q],aJ.ro (al g),aJ.ro (al e)] (aT.vals [aI r]))])):
 bZ 128 [aJ.ref [D.J 4 H,I d,I f,D.J 8 aw,D.J 6 K,D.J 5 L,D.J 3 M,B s] [D.J 4 A,I b,I c,D.J 8 C,D.J 6 E,D.J 5 F,D.J 3 G,B q],aJ.ro (.agg [I a,I g,I e])] (aT.vals [aI r]):=
 h.b0
def MC(a:Int)(l:List O):List O:=MB a (.b (a==4) false::.b (a==5) false::l)
theorem aiq(h:ak (MC a [.b (a==6) true,.a (.dq [some [D.J 4 A,I b,I c,D.J 8 C,D.J 6 E,D.J 5 F,D.J 3 G,B q],none] (aT.vals [aI r])),.p (bU prog 246 [aJ.ref [D.J 4 H,I d,I e,D.J 8 aw,D.J 6 K,D.J 5 L,D.J 3 M,B s] [D.J 4 A,I b,I c,D.J 8 C,D.J 6 E,D.J 5 F,D.J 3 G,B q],aJ.ro (al f)] (aT.vals [aI r]))])):
 bZ 128 [aJ.ref [D.J 4 H,I d,I e,D.J 8 aw,D.J 6 K,D.J 5 L,D.J 3 M,B s] [D.J 4 A,I b,I c,D.J 8 C,D.J 6 E,D.J 5 F,D.J 3 G,B q],aJ.ro (.agg [I a,I f,I g])] (aT.vals [aI r]):=
 h.b0
theorem air(h:ak (MC a [.b (a==6) false,.b (a==7) true,.a (.dq [some [D.J 4 A,I b,I c,D.J 8 C,D.J 6 E,D.J 5 F,D.J 3 G,B q],none] (aT.vals [aI r])),.p (bU prog 247 [aJ.ref [D.J 4 H,I d,I e,D.J 8 aw,D.J 6 K,D.J 5 L,D.J 3 M,B s] [D.J 4 A,I b,I c,D.J 8 C,D.J 6 E,D.J 5 F,D.J 3 G,B q],aJ.ro (al f)] (aT.vals [aI r]))])):
 bZ 128 [aJ.ref [D.J 4 H,I d,I e,D.J 8 aw,D.J 6 K,D.J 5 L,D.J 3 M,B s] [D.J 4 A,I b,I c,D.J 8 C,D.J 6 E,D.J 5 F,D.J 3 G,B q],aJ.ro (.agg [I a,I f,I g])] (aT.vals [aI r]):=
 h.b0
theorem ais(h:ak (MC a [.b (a==6) false,.b (a==7) false])):
 bZ 128 [aJ.ref [D.J 4 A,I b,I c,D.J 8 C,D.J 6 E,D.J 5 F,D.J 3 G,B q] [D.J 4 A,I b,I c,D.J 8 C,D.J 6 E,D.J 5 F,D.J 3 G,B q],aJ.ro (.agg [I a,I e,I d])] (aT.vals [aI false]):=
 h.b0
def w3(A:ai)(a b:Int)(C:ai)(c d:Int)(E F G H:ai)(q:Bool):aE:=bi 22 [(0,aS 1000000000),(1,.aD (.one (.db 1000000200 3 A))),(5,aZ b),(6,aZ a)] [(1000000000,[ay 950001000 4 C,aq c,aq d,ay 950001003 8 E,ay 950001004 6 F,ay 950001005 5 G,ay 950001006 3 H,.bg q])]
theorem ait(h:ak (Mu H a g i j A c d C E F G q r aw e f K L M N s [.b r true,.u b,.u a])):
 bb (az f131 0) (w3 H a b aw e f K L M N s) .normal (w3 H (a+1) (b+1) A c d C E F G q):=
 h.lu [(1000000001000000,950001000,4),(1000000001000003,950001003,8),(1000000001000004,950001004,6),(1000000001000005,950001005,5),(1000000001000006,950001006,3)] [6,1,0,5] [1000000000]
theorem aiu(h:ak (Mu H a g i j A b c C E F G q r aw e f K L M N s [.b r false,.u a])):
 bb (az f131 0) (w3 H a d aw e f K L M N s) .normal (w3 H (a+1) d A b c C E F G q):=
 h.lu [(1000000001000000,950001000,4),(1000000001000003,950001003,8),(1000000001000004,950001004,6),(1000000001000005,950001005,5),(1000000001000006,950001006,3)] [6,1,0,5] [1000000000]
def TP(a:Int)(A:ai)(b c:Int)(C E F G:ai)(q:Bool):aE:=bi 22 [(0,aS 1000000000),(5,aZ a)] [(1000000000,[ay 950001000 4 A,aq b,aq c,ay 950001003 8 C,ay 950001004 6 E,ay 950001005 5 F,ay 950001006 3 G,.bg q])]
theorem aiv(h:ak [.f H d false]):
 bb (az f131 0) (w3 H d a A b c C E F G q) (.exit 0) (TP a A b c C E F G q):=
 h.a' [5,0] [1000000000]
theorem aiw(h:ak [.l [(1000000001000000,950001000,4),(1000000001000003,950001003,8),(1000000001000004,950001004,6),(1000000001000005,950001005,5),(1000000001000006,950001006,3)] [6,1,0,5] [1000000000] (az f131 0) (w3 N 0 0 A a d aw K L M r) (.exit 0) (TP e C b c E F G H q)]):
 bZ 131 [aJ.ref [D.J 4 A,I a,I d,D.J 8 aw,D.J 6 K,D.J 5 L,D.J 3 M,B r] [D.J 4 C,I b,I c,D.J 8 E,D.J 6 F,D.J 5 G,D.J 3 H,B q],aJ.ro (a7 3 N)] (aT.vals [al e]):=
 h.b0
