import Derived.Test.YtdchjefneblpgaaGreatGE
set_option linter.unusedVariables false
set_option linter.unusedSimpArgs false
namespace Go.Proofs.YtdchjefneblpgaaGreat
open Go.Sx Go.RowKit Go.Proofs.Tryz
variable {a b c d e f g i j k l m n o p a0 ck dT d0 cc f0 i0 j0 dw : Int} {A C E F G H au K L M N Q R S bi V X Y Z dz ft gf gg gh gi e8 lu mb nn np nq rS rT : ak} {q r s t u v : Bool}
def rK(a:Int)(A:ak)(b c d e f:Int)(C:ak)(g i j k:Int)(q:Bool)(l:List O):List O:=.r 279 [.agg (b7 a A b c d e)] [.agg (b7 f C g i j k)]::.r 191 [.agg (b7 f C g i j k)] [al q]::l
theorem akS(h:ah (rK f C g i j k c A d e a b q [.n q true])):
 aw 261 [.agg (b7 f C g i j k)] [.agg (b7 c A d e a b),al false]:=
 h.of
theorem akT(h:ah (rK f C g i j k d A e a b c q [.n q false,.b (a==0) true])):
 aw 261 [.agg (b7 f C g i j k)] [.agg (b7 d A e a b c),al false]:=
 h.of
theorem akk(h:ah (rK f C g i j k e A b a c d q [.n q false,.b (a==0) false,.v (a-1),.u b])):
 aw 261 [.agg (b7 f C g i j k)] [.agg (b7 e A (b+1) (a-1) c d),al true]:=
 h.of
def vK(A:ak)(a d:Int)(C:ak)(e f:Int)(E F G H:ak)(q:Bool)(b c:Int):aG:=bp 34 [(1,bf a),(4,bE 4),(6,bE 10),(7,aI.bd (bS.one (aV 130000 3 A))),(8,bf d)] [(10,[aV 900011000 4 C,aM e,aM f,aV 900011003 8 E,aV 900011004 6 F,aV 900011005 5 G,aV 900011006 3 H,.cg q]),(4,[.v (a8),aM b,aM c,.v (a8),.v (a8),.v (a8),.v (a8)])]
def Nh(a:Int)(A:ak)(b c:Int)(C E F G:ak):aG:=bp 34 [(4,bE 4),(5,bf a)] [(4,[aV 235000 4 A,aM b,aM c,aV 235003 8 C,aV 235004 6 E,aV 235005 5 F,aV 235006 3 G])]
def XW(a b:Int)(A:ak)(c d:Int)(C E F G:ak)(q:Bool)(e:Int)(H:ak)(f g:Int)(au K L M:ak)(r:Bool)(N:ak)(l:List O):List O:=.b (decide (a<=b)) true::.a (.hd [some [D.J 4 A,I c,I d,D.J 8 C,D.J 6 E,D.J 5 F,D.J 3 G,B q],none] (bG.vals [ag e]))::.p (dC prog 131 [bc.ref [D.J 4 H,I f,I g,D.J 8 au,D.J 6 K,D.J 5 L,D.J 3 M,B r] [D.J 4 A,I c,I d,D.J 8 C,D.J 6 E,D.J 5 F,D.J 3 G,B q],bc.ro (aS 3 N)] (bG.vals [ag e]))::l
theorem akl(h:ah (XW a e A b c C E F G r d au f g K L M N q H [.b (d==0) true])):
 aY (av f16 0) (vK H e a au f g K L M N q i j) .ret (Nh a A b c C E F G):=
 h.aR [4,5] [4]
theorem U3(h:ah (XW a b C c d E F G H q e au f g K L M N r A [.b (e==0) false,.u a])):
 aY (av f16 0) (vK A b a au f g K L M N r i j) .normal (vK A b (a+1) C c d E F G H q i j):=
 h.y2 [(11000000,900011000,4),(11000003,900011003,8),(11000004,900011004,6),(11000005,900011005,5),(11000006,900011006,3)] [8,1,6,7,4] [10,4]
def Ni(a:Int)(A:ak)(c d:Int)(C E F G:ak)(q:Bool)(e b:Int):aG:=bp 34 [(1,bf a),(4,bE 4),(6,bE 10)] [(10,[aV 900011000 4 A,aM c,aM d,aV 900011003 8 C,aV 900011004 6 E,aV 900011005 5 F,aV 900011006 3 G,.cg q]),(4,[.v (a8),aM e,aM b,.v (a8),.v (a8),.v (a8),.v (a8)])]
theorem akm(h:ah [.b (decide (b<=a)) false]):
 aY (av f16 0) (vK H a b A c d C E F G q e f) (.exit 0) (Ni a A c d C E F G q e f):=
 h.aR [6,1,4] [10,4]
def Oy(A:ak)(a b:Int)(C E F G:ak)(q:Bool)(H:ak)(c d:Int)(au K L M:ak)(l:List O):List O:=.a (.hd [none] (bG.new [D.J 4 A,I a,I b,D.J 8 C,D.J 6 E,D.J 5 F,D.J 3 G,B q]))::.p (dC prog 127 [bc.ro (.agg (cl H c d au K L M))] (bG.new [D.J 4 A,I a,I b,D.J 8 C,D.J 6 E,D.J 5 F,D.J 3 G,B q]))::l
theorem akn(h:ah (Oy M d b C E F G q A a c H au K L [.r 129 [.agg (cl A a c H au K L)] [aS 3 N],.r 130 [ag j,ag 0,ag 3000] [ag e],.l [(11000000,900011000,4),(11000003,900011003,8),(11000004,900011004,6),(11000005,900011005,5),(11000006,900011006,3)] [8,1,6,7,4] [10,4] (av f16 0) (vK N e 1 M d b C E F G q 0 0) .ret (Nh f Q g i R S bi V)])):
 aw 16 [.agg (cl A a c H au K L),ag j] [.agg (cl Q g i R S bi V),ag f]:=
 h.of
theorem ako(h:ah (Oy M e c C E F G q A b d H au K L [.r 129 [.agg (cl A b d H au K L)] [aS 3 N],.r 130 [ag i,ag 0,ag 3000] [ag a],.l [(11000000,900011000,4),(11000003,900011003,8),(11000004,900011004,6),(11000005,900011005,5),(11000006,900011006,3)] [8,1,6,7,4] [10,4] (av f16 0) (vK N a 1 M e c C E F G q 0 0) (.exit 0) (Ni a Q f g R S bi V r j k)])):
 aw 16 [.agg (cl A b d H au K L),ag i] [.agg (cl Q f g R S bi V),ag a]:=
 h.of
def XX(a b:Int)(q:Bool)(l:List O):List O:=.a .wr::.r 168 [ag a,ag 0,ag (IntKind.i64.wrap (b-1))] [al q]::l
theorem U4(h:ah (XX b a q [.n q true])):
 aw 61 [.agg (bP A a c),ag b,ag d] [ag (-1)]:=
 h.of
def Oi(a b:Int)(q:Bool)(c:Int)(r:Bool)(l:List O):List O:=XX a b q (.n q false::.a .wr::.r 168 [ag c,ag 0,ag (IntKind.i64.wrap (b-1))] [al r]::l)
theorem U5(h:ah (Oi b a q c r [.n r true])):
 aw 61 [.agg (bP A a d),ag b,ag c] [ag (-1)]:=
 h.of
theorem akp(h:ah (Oi b a q c r [.n r false,.b (decide (a<1)) true])):
 aw 61 [.agg (bP A a d),ag b,ag c] [ag (-1)]:=
 h.of
theorem U6(h:ah (Oi b a q c r [.n r false,.b (decide (a<1)) false,.a .wr,.a .wr])):
 aw 61 [.agg (bP A a d),ag b,ag c] [ag (IntKind.i64.wrap (IntKind.i64.wrap (b*a)+c))]:=
 h.of
def zU(A:ak)(a:Int)(C E:ak)(d e:Int)(F G H au:ak)(q:Bool)(b c:Int):aG:=bp 32 [(1,eP 3 A),(4,bE 4),(6,bE 10),(7,aI.bd (bS.one (aV 11 1 C))),(8,bf a)] [(10,[aV 900011000 4 E,aM d,aM e,aV 900011003 8 F,aV 900011004 6 G,aV 900011005 5 H,aV 900011006 3 au,.cg q]),(4,[.v (a8),aM b,aM c,.v (a8),.v (a8),.v (a8),.v (a8)])]
def Oj(A:ak)(a b c d:Int)(C:ak)(e f:Int)(E F G H:ak)(q r:Bool)(au:ak)(g i:Int)(K L M N:ak)(s:Bool)(l:List O):List O:=.i A a [I b,I c,I d]::.a (.hd [some [D.J 4 C,I e,I f,D.J 8 E,D.J 6 F,D.J 5 G,D.J 3 H,B q],none] (bG.vals [al r]))::.p (dC prog 128 [bc.ref [D.J 4 au,I g,I i,D.J 8 K,D.J 6 L,D.J 5 M,D.J 3 N,B s] [D.J 4 C,I e,I f,D.J 8 E,D.J 6 F,D.J 5 G,D.J 3 H,B q],bc.ro (.agg [I b,I c,I d])] (bG.vals [al r]))::l
theorem akq(h:ah (Oj au a i j k C b c E F G H r q K d e L M N Q s [.g A [[B q]] 1,.h [[B q]],.u a])):
 aY (av f15 0) (zU au a A K d e L M N Q s f g) .normal (zU au (a+1) (A++[[B q]]) C b c E F G H r f g):=
 h.y2 [(11000000,900011000,4),(11000003,900011003,8),(11000004,900011004,6),(11000005,900011005,5),(11000006,900011006,3)] [8,1,7,6,4] [10,4]
def Nj(A C:ak)(b c:Int)(E F G H:ak)(q:Bool)(d a:Int):aG:=bp 32 [(4,bE 4),(6,bE 10),(7,aI.bd (bS.one (aV 11 1 A)))] [(10,[aV 900011000 4 C,aM b,aM c,aV 900011003 8 E,aV 900011004 6 F,aV 900011005 5 G,aV 900011006 3 H,.cg q]),(4,[.v (a8),aM d,aM a,.v (a8),.v (a8),.v (a8),.v (a8)])]
theorem akr(h:ah [.f au a false]):
 aY (av f15 0) (zU au a A C b c E F G H q d e) (.exit 0) (Nj A C b c E F G H q d e):=
 h.aR [6,7,4] [10,4]
theorem aks(h:ah (Oy G b a A C E F q H c f R S bi V [.l [(11000000,900011000,4),(11000003,900011003,8),(11000004,900011004,6),(11000005,900011005,5),(11000006,900011006,3)] [8,1,7,6,4] [10,4] (av f15 0) (zU X 0 [] G b a A C E F q 0 0) (.exit 0) (Nj au K d e L M N Q r g i)])):
 aw 15 [.agg (cl H c f R S bi V),aS 3 X] [.agg (cl K d e L M N Q),aS 1 au]:=
 h.of
theorem akt(h:ah (rK f C g i j k a A b c d e q [.n q true])):
 aw 258 [.agg (b7 f C g i j k),.agg (bA m n o p l)] [.agg (b7 a A b c d e),al false]:=
 h.of
theorem alW(h:ah (rK f C i j k l a A b c d e q [.n q false,.r 122 [.agg (bA m n o p g)] [al r],.n r true])):
 aw 258 [.agg (b7 f C i j k l),.agg (bA m n o p g)] [.agg (b7 a A b c d e),al false]:=
 h.of
theorem alX(h:ah (rK f C i j k l b A a c d e q [.n q false,.r 122 [.agg (bA m n o p g)] [al r],.n r false,.b (a==0) true])):
 aw 258 [.agg (b7 f C i j k l),.agg (bA m n o p g)] [.agg (b7 b A a c d e),al false]:=
 h.of
theorem alY(h:ah (rK f C i j k l c A a d b e q [.n q false,.r 122 [.agg (bA m n o p g)] [al r],.n r false,.b (a==0) false,.b (decide (b>=1000000000)) true])):
 aw 258 [.agg (b7 f C i j k l),.agg (bA m n o p g)] [.agg (b7 c A a d b e),al false]:=
 h.of
theorem alZ(h:ah (rK l C m n o p i A b j c k q [.n q false,.r 122 [.agg (bA d e f g a)] [al r],.n r false,.b (b==0) false,.b (decide (c>=1000000000)) false,.g A [(bA d e f g a)] 40,.h [(bA d e f g a)],.v (b-1),.u c])):
 aw 258 [.agg (b7 l C m n o p),.agg (bA d e f g a)] [.agg (b7 i (A++[(bA d e f g a)]) (b-1) j (c+1) k),al true]:=
 h.of
theorem al0(h:ah (rK f C g i j k c A d e a b q [.n q true])):
 aw 260 [.agg (b7 f C g i j k)] [.agg (b7 c A d e a b),.agg (bA 0 0 0 0 0),al false]:=
 h.of
theorem al1(h:ah (rK f C g i j k c A d e a b q [.n q false,.b ((A.length:Int)==0) true])):
 aw 260 [.agg (b7 f C g i j k)] [.agg (b7 c A d e a b),.agg (bA 0 0 0 0 0),al false]:=
 h.of
theorem al2(h:ah (rK f C m n o p d A e b c a q [.n q false,.b ((A.length:Int)==0) false,.p ((0:Int)<=0),.p (0<(A.length:Int)),.e A 0 (bA g i j k l),.p ((0:Int)<=(some (1:Int)).getD 0),.p ((some (1:Int)).getD 0<=none.getD (A.length:Int)),.p (none.getD (A.length:Int)<=(A.length:Int)),.g ([]:ak) (List.take (A.length-1) (List.drop 1 A)) 40,.h (List.take (A.length-1) (List.drop 1 A)),.u a,.u b])):
 aw 260 [.agg (b7 f C m n o p)] [.agg (b7 d ([]++List.take (A.length-1) (List.drop 1 A)) e (b+1) c (a+1)),.agg (bA g i j k l),al true]:=
 h.of
def Df(A:ak)(a b c d e:Int)(l:List O):List O:=.r 61 [.agg (bP A a b),ag c,ag d] [ag e]::l
theorem al3(h:ah (Df A a b c d e [.n q true])):
 dd 158 [bc.ref [D.J 4 A,I a,I b,D.J 8 C,D.J 6 E,D.J 5 F,D.J 3 G,B q] [D.J 4 A,I a,I b,D.J 8 C,D.J 6 E,D.J 5 F,D.J 3 G,B q],bc.ro (ag c),bc.ro (ag d)] (bG.vals [al false]):=
 h.dg
theorem al4(h:ah (Df A a b d e c [.n q false,.b (decide (c<0)) true])):
 dd 158 [bc.ref [D.J 4 A,I a,I b,D.J 8 C,D.J 6 E,D.J 5 F,D.J 3 G,B q] [D.J 4 A,I a,I b,D.J 8 C,D.J 6 E,D.J 5 F,D.J 3 G,B q],bc.ro (ag d),bc.ro (ag e)] (bG.vals [al false]):=
 h.dg
def Dg(A:ak)(a b c d e:Int)(q:Bool)(l:List O):List O:=Df A a b c d e (.n q false::.b (decide (e<0)) false::l)
theorem al5(h:ah (Dg A a b c d e q [.b (c==d) true])):
 dd 158 [bc.ref [D.J 4 A,I a,I b,D.J 8 C,D.J 6 E,D.J 5 F,D.J 3 G,B q] [D.J 4 A,I a,I b,D.J 8 C,D.J 6 E,D.J 5 F,D.J 3 G,B q],bc.ro (ag c),bc.ro (ag d)] (bG.vals [al false]):=
 h.dg
theorem al6(h:ah (Dg C b i j k a q [.b (j==k) false,.a .sub,.x A a (b7 c E d e f g),.r 261 [.agg (b7 c E d e f g)] [.agg (b7 l F m n o p),al r],.x A a (b7 c E d e f g)])):
 dd 158 [bc.ref [D.J 4 C,I b,I i,D.J 8 G,D.J 6 A,D.J 5 H,D.J 3 au,B q] [D.J 4 C,I b,I i,D.J 8 G,D.J 6 (A.set a.toNat (b7 l F m n o p)),D.J 5 H,D.J 3 au,B q],bc.ro (ag j),bc.ro (ag k)] (bG.vals [al r]):=
 h.dg
def Hp(A:ak)(a b:Int)(C E F G:ak)(q r:Bool)(H:ak)(c d:Int)(au K L M:ak)(s:Bool)(e:Int)(l:List O):List O:=.a (.hd [some [D.J 4 A,I a,I b,D.J 8 C,D.J 6 E,D.J 5 F,D.J 3 G,B q],none] (bG.vals [al r]))::.p (dC prog 257 [bc.ref [D.J 4 H,I c,I d,D.J 8 au,D.J 6 K,D.J 5 L,D.J 3 M,B s] [D.J 4 A,I a,I b,D.J 8 C,D.J 6 E,D.J 5 F,D.J 3 G,B q],bc.ro (ag e)] (bG.vals [al r]))::l
theorem U7(h:ah (Hp G a b A C E F q r H c d au K L M s e [.n r true])):
 dd 171 [bc.ref [D.J 4 H,I c,I d,D.J 8 au,D.J 6 K,D.J 5 L,D.J 3 M,B s] [D.J 4 G,I a,I b,D.J 8 A,D.J 6 C,D.J 5 E,D.J 3 F,B q],bc.ro (ag e)] (bG.vals [al false]):=
 h.dg
def Dh(A:ak)(a b:Int)(C E F G:ak)(q r:Bool)(H:ak)(c d:Int)(au K L M:ak)(s:Bool)(e:Int)(N P Q R S bi V X:ak)(l:List O):List O:=Hp A a b C E F G q r H c d au K L M s e (.n r false::.a .sub::.x C e (a' N P Q R S bi V X)::l)
theorem al7(h:ah (Dh G a b A C E F q r H d e K L M N s c Q au R S bi V X Y [.b (decide ((au.length:Int)>0)) true])):
 dd 171 [bc.ref [D.J 4 H,I d,I e,D.J 8 K,D.J 6 L,D.J 5 M,D.J 3 N,B s] [D.J 4 G,I a,I b,D.J 8 A,D.J 6 C,D.J 5 E,D.J 3 F,B q],bc.ro (ag c)] (bG.vals [al false]):=
 h.dg
def Di(A:ak)(a b:Int)(C E F G:ak)(q r:Bool)(H:ak)(c d:Int)(au K L M:ak)(s:Bool)(e:Int)(N P Q R S bi V X:ak)(l:List O):List O:=Dh A a b C E F G q r H c d au K L M s e N P Q R S bi V X (.b (decide ((P.length:Int)>0)) false::l)
theorem al8(h:ah (Di G a b A C E F q r H d e L M N Q s c au K R S bi V X Y [.b (decide ((au.length:Int)>0)) true])):
 dd 171 [bc.ref [D.J 4 H,I d,I e,D.J 8 L,D.J 6 M,D.J 5 N,D.J 3 Q,B s] [D.J 4 G,I a,I b,D.J 8 A,D.J 6 C,D.J 5 E,D.J 3 F,B q],bc.ro (ag c)] (bG.vals [al false]):=
 h.dg
theorem al9(h:ah (Di G a b A C E F q r H d e M N Q R s c au K L S bi V X Y [.b (decide ((au.length:Int)>0)) false,.b ((L.length:Int)==0) true])):
 dd 171 [bc.ref [D.J 4 H,I d,I e,D.J 8 M,D.J 6 N,D.J 5 Q,D.J 3 R,B s] [D.J 4 G,I a,I b,D.J 8 A,D.J 6 C,D.J 5 E,D.J 3 F,B q],bc.ro (ag c)] (bG.vals [al false]):=
 h.dg
theorem ama(h:ah (Di R b c C F G H q r S d e bi V X Y s a au E A K L M N Q [.b (decide ((au.length:Int)>0)) false,.b ((A.length:Int)==0) false,.p ((0:Int)<=0),.p (0<(A.length:Int)),.e A 0 (bA f g i j k),.p ((0:Int)<=(some (1:Int)).getD 0),.p ((some (1:Int)).getD 0<=none.getD (A.length:Int)),.p (none.getD (A.length:Int)<=(A.length:Int)),.g ([]:ak) (List.take (A.length-1) (List.drop 1 A)) 40,.h (List.take (A.length-1) (List.drop 1 A)),.x C a (a' au E A K L M N Q),.p (a.toNat=a.toNat),.p (a.toNat=a.toNat),.p (a.toNat=a.toNat),.p (a.toNat=a.toNat),.p (a.toNat=a.toNat),.p (a.toNat=a.toNat)])):
 dd 171 [bc.ref [D.J 4 S,I d,I e,D.J 8 bi,D.J 6 V,D.J 5 X,D.J 3 Y,B s] [D.J 4 R,I b,I c,D.J 8 (C.set a.toNat [D.J 5 [(bA f g i j k)],D.J 5 E,D.J 5 ([]++List.take (A.length-1) (List.drop 1 A)),D.J 4 K,D.J 1 L,D.J 1 M,D.J 1 N,D.J 2 Q]),D.J 6 F,D.J 5 G,D.J 3 H,B q],bc.ro (ag a)] (bG.vals [al true]):=
 h.dg
theorem U8(h:ah [.b q true,.v ((A.length:Int)-1),.r 168 [ag c,ag 0,ag ((A.length:Int)-1)] [al r]]):
 dd 257 [bc.ref [D.J 4 C,I a,I b,D.J 8 A,D.J 6 E,D.J 5 F,D.J 3 G,B q] [D.J 4 C,I a,I b,D.J 8 A,D.J 6 E,D.J 5 F,D.J 3 G,B q],bc.ro (ag c)] (bG.vals [al r]):=
 h.dg
theorem amb(h:ah [.b q false]):
 dd 257 [bc.ref [D.J 4 A,I a,I b,D.J 8 C,D.J 6 E,D.J 5 F,D.J 3 G,B q] [D.J 4 A,I a,I b,D.J 8 C,D.J 6 E,D.J 5 F,D.J 3 G,B q],bc.ro (ag c)] (bG.vals [al false]):=
 h.dg
theorem U9(h:ah (Hp G a b A C E F q r H c d au K L M s e [.n r true])):
 dd 151 [bc.ref [D.J 4 H,I c,I d,D.J 8 au,D.J 6 K,D.J 5 L,D.J 3 M,B s] [D.J 4 G,I a,I b,D.J 8 A,D.J 6 C,D.J 5 E,D.J 3 F,B q],bc.ro (ag e)] (bG.vals [al false]):=
 h.dg
theorem amc(h:ah (Dh G a b A C E F q r H d e K L M N s c Q au R S bi V X Y [.b ((au.length:Int)==0) true])):
 dd 151 [bc.ref [D.J 4 H,I d,I e,D.J 8 K,D.J 6 L,D.J 5 M,D.J 3 N,B s] [D.J 4 G,I a,I b,D.J 8 A,D.J 6 C,D.J 5 E,D.J 3 F,B q],bc.ro (ag c)] (bG.vals [al false]):=
 h.dg
def Ol(A:ak)(a b:Int)(C E F G:ak)(q r:Bool)(H:ak)(c d:Int)(au K L M:ak)(s:Bool)(e:Int)(N P Q R S bi V X:ak)(f g i j k m:Int)(l:List O):List O:=Dh A a b C E F G q r H c d au K L M s e N P Q R S bi V X (.b ((P.length:Int)==0) false::.a .sub::.x C e (a' N P Q R S bi V X)::.p ((0:Int)<=0)::.p (0<(P.length:Int))::.e P 0 (bA f g i j k)::.r 245 [ag j,ag a] [ag m]::l)
theorem amd(h:ah (Ol F b c A E G H q r au f g bi X Y Z t a K C L M N Q R S i j k d l e [.b (e != a) true,.r 61 [.agg (bP F b c),ag a,ag e] [ag m],.a .sub,.x E m (b7 n V o p a0 ck),.r 258 [.agg (b7 n V o p a0 ck),.agg (bA i j k d l)] [.agg (b7 dT dz d0 cc f0 i0),al s],.n s true])):
 dd 151 [bc.ref [D.J 4 au,I f,I g,D.J 8 bi,D.J 6 X,D.J 5 Y,D.J 3 Z,B t] [D.J 4 F,I b,I c,D.J 8 A,D.J 6 E,D.J 5 G,D.J 3 H,B q],bc.ro (ag a)] (bG.vals [al false]):=
 h.dg
theorem ame(h:ah (Ol H b c C E au K q r ft p a0 nn np rS rT u a gf F gg gh gi e8 lu mb ck e dT f d0 g [.b (g != a) true,.r 61 [.agg (bP H b c),ag a,ag g] [ag d],.a .sub,.x E d (b7 i L j k l m),.r 258 [.agg (b7 i L j k l m),.agg (bA ck e dT f d0)] [.agg (b7 cc nq f0 i0 j0 dw),al t],.n t false,.x E d (b7 i L j k l m),.a (.hd [some [D.J 4 M,I n,I o,D.J 8 G,D.J 6 N,D.J 5 Q,D.J 3 R,B s],none,none,none] (bG.vals [])),.a .sub,.p (dC prog 259 [bc.ref [D.J 4 H,I b,I c,D.J 8 C,D.J 6 (E.set d.toNat (b7 cc nq f0 i0 j0 dw)),D.J 5 au,D.J 3 K,B q] [D.J 4 M,I n,I o,D.J 8 G,D.J 6 N,D.J 5 Q,D.J 3 R,B s],bc.ro (ag a),bc.ro (ag e),bc.ro (ag 1)] (bG.vals [])),.x G a (a' S A bi V X Y Z dz),.p ((0:Int)<=(some (1:Int)).getD 0),.p ((some (1:Int)).getD 0<=none.getD (A.length:Int)),.p (none.getD (A.length:Int)<=(A.length:Int)),.g ([]:ak) (List.take (A.length-1) (List.drop 1 A)) 40,.h (List.take (A.length-1) (List.drop 1 A)),.x G a (a' S A bi V X Y Z dz)])):
 dd 151 [bc.ref [D.J 4 ft,I p,I a0,D.J 8 nn,D.J 6 np,D.J 5 rS,D.J 3 rT,B u] [D.J 4 M,I n,I o,D.J 8 (G.set a.toNat (a' S ([]++List.take (A.length-1) (List.drop 1 A)) bi V X Y Z dz)),D.J 6 N,D.J 5 Q,D.J 3 R,B s],bc.ro (ag a)] (bG.vals [al true]):=
 h.dg
theorem amf(h:ah (Ol ft g i A N Q R q r gf j k gg gh gi e8 s a C E F G H au K L c d e b f l [.b (l != a) false,.a .sub,.x A a (a' C E F G H au K L),.g C [(bA c d e b f)] 40,.e A a.toNat (a' C E F G H au K L),.p ((a' C E F G H au K L)[0]?=some (D.J 5 C)),.h [(bA c d e b f)],.p (A=A),.p (A=A),.p (A=A),.p (A=A),.p (A=A),.p (A=A),.p (A=A),.p (A=A),.p (A=A),.p (A=A),.p (A=A),.p (a.toNat=a.toNat),.p (C=C),.x A a (a' C E F G H au K L),.a .sub,.p (a.toNat=a.toNat),.p (0<=a),.p (a<(↑(A.set a.toNat (a' (C++[(bA c d e b f)]) E F G H au K L)).length:Int)),.e (A.set a.toNat (a' (C++[(bA c d e b f)]) E F G H au K L)) a.toNat (a' S M bi V X Y Z dz),.p ((0:Int)<=(some (1:Int)).getD 0),.p ((some (1:Int)).getD 0<=none.getD (M.length:Int)),.p (none.getD (M.length:Int)<=(M.length:Int)),.g ([]:ak) (List.take (M.length-1) (List.drop 1 M)) 40,.h (List.take (M.length-1) (List.drop 1 M)),.p (0<=a),.p (a<(↑(A.set a.toNat (a' (C++[(bA c d e b f)]) E F G H au K L)).length:Int)),.e (A.set a.toNat (a' (C++[(bA c d e b f)]) E F G H au K L)) a.toNat (a' S M bi V X Y Z dz)])):
 dd 151 [bc.ref [D.J 4 gf,I j,I k,D.J 8 gg,D.J 6 gh,D.J 5 gi,D.J 3 e8,B s] [D.J 4 ft,I g,I i,D.J 8 ((A.set a.toNat (a' (C++[(bA c d e b f)]) E F G H au K L)).set a.toNat (a' S ([]++List.take (M.length-1) (List.drop 1 M)) bi V X Y Z dz)),D.J 6 N,D.J 5 Q,D.J 3 R,B q],bc.ro (ag a)] (bG.vals [al true]):=
 h.dg
theorem amg(h:ah [.a .sub,.x L a (a' C E F G A H au K),.a .sub,.x L a (a' C E F G A H au K),.x A b [I d],.v (d+c),.x A b [I i],.e L a.toNat (a' C E F G A H au K),.p (a.toNat=a.toNat),.p (a.toNat=a.toNat),.p (a.toNat=a.toNat),.p (a.toNat=a.toNat),.b r true,.a .sub,.p (0<=a),.p (a<(↑(L.set a.toNat (a' C E F G (A.set b.toNat [I (d+c)]) H au K)).length:Int)),.e (L.set a.toNat (a' C E F G (A.set b.toNat [I (d+c)]) H au K)) a.toNat (a' C E F G (A.set b.toNat [I (d+c)]) H au K),.x (A.set b.toNat [I (d+c)]) b [I g],.r 168 [ag g,ag (-1000000),ag 1000000] [al q]]):
 dd 259 [bc.ref [D.J 4 M,I e,I f,D.J 8 L,D.J 6 N,D.J 5 Q,D.J 3 R,B r] [D.J 4 M,I e,I f,D.J 8 (L.set a.toNat (a' C E F G (A.set b.toNat [I (d+c)]) H au K)),D.J 6 N,D.J 5 Q,D.J 3 R,B q],bc.ro (ag a),bc.ro (ag b),bc.ro (ag c)] (bG.vals []):=
 h.dg
theorem amh(h:ah (Df A a b c d e [.n q true])):
 dd 156 [bc.ref [D.J 4 A,I a,I b,D.J 8 C,D.J 6 E,D.J 5 F,D.J 3 G,B q] [D.J 4 A,I a,I b,D.J 8 C,D.J 6 E,D.J 5 F,D.J 3 G,B q],bc.ro (ag c),bc.ro (ag d)] (bG.vals [al false]):=
 h.dg
theorem ami(h:ah (Df A a b d e c [.n q false,.b (decide (c<0)) true])):
 dd 156 [bc.ref [D.J 4 A,I a,I b,D.J 8 C,D.J 6 E,D.J 5 F,D.J 3 G,B q] [D.J 4 A,I a,I b,D.J 8 C,D.J 6 E,D.J 5 F,D.J 3 G,B q],bc.ro (ag d),bc.ro (ag e)] (bG.vals [al false]):=
 h.dg
theorem amj(h:ah (Dg A a b c d e q [.b (c==d) true])):
 dd 156 [bc.ref [D.J 4 A,I a,I b,D.J 8 C,D.J 6 E,D.J 5 F,D.J 3 G,B q] [D.J 4 A,I a,I b,D.J 8 C,D.J 6 E,D.J 5 F,D.J 3 G,B q],bc.ro (ag c),bc.ro (ag d)] (bG.vals [al false]):=
 h.dg
theorem amk(h:ah (Dg A a c d e b q [.b (d==e) false,.a .sub,.x C b (b7 f E g i j k),.r 260 [.agg (b7 f E g i j k)] [.agg (b7 l au m n o p),.agg (bA a0 ck dT d0 cc),al r],.n r true])):
 dd 156 [bc.ref [D.J 4 A,I a,I c,D.J 8 F,D.J 6 C,D.J 5 G,D.J 3 H,B q] [D.J 4 A,I a,I c,D.J 8 F,D.J 6 C,D.J 5 G,D.J 3 H,B q],bc.ro (ag d),bc.ro (ag e)] (bG.vals [al false]):=
 h.dg
theorem aml(h:ah (Dg Q i o ck a g r [.b (ck==a) false,.a .sub,.x M g (b7 j R k l m n),.r 260 [.agg (b7 j R k l m n)] [.agg (b7 dT e8 d0 cc f0 i0),.agg (bA c b d e f),al s],.n s false,.x M g (b7 j R k l m n),.a .sub,.x A a (a' C E F G H au K L),.g C [(bA c b d e f)] 40,.e A a.toNat (a' C E F G H au K L),.p ((a' C E F G H au K L)[0]?=some (D.J 5 C)),.h [(bA c b d e f)],.p (A=A),.p (A=A),.p (A=A),.p (A=A),.p (A=A),.p (a.toNat=a.toNat),.p (C=C),.x A a (a' C E F G H au K L),.a .sub,.p (a.toNat=a.toNat),.p (0<=a),.p (a<(↑(A.set a.toNat (a' (C++[(bA c b d e f)]) E F G H au K L)).length:Int)),.e (A.set a.toNat (a' (C++[(bA c b d e f)]) E F G H au K L)) a.toNat (a' S bi V X Y N Z dz),.x N b [B t],.e (A.set a.toNat (a' (C++[(bA c b d e f)]) E F G H au K L)) a.toNat (a' S bi V X Y N Z dz),.a (.hd [some [D.J 4 ft,I p,I a0,D.J 8 gf,D.J 6 gg,D.J 5 gh,D.J 3 gi,B q],none,none,none] (bG.vals [])),.p (a.toNat=a.toNat),.p (a.toNat=a.toNat),.p (dC prog 259 [bc.ref [D.J 4 Q,I i,I o,D.J 8 ((A.set a.toNat (a' (C++[(bA c b d e f)]) E F G H au K L)).set a.toNat (a' S bi V X Y (N.set b.toNat [B true]) Z dz)),D.J 6 (M.set g.toNat (b7 dT e8 d0 cc f0 i0)),D.J 5 lu,D.J 3 mb,B r] [D.J 4 ft,I p,I a0,D.J 8 gf,D.J 6 gg,D.J 5 gh,D.J 3 gi,B q],bc.ro (ag a),bc.ro (ag b),bc.ro (ag (-1))] (bG.vals []))])):
 dd 156 [bc.ref [D.J 4 Q,I i,I o,D.J 8 A,D.J 6 M,D.J 5 lu,D.J 3 mb,B r] [D.J 4 ft,I p,I a0,D.J 8 gf,D.J 6 gg,D.J 5 gh,D.J 3 gi,B q],bc.ro (ag ck),bc.ro (ag a)] (bG.vals [al true]):=
 h.dg
theorem U'(h:ah (Hp G a b A C E F q r H c d au K L M s e [.n r true])):
 dd 170 [bc.ref [D.J 4 H,I c,I d,D.J 8 au,D.J 6 K,D.J 5 L,D.J 3 M,B s] [D.J 4 G,I a,I b,D.J 8 A,D.J 6 C,D.J 5 E,D.J 3 F,B q],bc.ro (ag e)] (bG.vals [al false]):=
 h.dg
theorem alw(h:ah (Dh G a b A C E F q r H d e K L M N s c Q au R S bi V X Y [.b (decide ((au.length:Int)>0)) true])):
 dd 170 [bc.ref [D.J 4 H,I d,I e,D.J 8 K,D.J 6 L,D.J 5 M,D.J 3 N,B s] [D.J 4 G,I a,I b,D.J 8 A,D.J 6 C,D.J 5 E,D.J 3 F,B q],bc.ro (ag c)] (bG.vals [al false]):=
 h.dg
theorem alx(h:ah (Di G a b A C E F q r H d e L M N Q s c au K R S bi V X Y [.b ((au.length:Int)==0) true])):
 dd 170 [bc.ref [D.J 4 H,I d,I e,D.J 8 L,D.J 6 M,D.J 5 N,D.J 3 Q,B s] [D.J 4 G,I a,I b,D.J 8 A,D.J 6 C,D.J 5 E,D.J 3 F,B q],bc.ro (ag c)] (bG.vals [al false]):=
 h.dg
def XP(A:ak)(a b:Int)(C E F G:ak)(q r:Bool)(H:ak)(c d:Int)(au K L M:ak)(s:Bool)(e:Int)(N P Q R S bi V X:ak)(f g i j k:Int)(Y Z:ak)(t u:Bool)(l:List O):List O:=Di A a b C E F G q r H c d au K L M s e N P Q R S bi V X (.b ((N.length:Int)==0) false::.p ((0:Int)<=0)::.p (0<(N.length:Int))::.e N 0 (bA f g i j k)::.r 176 [.agg (bP A a b),aS 4 R,.agg (bA f g i j k)] [aS 4 Y,aS 5 Z,al t]::.p ((0:Int)<=(some (1:Int)).getD 0)::.p ((some (1:Int)).getD 0<=none.getD (N.length:Int))::.p (none.getD (N.length:Int)<=(N.length:Int))::.g ([]:ak) (List.take (N.length-1) (List.drop 1 N)) 40::.h (List.take (N.length-1) (List.drop 1 N))::.r 177 [.agg (bP A a b),.agg (bA f g i j k)] [al u]::l)
theorem aly(h:ah (XP M c d E N Q R q r S j k bi Y Z dz t a A F G H au K C L e b f g i V X u s [.b s true,.x C b [B v],.e E a.toNat (a' A F G H au K C L),.p (a.toNat=a.toNat),.p (a.toNat=a.toNat),.p (a.toNat=a.toNat),.p (a.toNat=a.toNat),.x (E.set a.toNat (a' A F G H au K (C.set b.toNat [B true]) L)) a (a' A F G H au K (C.set b.toNat [B true]) L),.p (a.toNat=a.toNat),.p (a.toNat=a.toNat),.p (a.toNat=a.toNat),.p (a.toNat=a.toNat),.p (a.toNat=a.toNat)])):
 dd 170 [bc.ref [D.J 4 S,I j,I k,D.J 8 bi,D.J 6 Y,D.J 5 Z,D.J 3 dz,B t] [D.J 4 M,I c,I d,D.J 8 ((E.set a.toNat (a' A F G H au K (C.set b.toNat [B true]) L)).set a.toNat (a' ([]++List.take (A.length-1) (List.drop 1 A)) X G V au K (C.set b.toNat [B true]) L)),D.J 6 N,D.J 5 Q,D.J 3 R,B q],bc.ro (ag a)] (bG.vals [al true]):=
 h.dg
theorem alz(h:ah (XP E b c C F G H q r S j k bi Y Z dz t a A au K L M N Q R d e f g i V X u s [.b s false,.x C a (a' A au K L M N Q R),.p (a.toNat=a.toNat),.p (a.toNat=a.toNat),.p (a.toNat=a.toNat),.p (a.toNat=a.toNat),.p (a.toNat=a.toNat)])):
 dd 170 [bc.ref [D.J 4 S,I j,I k,D.J 8 bi,D.J 6 Y,D.J 5 Z,D.J 3 dz,B t] [D.J 4 E,I b,I c,D.J 8 (C.set a.toNat (a' ([]++List.take (A.length-1) (List.drop 1 A)) X K V M N Q R)),D.J 6 F,D.J 5 G,D.J 3 H,B q],bc.ro (ag a)] (bG.vals [al true]):=
 h.dg
theorem alA(h:ah [.b (e==1) true,.a (.hd [some [D.J 4 A,I a,I b,D.J 8 C,D.J 6 E,D.J 5 F,D.J 3 G,B q],none] (bG.vals [al r])),.p (dC prog 170 [bc.ref [D.J 4 H,I c,I d,D.J 8 au,D.J 6 K,D.J 5 L,D.J 3 M,B s] [D.J 4 A,I a,I b,D.J 8 C,D.J 6 E,D.J 5 F,D.J 3 G,B q],bc.ro (ag f)] (bG.vals [al r]))]):
 dd 128 [bc.ref [D.J 4 H,I c,I d,D.J 8 au,D.J 6 K,D.J 5 L,D.J 3 M,B s] [D.J 4 A,I a,I b,D.J 8 C,D.J 6 E,D.J 5 F,D.J 3 G,B q],bc.ro (.agg [I e,I f,I g])] (bG.vals [al r]):=
 h.dg
theorem alB(h:ah [.b (c==1) false,.b (c==2) true,.a (.hd [some [D.J 4 A,I a,I b,D.J 8 C,D.J 6 E,D.J 5 F,D.J 3 G,B q],none] (bG.vals [al r])),.p (dC prog 171 [bc.ref [D.J 4 H,I d,I e,D.J 8 au,D.J 6 K,D.J 5 L,D.J 3 M,B s] [D.J 4 A,I a,I b,D.J 8 C,D.J 6 E,D.J 5 F,D.J 3 G,B q],bc.ro (ag f)] (bG.vals [al r]))]):
 dd 128 [bc.ref [D.J 4 H,I d,I e,D.J 8 au,D.J 6 K,D.J 5 L,D.J 3 M,B s] [D.J 4 A,I a,I b,D.J 8 C,D.J 6 E,D.J 5 F,D.J 3 G,B q],bc.ro (.agg [I c,I f,I g])] (bG.vals [al r]):=
 h.dg
def XQ(a:Int)(l:List O):List O:=.b (a==1) false::.b (a==2) false::l
theorem alC(h:ah (XQ a [.b (a==3) true,.a (.hd [some [D.J 4 A,I b,I c,D.J 8 C,D.J 6 E,D.J 5 F,D.J 3 G,B q],none] (bG.vals [al r])),.p (dC prog 151 [bc.ref [D.J 4 H,I d,I e,D.J 8 au,D.J 6 K,D.J 5 L,D.J 3 M,B s] [D.J 4 A,I b,I c,D.J 8 C,D.J 6 E,D.J 5 F,D.J 3 G,B q],bc.ro (ag f)] (bG.vals [al r]))])):
 dd 128 [bc.ref [D.J 4 H,I d,I e,D.J 8 au,D.J 6 K,D.J 5 L,D.J 3 M,B s] [D.J 4 A,I b,I c,D.J 8 C,D.J 6 E,D.J 5 F,D.J 3 G,B q],bc.ro (.agg [I a,I f,I g])] (bG.vals [al r]):=
 h.dg
def Om(a:Int)(l:List O):List O:=XQ a (.b (a==3) false::l)
theorem alD(h:ah (Om a [.b (a==4) true,.a (.hd [some [D.J 4 A,I b,I c,D.J 8 C,D.J 6 E,D.J 5 F,D.J 3 G,B q],none,none] (bG.vals [al r])),.p (dC prog 156 [bc.ref [D.J 4 H,I d,I f,D.J 8 au,D.J 6 K,D.J 5 L,D.J 3 M,B s] [D.J 4 A,I b,I c,D.J 8 C,D.J 6 E,D.J 5 F,D.J 3 G,B q],bc.ro (ag g),bc.ro (ag e)] (bG.vals [al r]))])):
 dd 128 [bc.ref [D.J 4 H,I d,I f,D.J 8 au,D.J 6 K,D.J 5 L,D.J 3 M,B s] [D.J 4 A,I b,I c,D.J 8 C,D.J 6 E,D.J 5 F,D.J 3 G,B q],bc.ro (.agg [I a,I g,I e])] (bG.vals [al r]):=
 h.dg
theorem alE(h:ah (Om a [.b (a==4) false,.b (a==5) true,.a (.hd [some [D.J 4 A,I b,I c,D.J 8 C,D.J 6 E,D.J 5 F,D.J 3 G,B q],none,none] (bG.vals [al r])),.p (dC prog 158 [bc.ref [D.J 4 H,I d,I f,D.J 8 au,D.J 6 K,D.J 5 L,D.J 3 M,B s] [D.J 4 A,I b,I c,D.J 8 C,D.J 6 E,D.J 5 F,D.J 3 G,B q],bc.ro (ag g),bc.ro (ag e)] (bG.vals [al r]))])):
 dd 128 [bc.ref [D.J 4 H,I d,I f,D.J 8 au,D.J 6 K,D.J 5 L,D.J 3 M,B s] [D.J 4 A,I b,I c,D.J 8 C,D.J 6 E,D.J 5 F,D.J 3 G,B q],bc.ro (.agg [I a,I g,I e])] (bG.vals [al r]):=
 h.dg
def On(a:Int)(l:List O):List O:=Om a (.b (a==4) false::.b (a==5) false::l)
theorem alF(h:ah (On a [.b (a==6) true,.a (.hd [some [D.J 4 A,I b,I c,D.J 8 C,D.J 6 E,D.J 5 F,D.J 3 G,B q],none] (bG.vals [al r])),.p (dC prog 246 [bc.ref [D.J 4 H,I d,I e,D.J 8 au,D.J 6 K,D.J 5 L,D.J 3 M,B s] [D.J 4 A,I b,I c,D.J 8 C,D.J 6 E,D.J 5 F,D.J 3 G,B q],bc.ro (ag f)] (bG.vals [al r]))])):
 dd 128 [bc.ref [D.J 4 H,I d,I e,D.J 8 au,D.J 6 K,D.J 5 L,D.J 3 M,B s] [D.J 4 A,I b,I c,D.J 8 C,D.J 6 E,D.J 5 F,D.J 3 G,B q],bc.ro (.agg [I a,I f,I g])] (bG.vals [al r]):=
 h.dg
theorem alG(h:ah (On a [.b (a==6) false,.b (a==7) true,.a (.hd [some [D.J 4 A,I b,I c,D.J 8 C,D.J 6 E,D.J 5 F,D.J 3 G,B q],none] (bG.vals [al r])),.p (dC prog 247 [bc.ref [D.J 4 H,I d,I e,D.J 8 au,D.J 6 K,D.J 5 L,D.J 3 M,B s] [D.J 4 A,I b,I c,D.J 8 C,D.J 6 E,D.J 5 F,D.J 3 G,B q],bc.ro (ag f)] (bG.vals [al r]))])):
 dd 128 [bc.ref [D.J 4 H,I d,I e,D.J 8 au,D.J 6 K,D.J 5 L,D.J 3 M,B s] [D.J 4 A,I b,I c,D.J 8 C,D.J 6 E,D.J 5 F,D.J 3 G,B q],bc.ro (.agg [I a,I f,I g])] (bG.vals [al r]):=
 h.dg
theorem alH(h:ah (On a [.b (a==6) false,.b (a==7) false])):
 dd 128 [bc.ref [D.J 4 A,I b,I c,D.J 8 C,D.J 6 E,D.J 5 F,D.J 3 G,B q] [D.J 4 A,I b,I c,D.J 8 C,D.J 6 E,D.J 5 F,D.J 3 G,B q],bc.ro (.agg [I a,I e,I d])] (bG.vals [al false]):=
 h.dg
def xT(A:ak)(a b:Int)(C:ak)(c d:Int)(E F G H:ak)(q:Bool):aG:=bp 22 [(0,bE 1000000000),(1,.bd (.one (.gb 1000000200 3 A))),(5,bf b),(6,bf a)] [(1000000000,[aV 950001000 4 C,aM c,aM d,aV 950001003 8 E,aV 950001004 6 F,aV 950001005 5 G,aV 950001006 3 H,.cg q])]
theorem alI(h:ah (Oj H a g i j A c d C E F G q r au e f K L M N s [.b r true,.u b,.u a])):
 aY (av f131 0) (xT H a b au e f K L M N s) .normal (xT H (a+1) (b+1) A c d C E F G q):=
 h.y2 [(1000000001000000,950001000,4),(1000000001000003,950001003,8),(1000000001000004,950001004,6),(1000000001000005,950001005,5),(1000000001000006,950001006,3)] [6,1,0,5] [1000000000]
theorem alJ(h:ah (Oj H a g i j A b c C E F G q r au e f K L M N s [.b r false,.u a])):
 aY (av f131 0) (xT H a d au e f K L M N s) .normal (xT H (a+1) d A b c C E F G q):=
 h.y2 [(1000000001000000,950001000,4),(1000000001000003,950001003,8),(1000000001000004,950001004,6),(1000000001000005,950001005,5),(1000000001000006,950001006,3)] [6,1,0,5] [1000000000]
def Va(a:Int)(A:ak)(b c:Int)(C E F G:ak)(q:Bool):aG:=bp 22 [(0,bE 1000000000),(5,bf a)] [(1000000000,[aV 950001000 4 A,aM b,aM c,aV 950001003 8 C,aV 950001004 6 E,aV 950001005 5 F,aV 950001006 3 G,.cg q])]
theorem alK(h:ah [.f H d false]):
 aY (av f131 0) (xT H d a A b c C E F G q) (.exit 0) (Va a A b c C E F G q):=
 h.aR [5,0] [1000000000]
theorem alL(h:ah [.l [(1000000001000000,950001000,4),(1000000001000003,950001003,8),(1000000001000004,950001004,6),(1000000001000005,950001005,5),(1000000001000006,950001006,3)] [6,1,0,5] [1000000000] (av f131 0) (xT N 0 0 A a d au K L M r) (.exit 0) (Va e C b c E F G H q)]):
 dd 131 [bc.ref [D.J 4 A,I a,I d,D.J 8 au,D.J 6 K,D.J 5 L,D.J 3 M,B r] [D.J 4 C,I b,I c,D.J 8 E,D.J 6 F,D.J 5 G,D.J 3 H,B q],bc.ro (aS 3 N)] (bG.vals [ag e]):=
 h.dg
