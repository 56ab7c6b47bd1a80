import Derived.Test.YtdchjefneblpgaaGreatGE
set_option linter.unusedVariables false
set_option linter.unusedSimpArgs false
namespace Go.Proofs.YtdchjefneblpgaaGreat
open Go.Sx Go.RowKit Go.Proofs.Tryz
variable {a b c d e f g i j k l m n o p a0 b4 cW d0 bz f0 g0 i0 j0 : Int} {A C E F G H al K L M N Q R S bl V X Y Z dL fS fT hv hx hy il k5 k6 l' ma mb mc me : af} {q r s t u v : Bool}
def qj(a:Int)(A:af)(b c d e f:Int)(C:af)(g i j k:Int)(q:Bool)(l:List O):List O:=.r 279 [.agg (bO a A b c d e)] [.agg (bO f C g i j k)]::.r 191 [.agg (bO f C g i j k)] [ao q]::l
theorem agj(h:ad (qj f C g i j k c A d e a b q [.n q true])):
 av 261 [.agg (bO f C g i j k)] [.agg (bO c A d e a b),ao false]:=
 h.of
theorem agk(h:ad (qj f C g i j k d A e a b c q [.n q false,.b (a==0) true])):
 av 261 [.agg (bO f C g i j k)] [.agg (bO d A e a b c),ao false]:=
 h.of
theorem agl(h:ad (qj f C g i j k e A b a c d q [.n q false,.b (a==0) false,.v (a-1),.u b])):
 av 261 [.agg (bO f C g i j k)] [.agg (bO e A (b+1) (a-1) c d),ao true]:=
 h.of
def tT(A:af)(a d:Int)(C:af)(e f:Int)(E F G H:af)(q:Bool)(b c:Int):aH:=bj 34 [(1,aZ a),(4,aR 4),(6,aR 10),(7,aI.aJ (bq.one (aG 130000 3 A))),(8,aZ d)] [(10,[aG 900011000 4 C,aw e,aw f,aG 900011003 8 E,aG 900011004 6 F,aG 900011005 5 G,aG 900011006 3 H,.bc q]),(4,[.v (aO),aw b,aw c,.v (aO),.v (aO),.v (aO),.v (aO)])]
def KB(a:Int)(A:af)(b c:Int)(C E F G:af):aH:=bj 34 [(4,aR 4),(5,aZ a)] [(4,[aG 235000 4 A,aw b,aw c,aG 235003 8 C,aG 235004 6 E,aG 235005 5 F,aG 235006 3 G])]
def VT(a b:Int)(A:af)(c d:Int)(C E F G:af)(q:Bool)(e:Int)(H:af)(f g:Int)(al K L M:af)(r:Bool)(N:af)(l:List O):List O:=.b (decide (a<=b)) true::.a (.dj [some [D.J 4 A,I c,I d,D.J 8 C,D.J 6 E,D.J 5 F,D.J 3 G,B q],none] (aS.vals [ae e]))::.p (bT prog 131 [aM.ref [D.J 4 H,I f,I g,D.J 8 al,D.J 6 K,D.J 5 L,D.J 3 M,B r] [D.J 4 A,I c,I d,D.J 8 C,D.J 6 E,D.J 5 F,D.J 3 G,B q],aM.ro (a7 3 N)] (aS.vals [ae e]))::l
theorem agm(h:ad (VT a e A b c C E F G r d al f g K L M N q H [.b (d==0) true])):
 a1 (ar f16 0) (tT H e a al f g K L M N q i j) .ret (KB a A b c C E F G):=
 h.aW [4,5] [4]
theorem SJ(h:ad (VT a b C c d E F G H q e al f g K L M N r A [.b (e==0) false,.u a])):
 a1 (ar f16 0) (tT A b a al f g K L M N r i j) .normal (tT A b (a+1) C c d E F G H q i j):=
 h.pO [(11000000,900011000,4),(11000003,900011003,8),(11000004,900011004,6),(11000005,900011005,5),(11000006,900011006,3)] [8,1,6,7,4] [10,4]
def KC(a:Int)(A:af)(c d:Int)(C E F G:af)(q:Bool)(e b:Int):aH:=bj 34 [(1,aZ a),(4,aR 4),(6,aR 10)] [(10,[aG 900011000 4 A,aw c,aw d,aG 900011003 8 C,aG 900011004 6 E,aG 900011005 5 F,aG 900011006 3 G,.bc q]),(4,[.v (aO),aw e,aw b,.v (aO),.v (aO),.v (aO),.v (aO)])]
theorem agn(h:ad [.b (decide (b<=a)) false]):
 a1 (ar f16 0) (tT H a b A c d C E F G q e f) (.exit 0) (KC a A c d C E F G q e f):=
 h.aW [6,1,4] [10,4]
def Mp(A:af)(a b:Int)(C E F G:af)(q:Bool)(H:af)(c d:Int)(al K L M:af)(l:List O):List O:=.a (.dj [none] (aS.new [D.J 4 A,I a,I b,D.J 8 C,D.J 6 E,D.J 5 F,D.J 3 G,B q]))::.p (bT prog 127 [aM.ro (.agg (cl H c d al K L M))] (aS.new [D.J 4 A,I a,I b,D.J 8 C,D.J 6 E,D.J 5 F,D.J 3 G,B q]))::l
theorem ago(h:ad (Mp M d b C E F G q A a c H al K L [.r 129 [.agg (cl A a c H al K L)] [a7 3 N],.r 130 [ae j,ae 0,ae 3000] [ae e],.l [(11000000,900011000,4),(11000003,900011003,8),(11000004,900011004,6),(11000005,900011005,5),(11000006,900011006,3)] [8,1,6,7,4] [10,4] (ar f16 0) (tT N e 1 M d b C E F G q 0 0) .ret (KB f Q g i R S bl V)])):
 av 16 [.agg (cl A a c H al K L),ae j] [.agg (cl Q g i R S bl V),ae f]:=
 h.of
theorem agp(h:ad (Mp M e c C E F G q A b d H al K L [.r 129 [.agg (cl A b d H al K L)] [a7 3 N],.r 130 [ae i,ae 0,ae 3000] [ae a],.l [(11000000,900011000,4),(11000003,900011003,8),(11000004,900011004,6),(11000005,900011005,5),(11000006,900011006,3)] [8,1,6,7,4] [10,4] (ar f16 0) (tT N a 1 M e c C E F G q 0 0) (.exit 0) (KC a Q f g R S bl V r j k)])):
 av 16 [.agg (cl A b d H al K L),ae i] [.agg (cl Q f g R S bl V),ae a]:=
 h.of
def VU(a b:Int)(q:Bool)(l:List O):List O:=.a .wr::.r 168 [ae a,ae 0,ae (IntKind.i64.wrap (b-1))] [ao q]::l
theorem SK(h:ad (VU b a q [.n q true])):
 av 61 [.agg (bD A a c),ae b,ae d] [ae (-1)]:=
 h.of
def Mq(a b:Int)(q:Bool)(c:Int)(r:Bool)(l:List O):List O:=VU a b q (.n q false::.a .wr::.r 168 [ae c,ae 0,ae (IntKind.i64.wrap (b-1))] [ao r]::l)
theorem SL(h:ad (Mq b a q c r [.n r true])):
 av 61 [.agg (bD A a d),ae b,ae c] [ae (-1)]:=
 h.of
theorem agq(h:ad (Mq b a q c r [.n r false,.b (decide (a<1)) true])):
 av 61 [.agg (bD A a d),ae b,ae c] [ae (-1)]:=
 h.of
theorem SM(h:ad (Mq b a q c r [.n r false,.b (decide (a<1)) false,.a .wr,.a .wr])):
 av 61 [.agg (bD A a d),ae b,ae c] [ae (IntKind.i64.wrap (IntKind.i64.wrap (b*a)+c))]:=
 h.of
def xp(A:af)(a:Int)(C E:af)(d e:Int)(F G H al:af)(q:Bool)(b c:Int):aH:=bj 32 [(1,dJ 3 A),(4,aR 4),(6,aR 10),(7,aI.aJ (bq.one (aG 11 1 C))),(8,aZ a)] [(10,[aG 900011000 4 E,aw d,aw e,aG 900011003 8 F,aG 900011004 6 G,aG 900011005 5 H,aG 900011006 3 al,.bc q]),(4,[.v (aO),aw b,aw c,.v (aO),.v (aO),.v (aO),.v (aO)])]
def Mr(A:af)(a b c d:Int)(C:af)(e f:Int)(E F G H:af)(q r:Bool)(al:af)(g i:Int)(K L M N:af)(s:Bool)(l:List O):List O:=.i A a [I b,I c,I d]::.a (.dj [some [D.J 4 C,I e,I f,D.J 8 E,D.J 6 F,D.J 5 G,D.J 3 H,B q],none] (aS.vals [ao r]))::.p (bT prog 128 [aM.ref [D.J 4 al,I g,I i,D.J 8 K,D.J 6 L,D.J 5 M,D.J 3 N,B s] [D.J 4 C,I e,I f,D.J 8 E,D.J 6 F,D.J 5 G,D.J 3 H,B q],aM.ro (.agg [I b,I c,I d])] (aS.vals [ao r]))::l
theorem afQ(h:ad (Mr al a i j k C b c E F G H r q K d e L M N Q s [.g A [[B q]] 1,.h [[B q]],.u a])):
 a1 (ar f15 0) (xp al a A K d e L M N Q s f g) .normal (xp al (a+1) (A++[[B q]]) C b c E F G H r f g):=
 h.pO [(11000000,900011000,4),(11000003,900011003,8),(11000004,900011004,6),(11000005,900011005,5),(11000006,900011006,3)] [8,1,7,6,4] [10,4]
def KD(A C:af)(b c:Int)(E F G H:af)(q:Bool)(d a:Int):aH:=bj 32 [(4,aR 4),(6,aR 10),(7,aI.aJ (bq.one (aG 11 1 A)))] [(10,[aG 900011000 4 C,aw b,aw c,aG 900011003 8 E,aG 900011004 6 F,aG 900011005 5 G,aG 900011006 3 H,.bc q]),(4,[.v (aO),aw d,aw a,.v (aO),.v (aO),.v (aO),.v (aO)])]
theorem afR(h:ad [.f al a false]):
 a1 (ar f15 0) (xp al a A C b c E F G H q d e) (.exit 0) (KD A C b c E F G H q d e):=
 h.aW [6,7,4] [10,4]
theorem afS(h:ad (Mp G b a A C E F q H c f R S bl V [.l [(11000000,900011000,4),(11000003,900011003,8),(11000004,900011004,6),(11000005,900011005,5),(11000006,900011006,3)] [8,1,7,6,4] [10,4] (ar f15 0) (xp X 0 [] G b a A C E F q 0 0) (.exit 0) (KD al K d e L M N Q r g i)])):
 av 15 [.agg (cl H c f R S bl V),a7 3 X] [.agg (cl K d e L M N Q),a7 1 al]:=
 h.of
theorem afT(h:ad (qj f C g i j k a A b c d e q [.n q true])):
 av 258 [.agg (bO f C g i j k),.agg (bi m n o p l)] [.agg (bO a A b c d e),ao false]:=
 h.of
theorem afU(h:ad (qj f C i j k l a A b c d e q [.n q false,.r 122 [.agg (bi m n o p g)] [ao r],.n r true])):
 av 258 [.agg (bO f C i j k l),.agg (bi m n o p g)] [.agg (bO a A b c d e),ao false]:=
 h.of
theorem afV(h:ad (qj f C i j k l b A a c d e q [.n q false,.r 122 [.agg (bi m n o p g)] [ao r],.n r false,.b (a==0) true])):
 av 258 [.agg (bO f C i j k l),.agg (bi m n o p g)] [.agg (bO b A a c d e),ao false]:=
 h.of
theorem afW(h:ad (qj f C i j k l c A a d b e q [.n q false,.r 122 [.agg (bi m n o p g)] [ao r],.n r false,.b (a==0) false,.b (decide (b>=1000000000)) true])):
 av 258 [.agg (bO f C i j k l),.agg (bi m n o p g)] [.agg (bO c A a d b e),ao false]:=
 h.of
theorem afX(h:ad (qj l C m n o p i A b j c k q [.n q false,.r 122 [.agg (bi d e f g a)] [ao r],.n r false,.b (b==0) false,.b (decide (c>=1000000000)) false,.g A [(bi d e f g a)] 40,.h [(bi d e f g a)],.v (b-1),.u c])):
 av 258 [.agg (bO l C m n o p),.agg (bi d e f g a)] [.agg (bO i (A++[(bi d e f g a)]) (b-1) j (c+1) k),ao true]:=
 h.of
theorem afY(h:ad (qj f C g i j k c A d e a b q [.n q true])):
 av 260 [.agg (bO f C g i j k)] [.agg (bO c A d e a b),.agg (bi 0 0 0 0 0),ao false]:=
 h.of
theorem afZ(h:ad (qj f C g i j k c A d e a b q [.n q false,.b ((A.length:Int)==0) true])):
 av 260 [.agg (bO f C g i j k)] [.agg (bO c A d e a b),.agg (bi 0 0 0 0 0),ao false]:=
 h.of
theorem ahr(h:ad (qj f C m n o p d A e b c a q [.n q false,.b ((A.length:Int)==0) false,.p ((0:Int)<=0),.p (0<(A.length:Int)),.e A 0 (bi g i j k l),.p ((0:Int)<=(some (1:Int)).getD 0),.p ((some (1:Int)).getD 0<=none.getD (A.length:Int)),.p (none.getD (A.length:Int)<=(A.length:Int)),.g ([]:af) (List.take (A.length-1) (List.drop 1 A)) 40,.h (List.take (A.length-1) (List.drop 1 A)),.u a,.u b])):
 av 260 [.agg (bO f C m n o p)] [.agg (bO d ([]++List.take (A.length-1) (List.drop 1 A)) e (b+1) c (a+1)),.agg (bi g i j k l),ao true]:=
 h.of
def Bs(A:af)(a b c d e:Int)(l:List O):List O:=.r 61 [.agg (bD A a b),ae c,ae d] [ae e]::l
theorem ahs(h:ad (Bs A a b c d e [.n q true])):
 b3 158 [aM.ref [D.J 4 A,I a,I b,D.J 8 C,D.J 6 E,D.J 5 F,D.J 3 G,B q] [D.J 4 A,I a,I b,D.J 8 C,D.J 6 E,D.J 5 F,D.J 3 G,B q],aM.ro (ae c),aM.ro (ae d)] (aS.vals [ao false]):=
 h.b5
theorem aht(h:ad (Bs A a b d e c [.n q false,.b (decide (c<0)) true])):
 b3 158 [aM.ref [D.J 4 A,I a,I b,D.J 8 C,D.J 6 E,D.J 5 F,D.J 3 G,B q] [D.J 4 A,I a,I b,D.J 8 C,D.J 6 E,D.J 5 F,D.J 3 G,B q],aM.ro (ae d),aM.ro (ae e)] (aS.vals [ao false]):=
 h.b5
def Bj(A:af)(a b c d e:Int)(q:Bool)(l:List O):List O:=Bs A a b c d e (.n q false::.b (decide (e<0)) false::l)
theorem ahu(h:ad (Bj A a b c d e q [.b (c==d) true])):
 b3 158 [aM.ref [D.J 4 A,I a,I b,D.J 8 C,D.J 6 E,D.J 5 F,D.J 3 G,B q] [D.J 4 A,I a,I b,D.J 8 C,D.J 6 E,D.J 5 F,D.J 3 G,B q],aM.ro (ae c),aM.ro (ae d)] (aS.vals [ao false]):=
 h.b5
theorem ahv(h:ad (Bj C b i j k a q [.b (j==k) false,.a .sub,.x A a (bO c E d e f g),.r 261 [.agg (bO c E d e f g)] [.agg (bO l F m n o p),ao r],.x A a (bO c E d e f g)])):
 b3 158 [aM.ref [D.J 4 C,I b,I i,D.J 8 G,D.J 6 A,D.J 5 H,D.J 3 al,B q] [D.J 4 C,I b,I i,D.J 8 G,D.J 6 (A.set a.toNat (bO l F m n o p)),D.J 5 H,D.J 3 al,B q],aM.ro (ae j),aM.ro (ae k)] (aS.vals [ao r]):=
 h.b5
def Fa(A:af)(a b:Int)(C E F G:af)(q r:Bool)(H:af)(c d:Int)(al K L M:af)(s:Bool)(e:Int)(l:List O):List O:=.a (.dj [some [D.J 4 A,I a,I b,D.J 8 C,D.J 6 E,D.J 5 F,D.J 3 G,B q],none] (aS.vals [ao r]))::.p (bT prog 257 [aM.ref [D.J 4 H,I c,I d,D.J 8 al,D.J 6 K,D.J 5 L,D.J 3 M,B s] [D.J 4 A,I a,I b,D.J 8 C,D.J 6 E,D.J 5 F,D.J 3 G,B q],aM.ro (ae e)] (aS.vals [ao r]))::l
theorem SN(h:ad (Fa G a b A C E F q r H c d al K L M s e [.n r true])):
 b3 171 [aM.ref [D.J 4 H,I c,I d,D.J 8 al,D.J 6 K,D.J 5 L,D.J 3 M,B s] [D.J 4 G,I a,I b,D.J 8 A,D.J 6 C,D.J 5 E,D.J 3 F,B q],aM.ro (ae e)] (aS.vals [ao false]):=
 h.b5
def Bk(A:af)(a b:Int)(C E F G:af)(q r:Bool)(H:af)(c d:Int)(al K L M:af)(s:Bool)(e:Int)(N P Q R S bl V X:af)(l:List O):List O:=Fa A a b C E F G q r H c d al K L M s e (.n r false::.a .sub::.x C e (ba N P Q R S bl V X)::l)
theorem ahw(h:ad (Bk G a b A C E F q r H d e K L M N s c Q al R S bl V X Y [.b (decide ((al.length:Int)>0)) true])):
 b3 171 [aM.ref [D.J 4 H,I d,I e,D.J 8 K,D.J 6 L,D.J 5 M,D.J 3 N,B s] [D.J 4 G,I a,I b,D.J 8 A,D.J 6 C,D.J 5 E,D.J 3 F,B q],aM.ro (ae c)] (aS.vals [ao false]):=
 h.b5
def Bl(A:af)(a b:Int)(C E F G:af)(q r:Bool)(H:af)(c d:Int)(al K L M:af)(s:Bool)(e:Int)(N P Q R S bl V X:af)(l:List O):List O:=Bk A a b C E F G q r H c d al K L M s e N P Q R S bl V X (.b (decide ((P.length:Int)>0)) false::l)
theorem ahx(h:ad (Bl G a b A C E F q r H d e L M N Q s c al K R S bl V X Y [.b (decide ((al.length:Int)>0)) true])):
 b3 171 [aM.ref [D.J 4 H,I d,I e,D.J 8 L,D.J 6 M,D.J 5 N,D.J 3 Q,B s] [D.J 4 G,I a,I b,D.J 8 A,D.J 6 C,D.J 5 E,D.J 3 F,B q],aM.ro (ae c)] (aS.vals [ao false]):=
 h.b5
theorem ahy(h:ad (Bl G a b A C E F q r H d e M N Q R s c al K L S bl V X Y [.b (decide ((al.length:Int)>0)) false,.b ((L.length:Int)==0) true])):
 b3 171 [aM.ref [D.J 4 H,I d,I e,D.J 8 M,D.J 6 N,D.J 5 Q,D.J 3 R,B s] [D.J 4 G,I a,I b,D.J 8 A,D.J 6 C,D.J 5 E,D.J 3 F,B q],aM.ro (ae c)] (aS.vals [ao false]):=
 h.b5
theorem ahz(h:ad (Bl R b c C F G H q r S d e bl V X Y s a al E A K L M N Q [.b (decide ((al.length:Int)>0)) false,.b ((A.length:Int)==0) false,.p ((0:Int)<=0),.p (0<(A.length:Int)),.e A 0 (bi f g i j k),.p ((0:Int)<=(some (1:Int)).getD 0),.p ((some (1:Int)).getD 0<=none.getD (A.length:Int)),.p (none.getD (A.length:Int)<=(A.length:Int)),.g ([]:af) (List.take (A.length-1) (List.drop 1 A)) 40,.h (List.take (A.length-1) (List.drop 1 A)),.x C a (ba al E A K L M N Q),.p (a.toNat=a.toNat),.p (a.toNat=a.toNat),.p (a.toNat=a.toNat),.p (a.toNat=a.toNat),.p (a.toNat=a.toNat),.p (a.toNat=a.toNat)])):
 b3 171 [aM.ref [D.J 4 S,I d,I e,D.J 8 bl,D.J 6 V,D.J 5 X,D.J 3 Y,B s] [D.J 4 R,I b,I c,D.J 8 (C.set a.toNat [D.J 5 [(bi f g i j k)],D.J 5 E,D.J 5 ([]++List.take (A.length-1) (List.drop 1 A)),D.J 4 K,D.J 1 L,D.J 1 M,D.J 1 N,D.J 2 Q]),D.J 6 F,D.J 5 G,D.J 3 H,B q],aM.ro (ae a)] (aS.vals [ao true]):=
 h.b5
theorem SO(h:ad [.b q true,.v ((A.length:Int)-1),.r 168 [ae c,ae 0,ae ((A.length:Int)-1)] [ao r]]):
 b3 257 [aM.ref [D.J 4 C,I a,I b,D.J 8 A,D.J 6 E,D.J 5 F,D.J 3 G,B q] [D.J 4 C,I a,I b,D.J 8 A,D.J 6 E,D.J 5 F,D.J 3 G,B q],aM.ro (ae c)] (aS.vals [ao r]):=
 h.b5
theorem ahA(h:ad [.b q false]):
 b3 257 [aM.ref [D.J 4 A,I a,I b,D.J 8 C,D.J 6 E,D.J 5 F,D.J 3 G,B q] [D.J 4 A,I a,I b,D.J 8 C,D.J 6 E,D.J 5 F,D.J 3 G,B q],aM.ro (ae c)] (aS.vals [ao false]):=
 h.b5
theorem SP(h:ad (Fa G a b A C E F q r H c d al K L M s e [.n r true])):
 b3 151 [aM.ref [D.J 4 H,I c,I d,D.J 8 al,D.J 6 K,D.J 5 L,D.J 3 M,B s] [D.J 4 G,I a,I b,D.J 8 A,D.J 6 C,D.J 5 E,D.J 3 F,B q],aM.ro (ae e)] (aS.vals [ao false]):=
 h.b5
theorem ahB(h:ad (Bk G a b A C E F q r H d e K L M N s c Q al R S bl V X Y [.b ((al.length:Int)==0) true])):
 b3 151 [aM.ref [D.J 4 H,I d,I e,D.J 8 K,D.J 6 L,D.J 5 M,D.J 3 N,B s] [D.J 4 G,I a,I b,D.J 8 A,D.J 6 C,D.J 5 E,D.J 3 F,B q],aM.ro (ae c)] (aS.vals [ao false]):=
 h.b5
def Mj(A:af)(a b:Int)(C E F G:af)(q r:Bool)(H:af)(c d:Int)(al K L M:af)(s:Bool)(e:Int)(N P Q R S bl V X:af)(f g i j k m:Int)(l:List O):List O:=Bk A a b C E F G q r H c d al K L M s e N P Q R S bl V X (.b ((P.length:Int)==0) false::.a .sub::.x C e (ba N P Q R S bl V X)::.p ((0:Int)<=0)::.p (0<(P.length:Int))::.e P 0 (bi f g i j k)::.r 245 [ae j,ae a] [ae m]::l)
theorem ahC(h:ad (Mj F b c A E G H q r al f g bl X Y Z t a K C L M N Q R S i j k d l e [.b (e != a) true,.r 61 [.agg (bD F b c),ae a,ae e] [ae m],.a .sub,.x E m (bO n V o p a0 b4),.r 258 [.agg (bO n V o p a0 b4),.agg (bi i j k d l)] [.agg (bO cW dL d0 bz f0 g0),ao s],.n s true])):
 b3 151 [aM.ref [D.J 4 al,I f,I g,D.J 8 bl,D.J 6 X,D.J 5 Y,D.J 3 Z,B t] [D.J 4 F,I b,I c,D.J 8 A,D.J 6 E,D.J 5 G,D.J 3 H,B q],aM.ro (ae a)] (aS.vals [ao false]):=
 h.b5
theorem ahD(h:ad (Mj H b c C E al K q r fS p a0 l' ma mc me u a fT F hv hx hy il k5 k6 b4 e cW f d0 g [.b (g != a) true,.r 61 [.agg (bD H b c),ae a,ae g] [ae d],.a .sub,.x E d (bO i L j k l m),.r 258 [.agg (bO i L j k l m),.agg (bi b4 e cW f d0)] [.agg (bO bz mb f0 g0 i0 j0),ao t],.n t false,.x E d (bO i L j k l m),.a (.dj [some [D.J 4 M,I n,I o,D.J 8 G,D.J 6 N,D.J 5 Q,D.J 3 R,B s],none,none,none] (aS.vals [])),.a .sub,.p (bT prog 259 [aM.ref [D.J 4 H,I b,I c,D.J 8 C,D.J 6 (E.set d.toNat (bO bz mb f0 g0 i0 j0)),D.J 5 al,D.J 3 K,B q] [D.J 4 M,I n,I o,D.J 8 G,D.J 6 N,D.J 5 Q,D.J 3 R,B s],aM.ro (ae a),aM.ro (ae e),aM.ro (ae 1)] (aS.vals [])),.x G a (ba S A bl V X Y Z dL),.p ((0:Int)<=(some (1:Int)).getD 0),.p ((some (1:Int)).getD 0<=none.getD (A.length:Int)),.p (none.getD (A.length:Int)<=(A.length:Int)),.g ([]:af) (List.take (A.length-1) (List.drop 1 A)) 40,.h (List.take (A.length-1) (List.drop 1 A)),.x G a (ba S A bl V X Y Z dL)])):
 b3 151 [aM.ref [D.J 4 fS,I p,I a0,D.J 8 l',D.J 6 ma,D.J 5 mc,D.J 3 me,B u] [D.J 4 M,I n,I o,D.J 8 (G.set a.toNat (ba S ([]++List.take (A.length-1) (List.drop 1 A)) bl V X Y Z dL)),D.J 6 N,D.J 5 Q,D.J 3 R,B s],aM.ro (ae a)] (aS.vals [ao true]):=
 h.b5
theorem ahE(h:ad (Mj fS g i A N Q R q r fT j k hv hx hy il s a C E F G H al K L c d e b f l [.b (l != a) false,.a .sub,.x A a (ba C E F G H al K L),.g C [(bi c d e b f)] 40,.e A a.toNat (ba C E F G H al K L),.p ((ba C E F G H al K L)[0]?=some (D.J 5 C)),.h [(bi c d e b f)],.p (A=A),.p (A=A),.p (A=A),.p (A=A),.p (A=A),.p (A=A),.p (A=A),.p (A=A),.p (A=A),.p (A=A),.p (A=A),.p (a.toNat=a.toNat),.p (C=C),.x A a (ba C E F G H al K L),.a .sub,.p (a.toNat=a.toNat),.p (0<=a),.p (a<(↑(A.set a.toNat (ba (C++[(bi c d e b f)]) E F G H al K L)).length:Int)),.e (A.set a.toNat (ba (C++[(bi c d e b f)]) E F G H al K L)) a.toNat (ba S M bl V X Y Z dL),.p ((0:Int)<=(some (1:Int)).getD 0),.p ((some (1:Int)).getD 0<=none.getD (M.length:Int)),.p (none.getD (M.length:Int)<=(M.length:Int)),.g ([]:af) (List.take (M.length-1) (List.drop 1 M)) 40,.h (List.take (M.length-1) (List.drop 1 M)),.p (0<=a),.p (a<(↑(A.set a.toNat (ba (C++[(bi c d e b f)]) E F G H al K L)).length:Int)),.e (A.set a.toNat (ba (C++[(bi c d e b f)]) E F G H al K L)) a.toNat (ba S M bl V X Y Z dL)])):
 b3 151 [aM.ref [D.J 4 fT,I j,I k,D.J 8 hv,D.J 6 hx,D.J 5 hy,D.J 3 il,B s] [D.J 4 fS,I g,I i,D.J 8 ((A.set a.toNat (ba (C++[(bi c d e b f)]) E F G H al K L)).set a.toNat (ba S ([]++List.take (M.length-1) (List.drop 1 M)) bl V X Y Z dL)),D.J 6 N,D.J 5 Q,D.J 3 R,B q],aM.ro (ae a)] (aS.vals [ao true]):=
 h.b5
theorem ahF(h:ad [.a .sub,.x L a (ba C E F G A H al K),.a .sub,.x L a (ba C E F G A H al K),.x A b [I d],.v (d+c),.x A b [I i],.e L a.toNat (ba C E F G A H al K),.p (a.toNat=a.toNat),.p (a.toNat=a.toNat),.p (a.toNat=a.toNat),.p (a.toNat=a.toNat),.b r true,.a .sub,.p (0<=a),.p (a<(↑(L.set a.toNat (ba C E F G (A.set b.toNat [I (d+c)]) H al K)).length:Int)),.e (L.set a.toNat (ba C E F G (A.set b.toNat [I (d+c)]) H al K)) a.toNat (ba C E F G (A.set b.toNat [I (d+c)]) H al K),.x (A.set b.toNat [I (d+c)]) b [I g],.r 168 [ae g,ae (-1000000),ae 1000000] [ao q]]):
 b3 259 [aM.ref [D.J 4 M,I e,I f,D.J 8 L,D.J 6 N,D.J 5 Q,D.J 3 R,B r] [D.J 4 M,I e,I f,D.J 8 (L.set a.toNat (ba C E F G (A.set b.toNat [I (d+c)]) H al K)),D.J 6 N,D.J 5 Q,D.J 3 R,B q],aM.ro (ae a),aM.ro (ae b),aM.ro (ae c)] (aS.vals []):=
 h.b5
theorem ahG(h:ad (Bs A a b c d e [.n q true])):
 b3 156 [aM.ref [D.J 4 A,I a,I b,D.J 8 C,D.J 6 E,D.J 5 F,D.J 3 G,B q] [D.J 4 A,I a,I b,D.J 8 C,D.J 6 E,D.J 5 F,D.J 3 G,B q],aM.ro (ae c),aM.ro (ae d)] (aS.vals [ao false]):=
 h.b5
theorem ahH(h:ad (Bs A a b d e c [.n q false,.b (decide (c<0)) true])):
 b3 156 [aM.ref [D.J 4 A,I a,I b,D.J 8 C,D.J 6 E,D.J 5 F,D.J 3 G,B q] [D.J 4 A,I a,I b,D.J 8 C,D.J 6 E,D.J 5 F,D.J 3 G,B q],aM.ro (ae d),aM.ro (ae e)] (aS.vals [ao false]):=
 h.b5
theorem ahI(h:ad (Bj A a b c d e q [.b (c==d) true])):
 b3 156 [aM.ref [D.J 4 A,I a,I b,D.J 8 C,D.J 6 E,D.J 5 F,D.J 3 G,B q] [D.J 4 A,I a,I b,D.J 8 C,D.J 6 E,D.J 5 F,D.J 3 G,B q],aM.ro (ae c),aM.ro (ae d)] (aS.vals [ao false]):=
 h.b5
theorem ahJ(h:ad (Bj A a c d e b q [.b (d==e) false,.a .sub,.x C b (bO f E g i j k),.r 260 [.agg (bO f E g i j k)] [.agg (bO l al m n o p),.agg (bi a0 b4 cW d0 bz),ao r],.n r true])):
 b3 156 [aM.ref [D.J 4 A,I a,I c,D.J 8 F,D.J 6 C,D.J 5 G,D.J 3 H,B q] [D.J 4 A,I a,I c,D.J 8 F,D.J 6 C,D.J 5 G,D.J 3 H,B q],aM.ro (ae d),aM.ro (ae e)] (aS.vals [ao false]):=
 h.b5
theorem ahK(h:ad (Bj Q i o b4 a g r [.b (b4==a) false,.a .sub,.x M g (bO j R k l m n),.r 260 [.agg (bO j R k l m n)] [.agg (bO cW il d0 bz f0 g0),.agg (bi c b d e f),ao s],.n s false,.x M g (bO j R k l m n),.a .sub,.x A a (ba C E F G H al K L),.g C [(bi c b d e f)] 40,.e A a.toNat (ba C E F G H al K L),.p ((ba C E F G H al K L)[0]?=some (D.J 5 C)),.h [(bi c b d e f)],.p (A=A),.p (A=A),.p (A=A),.p (A=A),.p (A=A),.p (a.toNat=a.toNat),.p (C=C),.x A a (ba C E F G H al K L),.a .sub,.p (a.toNat=a.toNat),.p (0<=a),.p (a<(↑(A.set a.toNat (ba (C++[(bi c b d e f)]) E F G H al K L)).length:Int)),.e (A.set a.toNat (ba (C++[(bi c b d e f)]) E F G H al K L)) a.toNat (ba S bl V X Y N Z dL),.x N b [B t],.e (A.set a.toNat (ba (C++[(bi c b d e f)]) E F G H al K L)) a.toNat (ba S bl V X Y N Z dL),.a (.dj [some [D.J 4 fS,I p,I a0,D.J 8 fT,D.J 6 hv,D.J 5 hx,D.J 3 hy,B q],none,none,none] (aS.vals [])),.p (a.toNat=a.toNat),.p (a.toNat=a.toNat),.p (bT prog 259 [aM.ref [D.J 4 Q,I i,I o,D.J 8 ((A.set a.toNat (ba (C++[(bi c b d e f)]) E F G H al K L)).set a.toNat (ba S bl V X Y (N.set b.toNat [B true]) Z dL)),D.J 6 (M.set g.toNat (bO cW il d0 bz f0 g0)),D.J 5 k5,D.J 3 k6,B r] [D.J 4 fS,I p,I a0,D.J 8 fT,D.J 6 hv,D.J 5 hx,D.J 3 hy,B q],aM.ro (ae a),aM.ro (ae b),aM.ro (ae (-1))] (aS.vals []))])):
 b3 156 [aM.ref [D.J 4 Q,I i,I o,D.J 8 A,D.J 6 M,D.J 5 k5,D.J 3 k6,B r] [D.J 4 fS,I p,I a0,D.J 8 fT,D.J 6 hv,D.J 5 hx,D.J 3 hy,B q],aM.ro (ae b4),aM.ro (ae a)] (aS.vals [ao true]):=
 h.b5
theorem SQ(h:ad (Fa G a b A C E F q r H c d al K L M s e [.n r true])):
 b3 170 [aM.ref [D.J 4 H,I c,I d,D.J 8 al,D.J 6 K,D.J 5 L,D.J 3 M,B s] [D.J 4 G,I a,I b,D.J 8 A,D.J 6 C,D.J 5 E,D.J 3 F,B q],aM.ro (ae e)] (aS.vals [ao false]):=
 h.b5
theorem ahL(h:ad (Bk G a b A C E F q r H d e K L M N s c Q al R S bl V X Y [.b (decide ((al.length:Int)>0)) true])):
 b3 170 [aM.ref [D.J 4 H,I d,I e,D.J 8 K,D.J 6 L,D.J 5 M,D.J 3 N,B s] [D.J 4 G,I a,I b,D.J 8 A,D.J 6 C,D.J 5 E,D.J 3 F,B q],aM.ro (ae c)] (aS.vals [ao false]):=
 h.b5
theorem ahM(h:ad (Bl G a b A C E F q r H d e L M N Q s c al K R S bl V X Y [.b ((al.length:Int)==0) true])):
 b3 170 [aM.ref [D.J 4 H,I d,I e,D.J 8 L,D.J 6 M,D.J 5 N,D.J 3 Q,B s] [D.J 4 G,I a,I b,D.J 8 A,D.J 6 C,D.J 5 E,D.J 3 F,B q],aM.ro (ae c)] (aS.vals [ao false]):=
 h.b5
def VJ(A:af)(a b:Int)(C E F G:af)(q r:Bool)(H:af)(c d:Int)(al K L M:af)(s:Bool)(e:Int)(N P Q R S bl V X:af)(f g i j k:Int)(Y Z:af)(t u:Bool)(l:List O):List O:=Bl A a b C E F G q r H c d al K L M s e N P Q R S bl V X (.b ((N.length:Int)==0) false::.p ((0:Int)<=0)::.p (0<(N.length:Int))::.e N 0 (bi f g i j k)::.r 176 [.agg (bD A a b),a7 4 R,.agg (bi f g i j k)] [a7 4 Y,a7 5 Z,ao t]::.p ((0:Int)<=(some (1:Int)).getD 0)::.p ((some (1:Int)).getD 0<=none.getD (N.length:Int))::.p (none.getD (N.length:Int)<=(N.length:Int))::.g ([]:af) (List.take (N.length-1) (List.drop 1 N)) 40::.h (List.take (N.length-1) (List.drop 1 N))::.r 177 [.agg (bD A a b),.agg (bi f g i j k)] [ao u]::l)
theorem ahN(h:ad (VJ M c d E N Q R q r S j k bl Y Z dL t a A F G H al K C L e b f g i V X u s [.b s true,.x C b [B v],.e E a.toNat (ba A F G H al K C L),.p (a.toNat=a.toNat),.p (a.toNat=a.toNat),.p (a.toNat=a.toNat),.p (a.toNat=a.toNat),.x (E.set a.toNat (ba A F G H al K (C.set b.toNat [B true]) L)) a (ba A F G H al K (C.set b.toNat [B true]) L),.p (a.toNat=a.toNat),.p (a.toNat=a.toNat),.p (a.toNat=a.toNat),.p (a.toNat=a.toNat),.p (a.toNat=a.toNat)])):
 b3 170 [aM.ref [D.J 4 S,I j,I k,D.J 8 bl,D.J 6 Y,D.J 5 Z,D.J 3 dL,B t] [D.J 4 M,I c,I d,D.J 8 ((E.set a.toNat (ba A F G H al K (C.set b.toNat [B true]) L)).set a.toNat (ba ([]++List.take (A.length-1) (List.drop 1 A)) X G V al K (C.set b.toNat [B true]) L)),D.J 6 N,D.J 5 Q,D.J 3 R,B q],aM.ro (ae a)] (aS.vals [ao true]):=
 h.b5
theorem ahO(h:ad (VJ E b c C F G H q r S j k bl Y Z dL t a A al K L M N Q R d e f g i V X u s [.b s false,.x C a (ba A al K L M N Q R),.p (a.toNat=a.toNat),.p (a.toNat=a.toNat),.p (a.toNat=a.toNat),.p (a.toNat=a.toNat),.p (a.toNat=a.toNat)])):
 b3 170 [aM.ref [D.J 4 S,I j,I k,D.J 8 bl,D.J 6 Y,D.J 5 Z,D.J 3 dL,B t] [D.J 4 E,I b,I c,D.J 8 (C.set a.toNat (ba ([]++List.take (A.length-1) (List.drop 1 A)) X K V M N Q R)),D.J 6 F,D.J 5 G,D.J 3 H,B q],aM.ro (ae a)] (aS.vals [ao true]):=
 h.b5
theorem ahP(h:ad [.b (e==1) true,.a (.dj [some [D.J 4 A,I a,I b,D.J 8 C,D.J 6 E,D.J 5 F,D.J 3 G,B q],none] (aS.vals [ao r])),.p (bT prog 170 [aM.ref [D.J 4 H,I c,I d,D.J 8 al,D.J 6 K,D.J 5 L,D.J 3 M,B s] [D.J 4 A,I a,I b,D.J 8 C,D.J 6 E,D.J 5 F,D.J 3 G,B q],aM.ro (ae f)] (aS.vals [ao r]))]):
 b3 128 [aM.ref [D.J 4 H,I c,I d,D.J 8 al,D.J 6 K,D.J 5 L,D.J 3 M,B s] [D.J 4 A,I a,I b,D.J 8 C,D.J 6 E,D.J 5 F,D.J 3 G,B q],aM.ro (.agg [I e,I f,I g])] (aS.vals [ao r]):=
 h.b5
theorem ahQ(h:ad [.b (c==1) false,.b (c==2) true,.a (.dj [some [D.J 4 A,I a,I b,D.J 8 C,D.J 6 E,D.J 5 F,D.J 3 G,B q],none] (aS.vals [ao r])),.p (bT prog 171 [aM.ref [D.J 4 H,I d,I e,D.J 8 al,D.J 6 K,D.J 5 L,D.J 3 M,B s] [D.J 4 A,I a,I b,D.J 8 C,D.J 6 E,D.J 5 F,D.J 3 G,B q],aM.ro (ae f)] (aS.vals [ao r]))]):
 b3 128 [aM.ref [D.J 4 H,I d,I e,D.J 8 al,D.J 6 K,D.J 5 L,D.J 3 M,B s] [D.J 4 A,I a,I b,D.J 8 C,D.J 6 E,D.J 5 F,D.J 3 G,B q],aM.ro (.agg [I c,I f,I g])] (aS.vals [ao r]):=
 h.b5
def VK(a:Int)(l:List O):List O:=.b (a==1) false::.b (a==2) false::l
theorem ag1(h:ad (VK a [.b (a==3) true,.a (.dj [some [D.J 4 A,I b,I c,D.J 8 C,D.J 6 E,D.J 5 F,D.J 3 G,B q],none] (aS.vals [ao r])),.p (bT prog 151 [aM.ref [D.J 4 H,I d,I e,D.J 8 al,D.J 6 K,D.J 5 L,D.J 3 M,B s] [D.J 4 A,I b,I c,D.J 8 C,D.J 6 E,D.J 5 F,D.J 3 G,B q],aM.ro (ae f)] (aS.vals [ao r]))])):
 b3 128 [aM.ref [D.J 4 H,I d,I e,D.J 8 al,D.J 6 K,D.J 5 L,D.J 3 M,B s] [D.J 4 A,I b,I c,D.J 8 C,D.J 6 E,D.J 5 F,D.J 3 G,B q],aM.ro (.agg [I a,I f,I g])] (aS.vals [ao r]):=
 h.b5
def Mk(a:Int)(l:List O):List O:=VK a (.b (a==3) false::l)
theorem ag2(h:ad (Mk a [.b (a==4) true,.a (.dj [some [D.J 4 A,I b,I c,D.J 8 C,D.J 6 E,D.J 5 F,D.J 3 G,B q],none,none] (aS.vals [ao r])),.p (bT prog 156 [aM.ref [D.J 4 H,I d,I f,D.J 8 al,D.J 6 K,D.J 5 L,D.J 3 M,B s] [D.J 4 A,I b,I c,D.J 8 C,D.J 6 E,D.J 5 F,D.J 3 G,B q],aM.ro (ae g),aM.ro (ae e)] (aS.vals [ao r]))])):
 b3 128 [aM.ref [D.J 4 H,I d,I f,D.J 8 al,D.J 6 K,D.J 5 L,D.J 3 M,B s] [D.J 4 A,I b,I c,D.J 8 C,D.J 6 E,D.J 5 F,D.J 3 G,B q],aM.ro (.agg [I a,I g,I e])] (aS.vals [ao r]):=
 h.b5
theorem ag3(h:ad (Mk a [.b (a==4) false,.b (a==5) true,.a (.dj [some [D.J 4 A,I b,I c,D.J 8 C,D.J 6 E,D.J 5 F,D.J 3 G,B q],none,none] (aS.vals [ao r])),.p (bT prog 158 [aM.ref [D.J 4 H,I d,I f,D.J 8 al,D.J 6 K,D.J 5 L,D.J 3 M,B s] [D.J 4 A,I b,I c,D.J 8 C,D.J 6 E,D.J 5 F,D.J 3 G,B q],aM.ro (ae g),aM.ro (ae e)] (aS.vals [ao r]))])):
 b3 128 [aM.ref [D.J 4 H,I d,I f,D.J 8 al,D.J 6 K,D.J 5 L,D.J 3 M,B s] [D.J 4 A,I b,I c,D.J 8 C,D.J 6 E,D.J 5 F,D.J 3 G,B q],aM.ro (.agg [I a,I g,I e])] (aS.vals [ao r]):=
 h.b5
def Ml(a:Int)(l:List O):List O:=Mk a (.b (a==4) false::.b (a==5) false::l)
theorem ag4(h:ad (Ml a [.b (a==6) true,.a (.dj [some [D.J 4 A,I b,I c,D.J 8 C,D.J 6 E,D.J 5 F,D.J 3 G,B q],none] (aS.vals [ao r])),.p (bT prog 246 [aM.ref [D.J 4 H,I d,I e,D.J 8 al,D.J 6 K,D.J 5 L,D.J 3 M,B s] [D.J 4 A,I b,I c,D.J 8 C,D.J 6 E,D.J 5 F,D.J 3 G,B q],aM.ro (ae f)] (aS.vals [ao r]))])):
 b3 128 [aM.ref [D.J 4 H,I d,I e,D.J 8 al,D.J 6 K,D.J 5 L,D.J 3 M,B s] [D.J 4 A,I b,I c,D.J 8 C,D.J 6 E,D.J 5 F,D.J 3 G,B q],aM.ro (.agg [I a,I f,I g])] (aS.vals [ao r]):=
 h.b5
theorem ag5(h:ad (Ml a [.b (a==6) false,.b (a==7) true,.a (.dj [some [D.J 4 A,I b,I c,D.J 8 C,D.J 6 E,D.J 5 F,D.J 3 G,B q],none] (aS.vals [ao r])),.p (bT prog 247 [aM.ref [D.J 4 H,I d,I e,D.J 8 al,D.J 6 K,D.J 5 L,D.J 3 M,B s] [D.J 4 A,I b,I c,D.J 8 C,D.J 6 E,D.J 5 F,D.J 3 G,B q],aM.ro (ae f)] (aS.vals [ao r]))])):
 b3 128 [aM.ref [D.J 4 H,I d,I e,D.J 8 al,D.J 6 K,D.J 5 L,D.J 3 M,B s] [D.J 4 A,I b,I c,D.J 8 C,D.J 6 E,D.J 5 F,D.J 3 G,B q],aM.ro (.agg [I a,I f,I g])] (aS.vals [ao r]):=
 h.b5
theorem ag6(h:ad (Ml a [.b (a==6) false,.b (a==7) false])):
 b3 128 [aM.ref [D.J 4 A,I b,I c,D.J 8 C,D.J 6 E,D.J 5 F,D.J 3 G,B q] [D.J 4 A,I b,I c,D.J 8 C,D.J 6 E,D.J 5 F,D.J 3 G,B q],aM.ro (.agg [I a,I e,I d])] (aS.vals [ao false]):=
 h.b5
def vy(A:af)(a b:Int)(C:af)(c d:Int)(E F G H:af)(q:Bool):aH:=bj 22 [(0,aR 1000000000),(1,.aJ (.one (.dg 1000000200 3 A))),(5,aZ b),(6,aZ a)] [(1000000000,[aG 950001000 4 C,aw c,aw d,aG 950001003 8 E,aG 950001004 6 F,aG 950001005 5 G,aG 950001006 3 H,.bc q])]
theorem ag7(h:ad (Mr H a g i j A c d C E F G q r al e f K L M N s [.b r true,.u b,.u a])):
 a1 (ar f131 0) (vy H a b al e f K L M N s) .normal (vy H (a+1) (b+1) A c d C E F G q):=
 h.pO [(1000000001000000,950001000,4),(1000000001000003,950001003,8),(1000000001000004,950001004,6),(1000000001000005,950001005,5),(1000000001000006,950001006,3)] [6,1,0,5] [1000000000]
theorem ag8(h:ad (Mr H a g i j A b c C E F G q r al e f K L M N s [.b r false,.u a])):
 a1 (ar f131 0) (vy H a d al e f K L M N s) .normal (vy H (a+1) d A b c C E F G q):=
 h.pO [(1000000001000000,950001000,4),(1000000001000003,950001003,8),(1000000001000004,950001004,6),(1000000001000005,950001005,5),(1000000001000006,950001006,3)] [6,1,0,5] [1000000000]
def SR(a:Int)(A:af)(b c:Int)(C E F G:af)(q:Bool):aH:=bj 22 [(0,aR 1000000000),(5,aZ a)] [(1000000000,[aG 950001000 4 A,aw b,aw c,aG 950001003 8 C,aG 950001004 6 E,aG 950001005 5 F,aG 950001006 3 G,.bc q])]
theorem ag9(h:ad [.f H d false]):
 a1 (ar f131 0) (vy H d a A b c C E F G q) (.exit 0) (SR a A b c C E F G q):=
 h.aW [5,0] [1000000000]
theorem aha(h:ad [.l [(1000000001000000,950001000,4),(1000000001000003,950001003,8),(1000000001000004,950001004,6),(1000000001000005,950001005,5),(1000000001000006,950001006,3)] [6,1,0,5] [1000000000] (ar f131 0) (vy N 0 0 A a d al K L M r) (.exit 0) (SR e C b c E F G H q)]):
 b3 131 [aM.ref [D.J 4 A,I a,I d,D.J 8 al,D.J 6 K,D.J 5 L,D.J 3 M,B r] [D.J 4 C,I b,I c,D.J 8 E,D.J 6 F,D.J 5 G,D.J 3 H,B q],aM.ro (a7 3 N)] (aS.vals [ae e]):=
 h.b5
