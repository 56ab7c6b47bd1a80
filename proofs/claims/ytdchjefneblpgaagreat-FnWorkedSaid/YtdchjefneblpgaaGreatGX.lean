import Derived.Test.YtdchjefneblpgaaGreatGE
set_option linter.unusedVariables false
set_option linter.unusedSimpArgs false
namespace Go.Proofs.YtdchjefneblpgaaGreat
open Go.Sx Go.RowKit Go.Proofs.Tryz
variable {a b c d e f g i j k l m n o p a0 cc dk d0 bB f0 i0 j0 dq : Int} {A C E F G H aj K L M N Q R S bi V X Y Z eg hR iF iG iH iI jM se sf tN tO tP sg sh : ae} {q r s t u v : Bool}
def pO(a:Int)(A:ae)(b c d e f:Int)(C:ae)(g i j k:Int)(q:Bool)(l:List O):List O:=.r 279 [.agg (cd a A b c d e)] [.agg (cd f C g i j k)]::.r 191 [.agg (cd f C g i j k)] [ag q]::l
theorem afU(h:ad (pO f C g i j k c A d e a b q [.n q true])):
 ar 261 [.agg (cd f C g i j k)] [.agg (cd c A d e a b),ag false]:=
 h.of
theorem afl(h:ad (pO f C g i j k d A e a b c q [.n q false,.b (a==0) true])):
 ar 261 [.agg (cd f C g i j k)] [.agg (cd d A e a b c),ag false]:=
 h.of
theorem afm(h:ad (pO f C g i j k e A b a c d q [.n q false,.b (a==0) false,.v (a-1),.u b])):
 ar 261 [.agg (cd f C g i j k)] [.agg (cd e A (b+1) (a-1) c d),ag true]:=
 h.of
def tq(A:ae)(a d:Int)(C:ae)(e f:Int)(E F G H:ae)(q:Bool)(b c:Int):aD:=bd 34 [(1,aW a),(4,aQ 4),(6,aQ 10),(7,aE.aF (bm.one (aA 130000 3 A))),(8,aW d)] [(10,[aA 900011000 4 C,au e,au f,aA 900011003 8 E,aA 900011004 6 F,aA 900011005 5 G,aA 900011006 3 H,.a' q]),(4,[.v (aO),au b,au c,.v (aO),.v (aO),.v (aO),.v (aO)])]
def Kd(a:Int)(A:ae)(b c:Int)(C E F G:ae):aD:=bd 34 [(4,aQ 4),(5,aW a)] [(4,[aA 235000 4 A,au b,au c,aA 235003 8 C,aA 235004 6 E,aA 235005 5 F,aA 235006 3 G])]
def Vh(a b:Int)(A:ae)(c d:Int)(C E F G:ae)(q:Bool)(e:Int)(H:ae)(f g:Int)(aj K L M:ae)(r:Bool)(N:ae)(l:List O):List O:=.b (decide (a<=b)) true::.a (.dg [some [D.J 4 A,I c,I d,D.J 8 C,D.J 6 E,D.J 5 F,D.J 3 G,B q],none] (aT.vals [af e]))::.p (bT prog 131 [aL.ref [D.J 4 H,I f,I g,D.J 8 aj,D.J 6 K,D.J 5 L,D.J 3 M,B r] [D.J 4 A,I c,I d,D.J 8 C,D.J 6 E,D.J 5 F,D.J 3 G,B q],aL.ro (aP 3 N)] (aT.vals [af e]))::l
theorem afn(h:ad (Vh a e A b c C E F G r d aj f g K L M N q H [.b (d==0) true])):
 aX (ao f16 0) (tq H e a aj f g K L M N q i j) .ret (Kd a A b c C E F G):=
 h.aV [4,5] [4]
theorem S7(h:ad (Vh a b C c d E F G H q e aj f g K L M N r A [.b (e==0) false,.u a])):
 aX (ao f16 0) (tq A b a aj f g K L M N r i j) .normal (tq A b (a+1) C c d E F G H q i j):=
 h.pd [(11000000,900011000,4),(11000003,900011003,8),(11000004,900011004,6),(11000005,900011005,5),(11000006,900011006,3)] [8,1,6,7,4] [10,4]
def Ke(a:Int)(A:ae)(c d:Int)(C E F G:ae)(q:Bool)(e b:Int):aD:=bd 34 [(1,aW a),(4,aQ 4),(6,aQ 10)] [(10,[aA 900011000 4 A,au c,au d,aA 900011003 8 C,aA 900011004 6 E,aA 900011005 5 F,aA 900011006 3 G,.a' q]),(4,[.v (aO),au e,au b,.v (aO),.v (aO),.v (aO),.v (aO)])]
theorem afo(h:ad [.b (decide (b<=a)) false]):
 aX (ao f16 0) (tq H a b A c d C E F G q e f) (.exit 0) (Ke a A c d C E F G q e f):=
 h.aV [6,1,4] [10,4]
def Ma(A:ae)(a b:Int)(C E F G:ae)(q:Bool)(H:ae)(c d:Int)(aj K L M:ae)(l:List O):List O:=.a (.dg [none] (aT.new [D.J 4 A,I a,I b,D.J 8 C,D.J 6 E,D.J 5 F,D.J 3 G,B q]))::.p (bT prog 127 [aL.ro (.agg (cl H c d aj K L M))] (aT.new [D.J 4 A,I a,I b,D.J 8 C,D.J 6 E,D.J 5 F,D.J 3 G,B q]))::l
theorem afp(h:ad (Ma M d b C E F G q A a c H aj K L [.r 129 [.agg (cl A a c H aj K L)] [aP 3 N],.r 130 [af j,af 0,af 3000] [af e],.l [(11000000,900011000,4),(11000003,900011003,8),(11000004,900011004,6),(11000005,900011005,5),(11000006,900011006,3)] [8,1,6,7,4] [10,4] (ao f16 0) (tq N e 1 M d b C E F G q 0 0) .ret (Kd f Q g i R S bi V)])):
 ar 16 [.agg (cl A a c H aj K L),af j] [.agg (cl Q g i R S bi V),af f]:=
 h.of
theorem afq(h:ad (Ma M e c C E F G q A b d H aj K L [.r 129 [.agg (cl A b d H aj K L)] [aP 3 N],.r 130 [af i,af 0,af 3000] [af a],.l [(11000000,900011000,4),(11000003,900011003,8),(11000004,900011004,6),(11000005,900011005,5),(11000006,900011006,3)] [8,1,6,7,4] [10,4] (ao f16 0) (tq N a 1 M e c C E F G q 0 0) (.exit 0) (Ke a Q f g R S bi V r j k)])):
 ar 16 [.agg (cl A b d H aj K L),af i] [.agg (cl Q f g R S bi V),af a]:=
 h.of
def Vi(a b:Int)(q:Bool)(l:List O):List O:=.a .wr::.r 168 [af a,af 0,af (IntKind.i64.wrap (b-1))] [ag q]::l
theorem S8(h:ad (Vi b a q [.n q true])):
 ar 61 [.agg (bk A a c),af b,af d] [af (-1)]:=
 h.of
def L2(a b:Int)(q:Bool)(c:Int)(r:Bool)(l:List O):List O:=Vi a b q (.n q false::.a .wr::.r 168 [af c,af 0,af (IntKind.i64.wrap (b-1))] [ag r]::l)
theorem S9(h:ad (L2 b a q c r [.n r true])):
 ar 61 [.agg (bk A a d),af b,af c] [af (-1)]:=
 h.of
theorem afr(h:ad (L2 b a q c r [.n r false,.b (decide (a<1)) true])):
 ar 61 [.agg (bk A a d),af b,af c] [af (-1)]:=
 h.of
theorem S'(h:ad (L2 b a q c r [.n r false,.b (decide (a<1)) false,.a .wr,.a .wr])):
 ar 61 [.agg (bk A a d),af b,af c] [af (IntKind.i64.wrap (IntKind.i64.wrap (b*a)+c))]:=
 h.of
def wN(A:ae)(a:Int)(C E:ae)(d e:Int)(F G H aj:ae)(q:Bool)(b c:Int):aD:=bd 32 [(1,dj 3 A),(4,aQ 4),(6,aQ 10),(7,aE.aF (bm.one (aA 11 1 C))),(8,aW a)] [(10,[aA 900011000 4 E,au d,au e,aA 900011003 8 F,aA 900011004 6 G,aA 900011005 5 H,aA 900011006 3 aj,.a' q]),(4,[.v (aO),au b,au c,.v (aO),.v (aO),.v (aO),.v (aO)])]
def L3(A:ae)(a b c d:Int)(C:ae)(e f:Int)(E F G H:ae)(q r:Bool)(aj:ae)(g i:Int)(K L M N:ae)(s:Bool)(l:List O):List O:=.i A a [I b,I c,I d]::.a (.dg [some [D.J 4 C,I e,I f,D.J 8 E,D.J 6 F,D.J 5 G,D.J 3 H,B q],none] (aT.vals [ag r]))::.p (bT prog 128 [aL.ref [D.J 4 aj,I g,I i,D.J 8 K,D.J 6 L,D.J 5 M,D.J 3 N,B s] [D.J 4 C,I e,I f,D.J 8 E,D.J 6 F,D.J 5 G,D.J 3 H,B q],aL.ro (.agg [I b,I c,I d])] (aT.vals [ag r]))::l
theorem afs(h:ad (L3 aj a i j k C b c E F G H r q K d e L M N Q s [.g A [[B q]] 1,.h [[B q]],.u a])):
 aX (ao f15 0) (wN aj a A K d e L M N Q s f g) .normal (wN aj (a+1) (A++[[B q]]) C b c E F G H r f g):=
 h.pd [(11000000,900011000,4),(11000003,900011003,8),(11000004,900011004,6),(11000005,900011005,5),(11000006,900011006,3)] [8,1,7,6,4] [10,4]
def Kf(A C:ae)(b c:Int)(E F G H:ae)(q:Bool)(d a:Int):aD:=bd 32 [(4,aQ 4),(6,aQ 10),(7,aE.aF (bm.one (aA 11 1 A)))] [(10,[aA 900011000 4 C,au b,au c,aA 900011003 8 E,aA 900011004 6 F,aA 900011005 5 G,aA 900011006 3 H,.a' q]),(4,[.v (aO),au d,au a,.v (aO),.v (aO),.v (aO),.v (aO)])]
theorem aft(h:ad [.f aj a false]):
 aX (ao f15 0) (wN aj a A C b c E F G H q d e) (.exit 0) (Kf A C b c E F G H q d e):=
 h.aV [6,7,4] [10,4]
theorem afu(h:ad (Ma G b a A C E F q H c f R S bi V [.l [(11000000,900011000,4),(11000003,900011003,8),(11000004,900011004,6),(11000005,900011005,5),(11000006,900011006,3)] [8,1,7,6,4] [10,4] (ao f15 0) (wN X 0 [] G b a A C E F q 0 0) (.exit 0) (Kf aj K d e L M N Q r g i)])):
 ar 15 [.agg (cl H c f R S bi V),aP 3 X] [.agg (cl K d e L M N Q),aP 1 aj]:=
 h.of
theorem agW(h:ad (pO f C g i j k a A b c d e q [.n q true])):
 ar 258 [.agg (cd f C g i j k),.agg (bj m n o p l)] [.agg (cd a A b c d e),ag false]:=
 h.of
theorem agX(h:ad (pO f C i j k l a A b c d e q [.n q false,.r 122 [.agg (bj m n o p g)] [ag r],.n r true])):
 ar 258 [.agg (cd f C i j k l),.agg (bj m n o p g)] [.agg (cd a A b c d e),ag false]:=
 h.of
theorem agY(h:ad (pO f C i j k l b A a c d e q [.n q false,.r 122 [.agg (bj m n o p g)] [ag r],.n r false,.b (a==0) true])):
 ar 258 [.agg (cd f C i j k l),.agg (bj m n o p g)] [.agg (cd b A a c d e),ag false]:=
 h.of
theorem agZ(h:ad (pO f C i j k l c A a d b e q [.n q false,.r 122 [.agg (bj m n o p g)] [ag r],.n r false,.b (a==0) false,.b (decide (b>=1000000000)) true])):
 ar 258 [.agg (cd f C i j k l),.agg (bj m n o p g)] [.agg (cd c A a d b e),ag false]:=
 h.of
theorem ag0(h:ad (pO l C m n o p i A b j c k q [.n q false,.r 122 [.agg (bj d e f g a)] [ag r],.n r false,.b (b==0) false,.b (decide (c>=1000000000)) false,.g A [(bj d e f g a)] 40,.h [(bj d e f g a)],.v (b-1),.u c])):
 ar 258 [.agg (cd l C m n o p),.agg (bj d e f g a)] [.agg (cd i (A++[(bj d e f g a)]) (b-1) j (c+1) k),ag true]:=
 h.of
theorem ag1(h:ad (pO f C g i j k c A d e a b q [.n q true])):
 ar 260 [.agg (cd f C g i j k)] [.agg (cd c A d e a b),.agg (bj 0 0 0 0 0),ag false]:=
 h.of
theorem ag2(h:ad (pO f C g i j k c A d e a b q [.n q false,.b ((A.length:Int)==0) true])):
 ar 260 [.agg (cd f C g i j k)] [.agg (cd c A d e a b),.agg (bj 0 0 0 0 0),ag false]:=
 h.of
theorem ag3(h:ad (pO f C m n o p d A e b c a q [.n q false,.b ((A.length:Int)==0) false,.p ((0:Int)<=0),.p (0<(A.length:Int)),.e A 0 (bj g i j k l),.p ((0:Int)<=(some (1:Int)).getD 0),.p ((some (1:Int)).getD 0<=none.getD (A.length:Int)),.p (none.getD (A.length:Int)<=(A.length:Int)),.g ([]:ae) (List.take (A.length-1) (List.drop 1 A)) 40,.h (List.take (A.length-1) (List.drop 1 A)),.u a,.u b])):
 ar 260 [.agg (cd f C m n o p)] [.agg (cd d ([]++List.take (A.length-1) (List.drop 1 A)) e (b+1) c (a+1)),.agg (bj g i j k l),ag true]:=
 h.of
def AN(A:ae)(a b c d e:Int)(l:List O):List O:=.r 61 [.agg (bk A a b),af c,af d] [af e]::l
theorem ag4(h:ad (AN A a b c d e [.n q true])):
 bY 158 [aL.ref [D.J 4 A,I a,I b,D.J 8 C,D.J 6 E,D.J 5 F,D.J 3 G,B q] [D.J 4 A,I a,I b,D.J 8 C,D.J 6 E,D.J 5 F,D.J 3 G,B q],aL.ro (af c),aL.ro (af d)] (aT.vals [ag false]):=
 h.b1
theorem ag5(h:ad (AN A a b d e c [.n q false,.b (decide (c<0)) true])):
 bY 158 [aL.ref [D.J 4 A,I a,I b,D.J 8 C,D.J 6 E,D.J 5 F,D.J 3 G,B q] [D.J 4 A,I a,I b,D.J 8 C,D.J 6 E,D.J 5 F,D.J 3 G,B q],aL.ro (af d),aL.ro (af e)] (aT.vals [ag false]):=
 h.b1
def AO(A:ae)(a b c d e:Int)(q:Bool)(l:List O):List O:=AN A a b c d e (.n q false::.b (decide (e<0)) false::l)
theorem ag6(h:ad (AO A a b c d e q [.b (c==d) true])):
 bY 158 [aL.ref [D.J 4 A,I a,I b,D.J 8 C,D.J 6 E,D.J 5 F,D.J 3 G,B q] [D.J 4 A,I a,I b,D.J 8 C,D.J 6 E,D.J 5 F,D.J 3 G,B q],aL.ro (af c),aL.ro (af d)] (aT.vals [ag false]):=
 h.b1
theorem ag7(h:ad (AO C b i j k a q [.b (j==k) false,.a .sub,.x A a (cd c E d e f g),.r 261 [.agg (cd c E d e f g)] [.agg (cd l F m n o p),ag r],.x A a (cd c E d e f g)])):
 bY 158 [aL.ref [D.J 4 C,I b,I i,D.J 8 G,D.J 6 A,D.J 5 H,D.J 3 aj,B q] [D.J 4 C,I b,I i,D.J 8 G,D.J 6 (A.set a.toNat (cd l F m n o p)),D.J 5 H,D.J 3 aj,B q],aL.ro (af j),aL.ro (af k)] (aT.vals [ag r]):=
 h.b1
def Ez(A:ae)(a b:Int)(C E F G:ae)(q r:Bool)(H:ae)(c d:Int)(aj K L M:ae)(s:Bool)(e:Int)(l:List O):List O:=.a (.dg [some [D.J 4 A,I a,I b,D.J 8 C,D.J 6 E,D.J 5 F,D.J 3 G,B q],none] (aT.vals [ag r]))::.p (bT prog 257 [aL.ref [D.J 4 H,I c,I d,D.J 8 aj,D.J 6 K,D.J 5 L,D.J 3 M,B s] [D.J 4 A,I a,I b,D.J 8 C,D.J 6 E,D.J 5 F,D.J 3 G,B q],aL.ro (af e)] (aT.vals [ag r]))::l
theorem Ta(h:ad (Ez G a b A C E F q r H c d aj K L M s e [.n r true])):
 bY 171 [aL.ref [D.J 4 H,I c,I d,D.J 8 aj,D.J 6 K,D.J 5 L,D.J 3 M,B s] [D.J 4 G,I a,I b,D.J 8 A,D.J 6 C,D.J 5 E,D.J 3 F,B q],aL.ro (af e)] (aT.vals [ag false]):=
 h.b1
def AP(A:ae)(a b:Int)(C E F G:ae)(q r:Bool)(H:ae)(c d:Int)(aj K L M:ae)(s:Bool)(e:Int)(N P Q R S bi V X:ae)(l:List O):List O:=Ez A a b C E F G q r H c d aj K L M s e (.n r false::.a .sub::.x C e (ba N P Q R S bi V X)::l)
theorem ag8(h:ad (AP G a b A C E F q r H d e K L M N s c Q aj R S bi V X Y [.b (decide ((aj.length:Int)>0)) true])):
 bY 171 [aL.ref [D.J 4 H,I d,I e,D.J 8 K,D.J 6 L,D.J 5 M,D.J 3 N,B s] [D.J 4 G,I a,I b,D.J 8 A,D.J 6 C,D.J 5 E,D.J 3 F,B q],aL.ro (af c)] (aT.vals [ag false]):=
 h.b1
def AQ(A:ae)(a b:Int)(C E F G:ae)(q r:Bool)(H:ae)(c d:Int)(aj K L M:ae)(s:Bool)(e:Int)(N P Q R S bi V X:ae)(l:List O):List O:=AP A a b C E F G q r H c d aj K L M s e N P Q R S bi V X (.b (decide ((P.length:Int)>0)) false::l)
theorem ag9(h:ad (AQ G a b A C E F q r H d e L M N Q s c aj K R S bi V X Y [.b (decide ((aj.length:Int)>0)) true])):
 bY 171 [aL.ref [D.J 4 H,I d,I e,D.J 8 L,D.J 6 M,D.J 5 N,D.J 3 Q,B s] [D.J 4 G,I a,I b,D.J 8 A,D.J 6 C,D.J 5 E,D.J 3 F,B q],aL.ro (af c)] (aT.vals [ag false]):=
 h.b1
theorem aha(h:ad (AQ G a b A C E F q r H d e M N Q R s c aj K L S bi V X Y [.b (decide ((aj.length:Int)>0)) false,.b ((L.length:Int)==0) true])):
 bY 171 [aL.ref [D.J 4 H,I d,I e,D.J 8 M,D.J 6 N,D.J 5 Q,D.J 3 R,B s] [D.J 4 G,I a,I b,D.J 8 A,D.J 6 C,D.J 5 E,D.J 3 F,B q],aL.ro (af c)] (aT.vals [ag false]):=
 h.b1
theorem ahb(h:ad (AQ R b c C F G H q r S d e bi V X Y s a aj E A K L M N Q [.b (decide ((aj.length:Int)>0)) false,.b ((A.length:Int)==0) false,.p ((0:Int)<=0),.p (0<(A.length:Int)),.e A 0 (bj f g i j k),.p ((0:Int)<=(some (1:Int)).getD 0),.p ((some (1:Int)).getD 0<=none.getD (A.length:Int)),.p (none.getD (A.length:Int)<=(A.length:Int)),.g ([]:ae) (List.take (A.length-1) (List.drop 1 A)) 40,.h (List.take (A.length-1) (List.drop 1 A)),.x C a (ba aj E A K L M N Q),.p (a.toNat=a.toNat),.p (a.toNat=a.toNat),.p (a.toNat=a.toNat),.p (a.toNat=a.toNat),.p (a.toNat=a.toNat),.p (a.toNat=a.toNat)])):
 bY 171 [aL.ref [D.J 4 S,I d,I e,D.J 8 bi,D.J 6 V,D.J 5 X,D.J 3 Y,B s] [D.J 4 R,I b,I c,D.J 8 (C.set a.toNat [D.J 5 [(bj f g i j k)],D.J 5 E,D.J 5 ([]++List.take (A.length-1) (List.drop 1 A)),D.J 4 K,D.J 1 L,D.J 1 M,D.J 1 N,D.J 2 Q]),D.J 6 F,D.J 5 G,D.J 3 H,B q],aL.ro (af a)] (aT.vals [ag true]):=
 h.b1
theorem Tb(h:ad [.b q true,.v ((A.length:Int)-1),.r 168 [af c,af 0,af ((A.length:Int)-1)] [ag r]]):
 bY 257 [aL.ref [D.J 4 C,I a,I b,D.J 8 A,D.J 6 E,D.J 5 F,D.J 3 G,B q] [D.J 4 C,I a,I b,D.J 8 A,D.J 6 E,D.J 5 F,D.J 3 G,B q],aL.ro (af c)] (aT.vals [ag r]):=
 h.b1
theorem ahc(h:ad [.b q false]):
 bY 257 [aL.ref [D.J 4 A,I a,I b,D.J 8 C,D.J 6 E,D.J 5 F,D.J 3 G,B q] [D.J 4 A,I a,I b,D.J 8 C,D.J 6 E,D.J 5 F,D.J 3 G,B q],aL.ro (af c)] (aT.vals [ag false]):=
 h.b1
theorem Tc(h:ad (Ez G a b A C E F q r H c d aj K L M s e [.n r true])):
 bY 151 [aL.ref [D.J 4 H,I c,I d,D.J 8 aj,D.J 6 K,D.J 5 L,D.J 3 M,B s] [D.J 4 G,I a,I b,D.J 8 A,D.J 6 C,D.J 5 E,D.J 3 F,B q],aL.ro (af e)] (aT.vals [ag false]):=
 h.b1
theorem ahd(h:ad (AP G a b A C E F q r H d e K L M N s c Q aj R S bi V X Y [.b ((aj.length:Int)==0) true])):
 bY 151 [aL.ref [D.J 4 H,I d,I e,D.J 8 K,D.J 6 L,D.J 5 M,D.J 3 N,B s] [D.J 4 G,I a,I b,D.J 8 A,D.J 6 C,D.J 5 E,D.J 3 F,B q],aL.ro (af c)] (aT.vals [ag false]):=
 h.b1
def L4(A:ae)(a b:Int)(C E F G:ae)(q r:Bool)(H:ae)(c d:Int)(aj K L M:ae)(s:Bool)(e:Int)(N P Q R S bi V X:ae)(f g i j k m:Int)(l:List O):List O:=AP A a b C E F G q r H c d aj K L M s e N P Q R S bi V X (.b ((P.length:Int)==0) false::.a .sub::.x C e (ba N P Q R S bi V X)::.p ((0:Int)<=0)::.p (0<(P.length:Int))::.e P 0 (bj f g i j k)::.r 245 [af j,af a] [af m]::l)
theorem ahe(h:ad (L4 F b c A E G H q r aj f g bi X Y Z t a K C L M N Q R S i j k d l e [.b (e != a) true,.r 61 [.agg (bk F b c),af a,af e] [af m],.a .sub,.x E m (cd n V o p a0 cc),.r 258 [.agg (cd n V o p a0 cc),.agg (bj i j k d l)] [.agg (cd dk eg d0 bB f0 i0),ag s],.n s true])):
 bY 151 [aL.ref [D.J 4 aj,I f,I g,D.J 8 bi,D.J 6 X,D.J 5 Y,D.J 3 Z,B t] [D.J 4 F,I b,I c,D.J 8 A,D.J 6 E,D.J 5 G,D.J 3 H,B q],aL.ro (af a)] (aT.vals [ag false]):=
 h.b1
theorem ahf(h:ad (L4 H b c C E aj K q r hR p a0 tN tO sg sh u a iF F iG iH iI jM se sf cc e dk f d0 g [.b (g != a) true,.r 61 [.agg (bk H b c),af a,af g] [af d],.a .sub,.x E d (cd i L j k l m),.r 258 [.agg (cd i L j k l m),.agg (bj cc e dk f d0)] [.agg (cd bB tP f0 i0 j0 dq),ag t],.n t false,.x E d (cd i L j k l m),.a (.dg [some [D.J 4 M,I n,I o,D.J 8 G,D.J 6 N,D.J 5 Q,D.J 3 R,B s],none,none,none] (aT.vals [])),.a .sub,.p (bT prog 259 [aL.ref [D.J 4 H,I b,I c,D.J 8 C,D.J 6 (E.set d.toNat (cd bB tP f0 i0 j0 dq)),D.J 5 aj,D.J 3 K,B q] [D.J 4 M,I n,I o,D.J 8 G,D.J 6 N,D.J 5 Q,D.J 3 R,B s],aL.ro (af a),aL.ro (af e),aL.ro (af 1)] (aT.vals [])),.x G a (ba S A bi V X Y Z eg),.p ((0:Int)<=(some (1:Int)).getD 0),.p ((some (1:Int)).getD 0<=none.getD (A.length:Int)),.p (none.getD (A.length:Int)<=(A.length:Int)),.g ([]:ae) (List.take (A.length-1) (List.drop 1 A)) 40,.h (List.take (A.length-1) (List.drop 1 A)),.x G a (ba S A bi V X Y Z eg)])):
 bY 151 [aL.ref [D.J 4 hR,I p,I a0,D.J 8 tN,D.J 6 tO,D.J 5 sg,D.J 3 sh,B u] [D.J 4 M,I n,I o,D.J 8 (G.set a.toNat (ba S ([]++List.take (A.length-1) (List.drop 1 A)) bi V X Y Z eg)),D.J 6 N,D.J 5 Q,D.J 3 R,B s],aL.ro (af a)] (aT.vals [ag true]):=
 h.b1
theorem ahg(h:ad (L4 hR g i A N Q R q r iF j k iG iH iI jM s a C E F G H aj K L c d e b f l [.b (l != a) false,.a .sub,.x A a (ba C E F G H aj K L),.g C [(bj c d e b f)] 40,.e A a.toNat (ba C E F G H aj K L),.p ((ba C E F G H aj K L)[0]?=some (D.J 5 C)),.h [(bj c d e b f)],.p (A=A),.p (A=A),.p (A=A),.p (A=A),.p (A=A),.p (A=A),.p (A=A),.p (A=A),.p (A=A),.p (A=A),.p (A=A),.p (a.toNat=a.toNat),.p (C=C),.x A a (ba C E F G H aj K L),.a .sub,.p (a.toNat=a.toNat),.p (0<=a),.p (a<(↑(A.set a.toNat (ba (C++[(bj c d e b f)]) E F G H aj K L)).length:Int)),.e (A.set a.toNat (ba (C++[(bj c d e b f)]) E F G H aj K L)) a.toNat (ba S M bi V X Y Z eg),.p ((0:Int)<=(some (1:Int)).getD 0),.p ((some (1:Int)).getD 0<=none.getD (M.length:Int)),.p (none.getD (M.length:Int)<=(M.length:Int)),.g ([]:ae) (List.take (M.length-1) (List.drop 1 M)) 40,.h (List.take (M.length-1) (List.drop 1 M)),.p (0<=a),.p (a<(↑(A.set a.toNat (ba (C++[(bj c d e b f)]) E F G H aj K L)).length:Int)),.e (A.set a.toNat (ba (C++[(bj c d e b f)]) E F G H aj K L)) a.toNat (ba S M bi V X Y Z eg)])):
 bY 151 [aL.ref [D.J 4 iF,I j,I k,D.J 8 iG,D.J 6 iH,D.J 5 iI,D.J 3 jM,B s] [D.J 4 hR,I g,I i,D.J 8 ((A.set a.toNat (ba (C++[(bj c d e b f)]) E F G H aj K L)).set a.toNat (ba S ([]++List.take (M.length-1) (List.drop 1 M)) bi V X Y Z eg)),D.J 6 N,D.J 5 Q,D.J 3 R,B q],aL.ro (af a)] (aT.vals [ag true]):=
 h.b1
theorem ahh(h:ad [.a .sub,.x L a (ba C E F G A H aj K),.a .sub,.x L a (ba C E F G A H aj K),.x A b [I d],.v (d+c),.x A b [I i],.e L a.toNat (ba C E F G A H aj K),.p (a.toNat=a.toNat),.p (a.toNat=a.toNat),.p (a.toNat=a.toNat),.p (a.toNat=a.toNat),.b r true,.a .sub,.p (0<=a),.p (a<(↑(L.set a.toNat (ba C E F G (A.set b.toNat [I (d+c)]) H aj K)).length:Int)),.e (L.set a.toNat (ba C E F G (A.set b.toNat [I (d+c)]) H aj K)) a.toNat (ba C E F G (A.set b.toNat [I (d+c)]) H aj K),.x (A.set b.toNat [I (d+c)]) b [I g],.r 168 [af g,af (-1000000),af 1000000] [ag q]]):
 bY 259 [aL.ref [D.J 4 M,I e,I f,D.J 8 L,D.J 6 N,D.J 5 Q,D.J 3 R,B r] [D.J 4 M,I e,I f,D.J 8 (L.set a.toNat (ba C E F G (A.set b.toNat [I (d+c)]) H aj K)),D.J 6 N,D.J 5 Q,D.J 3 R,B q],aL.ro (af a),aL.ro (af b),aL.ro (af c)] (aT.vals []):=
 h.b1
theorem ahi(h:ad (AN A a b c d e [.n q true])):
 bY 156 [aL.ref [D.J 4 A,I a,I b,D.J 8 C,D.J 6 E,D.J 5 F,D.J 3 G,B q] [D.J 4 A,I a,I b,D.J 8 C,D.J 6 E,D.J 5 F,D.J 3 G,B q],aL.ro (af c),aL.ro (af d)] (aT.vals [ag false]):=
 h.b1
theorem ahj(h:ad (AN A a b d e c [.n q false,.b (decide (c<0)) true])):
 bY 156 [aL.ref [D.J 4 A,I a,I b,D.J 8 C,D.J 6 E,D.J 5 F,D.J 3 G,B q] [D.J 4 A,I a,I b,D.J 8 C,D.J 6 E,D.J 5 F,D.J 3 G,B q],aL.ro (af d),aL.ro (af e)] (aT.vals [ag false]):=
 h.b1
theorem ahk(h:ad (AO A a b c d e q [.b (c==d) true])):
 bY 156 [aL.ref [D.J 4 A,I a,I b,D.J 8 C,D.J 6 E,D.J 5 F,D.J 3 G,B q] [D.J 4 A,I a,I b,D.J 8 C,D.J 6 E,D.J 5 F,D.J 3 G,B q],aL.ro (af c),aL.ro (af d)] (aT.vals [ag false]):=
 h.b1
theorem ahl(h:ad (AO A a c d e b q [.b (d==e) false,.a .sub,.x C b (cd f E g i j k),.r 260 [.agg (cd f E g i j k)] [.agg (cd l aj m n o p),.agg (bj a0 cc dk d0 bB),ag r],.n r true])):
 bY 156 [aL.ref [D.J 4 A,I a,I c,D.J 8 F,D.J 6 C,D.J 5 G,D.J 3 H,B q] [D.J 4 A,I a,I c,D.J 8 F,D.J 6 C,D.J 5 G,D.J 3 H,B q],aL.ro (af d),aL.ro (af e)] (aT.vals [ag false]):=
 h.b1
theorem agw(h:ad (AO Q i o cc a g r [.b (cc==a) false,.a .sub,.x M g (cd j R k l m n),.r 260 [.agg (cd j R k l m n)] [.agg (cd dk jM d0 bB f0 i0),.agg (bj c b d e f),ag s],.n s false,.x M g (cd j R k l m n),.a .sub,.x A a (ba C E F G H aj K L),.g C [(bj c b d e f)] 40,.e A a.toNat (ba C E F G H aj K L),.p ((ba C E F G H aj K L)[0]?=some (D.J 5 C)),.h [(bj c b d e f)],.p (A=A),.p (A=A),.p (A=A),.p (A=A),.p (A=A),.p (a.toNat=a.toNat),.p (C=C),.x A a (ba C E F G H aj K L),.a .sub,.p (a.toNat=a.toNat),.p (0<=a),.p (a<(↑(A.set a.toNat (ba (C++[(bj c b d e f)]) E F G H aj K L)).length:Int)),.e (A.set a.toNat (ba (C++[(bj c b d e f)]) E F G H aj K L)) a.toNat (ba S bi V X Y N Z eg),.x N b [B t],.e (A.set a.toNat (ba (C++[(bj c b d e f)]) E F G H aj K L)) a.toNat (ba S bi V X Y N Z eg),.a (.dg [some [D.J 4 hR,I p,I a0,D.J 8 iF,D.J 6 iG,D.J 5 iH,D.J 3 iI,B q],none,none,none] (aT.vals [])),.p (a.toNat=a.toNat),.p (a.toNat=a.toNat),.p (bT prog 259 [aL.ref [D.J 4 Q,I i,I o,D.J 8 ((A.set a.toNat (ba (C++[(bj c b d e f)]) E F G H aj K L)).set a.toNat (ba S bi V X Y (N.set b.toNat [B true]) Z eg)),D.J 6 (M.set g.toNat (cd dk jM d0 bB f0 i0)),D.J 5 se,D.J 3 sf,B r] [D.J 4 hR,I p,I a0,D.J 8 iF,D.J 6 iG,D.J 5 iH,D.J 3 iI,B q],aL.ro (af a),aL.ro (af b),aL.ro (af (-1))] (aT.vals []))])):
 bY 156 [aL.ref [D.J 4 Q,I i,I o,D.J 8 A,D.J 6 M,D.J 5 se,D.J 3 sf,B r] [D.J 4 hR,I p,I a0,D.J 8 iF,D.J 6 iG,D.J 5 iH,D.J 3 iI,B q],aL.ro (af cc),aL.ro (af a)] (aT.vals [ag true]):=
 h.b1
theorem Td(h:ad (Ez G a b A C E F q r H c d aj K L M s e [.n r true])):
 bY 170 [aL.ref [D.J 4 H,I c,I d,D.J 8 aj,D.J 6 K,D.J 5 L,D.J 3 M,B s] [D.J 4 G,I a,I b,D.J 8 A,D.J 6 C,D.J 5 E,D.J 3 F,B q],aL.ro (af e)] (aT.vals [ag false]):=
 h.b1
theorem agx(h:ad (AP G a b A C E F q r H d e K L M N s c Q aj R S bi V X Y [.b (decide ((aj.length:Int)>0)) true])):
 bY 170 [aL.ref [D.J 4 H,I d,I e,D.J 8 K,D.J 6 L,D.J 5 M,D.J 3 N,B s] [D.J 4 G,I a,I b,D.J 8 A,D.J 6 C,D.J 5 E,D.J 3 F,B q],aL.ro (af c)] (aT.vals [ag false]):=
 h.b1
theorem agy(h:ad (AQ G a b A C E F q r H d e L M N Q s c aj K R S bi V X Y [.b ((aj.length:Int)==0) true])):
 bY 170 [aL.ref [D.J 4 H,I d,I e,D.J 8 L,D.J 6 M,D.J 5 N,D.J 3 Q,B s] [D.J 4 G,I a,I b,D.J 8 A,D.J 6 C,D.J 5 E,D.J 3 F,B q],aL.ro (af c)] (aT.vals [ag false]):=
 h.b1
def U6(A:ae)(a b:Int)(C E F G:ae)(q r:Bool)(H:ae)(c d:Int)(aj K L M:ae)(s:Bool)(e:Int)(N P Q R S bi V X:ae)(f g i j k:Int)(Y Z:ae)(t u:Bool)(l:List O):List O:=AQ A a b C E F G q r H c d aj K L M s e N P Q R S bi V X (.b ((N.length:Int)==0) false::.p ((0:Int)<=0)::.p (0<(N.length:Int))::.e N 0 (bj f g i j k)::.r 176 [.agg (bk A a b),aP 4 R,.agg (bj f g i j k)] [aP 4 Y,aP 5 Z,ag t]::.p ((0:Int)<=(some (1:Int)).getD 0)::.p ((some (1:Int)).getD 0<=none.getD (N.length:Int))::.p (none.getD (N.length:Int)<=(N.length:Int))::.g ([]:ae) (List.take (N.length-1) (List.drop 1 N)) 40::.h (List.take (N.length-1) (List.drop 1 N))::.r 177 [.agg (bk A a b),.agg (bj f g i j k)] [ag u]::l)
theorem agz(h:ad (U6 M c d E N Q R q r S j k bi Y Z eg t a A F G H aj K C L e b f g i V X u s [.b s true,.x C b [B v],.e E a.toNat (ba A F G H aj K C L),.p (a.toNat=a.toNat),.p (a.toNat=a.toNat),.p (a.toNat=a.toNat),.p (a.toNat=a.toNat),.x (E.set a.toNat (ba A F G H aj K (C.set b.toNat [B true]) L)) a (ba A F G H aj K (C.set b.toNat [B true]) L),.p (a.toNat=a.toNat),.p (a.toNat=a.toNat),.p (a.toNat=a.toNat),.p (a.toNat=a.toNat),.p (a.toNat=a.toNat)])):
 bY 170 [aL.ref [D.J 4 S,I j,I k,D.J 8 bi,D.J 6 Y,D.J 5 Z,D.J 3 eg,B t] [D.J 4 M,I c,I d,D.J 8 ((E.set a.toNat (ba A F G H aj K (C.set b.toNat [B true]) L)).set a.toNat (ba ([]++List.take (A.length-1) (List.drop 1 A)) X G V aj K (C.set b.toNat [B true]) L)),D.J 6 N,D.J 5 Q,D.J 3 R,B q],aL.ro (af a)] (aT.vals [ag true]):=
 h.b1
theorem agA(h:ad (U6 E b c C F G H q r S j k bi Y Z eg t a A aj K L M N Q R d e f g i V X u s [.b s false,.x C a (ba A aj K L M N Q R),.p (a.toNat=a.toNat),.p (a.toNat=a.toNat),.p (a.toNat=a.toNat),.p (a.toNat=a.toNat),.p (a.toNat=a.toNat)])):
 bY 170 [aL.ref [D.J 4 S,I j,I k,D.J 8 bi,D.J 6 Y,D.J 5 Z,D.J 3 eg,B t] [D.J 4 E,I b,I c,D.J 8 (C.set a.toNat (ba ([]++List.take (A.length-1) (List.drop 1 A)) X K V M N Q R)),D.J 6 F,D.J 5 G,D.J 3 H,B q],aL.ro (af a)] (aT.vals [ag true]):=
 h.b1
theorem agB(h:ad [.b (e==1) true,.a (.dg [some [D.J 4 A,I a,I b,D.J 8 C,D.J 6 E,D.J 5 F,D.J 3 G,B q],none] (aT.vals [ag r])),.p (bT prog 170 [aL.ref [D.J 4 H,I c,I d,D.J 8 aj,D.J 6 K,D.J 5 L,D.J 3 M,B s] [D.J 4 A,I a,I b,D.J 8 C,D.J 6 E,D.J 5 F,D.J 3 G,B q],aL.ro (af f)] (aT.vals [ag r]))]):
 bY 128 [aL.ref [D.J 4 H,I c,I d,D.J 8 aj,D.J 6 K,D.J 5 L,D.J 3 M,B s] [D.J 4 A,I a,I b,D.J 8 C,D.J 6 E,D.J 5 F,D.J 3 G,B q],aL.ro (.agg [I e,I f,I g])] (aT.vals [ag r]):=
 h.b1
theorem agC(h:ad [.b (c==1) false,.b (c==2) true,.a (.dg [some [D.J 4 A,I a,I b,D.J 8 C,D.J 6 E,D.J 5 F,D.J 3 G,B q],none] (aT.vals [ag r])),.p (bT prog 171 [aL.ref [D.J 4 H,I d,I e,D.J 8 aj,D.J 6 K,D.J 5 L,D.J 3 M,B s] [D.J 4 A,I a,I b,D.J 8 C,D.J 6 E,D.J 5 F,D.J 3 G,B q],aL.ro (af f)] (aT.vals [ag r]))]):
 bY 128 [aL.ref [D.J 4 H,I d,I e,D.J 8 aj,D.J 6 K,D.J 5 L,D.J 3 M,B s] [D.J 4 A,I a,I b,D.J 8 C,D.J 6 E,D.J 5 F,D.J 3 G,B q],aL.ro (.agg [I c,I f,I g])] (aT.vals [ag r]):=
 h.b1
def U7(a:Int)(l:List O):List O:=.b (a==1) false::.b (a==2) false::l
theorem agD(h:ad (U7 a [.b (a==3) true,.a (.dg [some [D.J 4 A,I b,I c,D.J 8 C,D.J 6 E,D.J 5 F,D.J 3 G,B q],none] (aT.vals [ag r])),.p (bT prog 151 [aL.ref [D.J 4 H,I d,I e,D.J 8 aj,D.J 6 K,D.J 5 L,D.J 3 M,B s] [D.J 4 A,I b,I c,D.J 8 C,D.J 6 E,D.J 5 F,D.J 3 G,B q],aL.ro (af f)] (aT.vals [ag r]))])):
 bY 128 [aL.ref [D.J 4 H,I d,I e,D.J 8 aj,D.J 6 K,D.J 5 L,D.J 3 M,B s] [D.J 4 A,I b,I c,D.J 8 C,D.J 6 E,D.J 5 F,D.J 3 G,B q],aL.ro (.agg [I a,I f,I g])] (aT.vals [ag r]):=
 h.b1
def L5(a:Int)(l:List O):List O:=U7 a (.b (a==3) false::l)
theorem agE(h:ad (L5 a [.b (a==4) true,.a (.dg [some [D.J 4 A,I b,I c,D.J 8 C,D.J 6 E,D.J 5 F,D.J 3 G,B q],none,none] (aT.vals [ag r])),.p (bT prog 156 [aL.ref [D.J 4 H,I d,I f,D.J 8 aj,D.J 6 K,D.J 5 L,D.J 3 M,B s] [D.J 4 A,I b,I c,D.J 8 C,D.J 6 E,D.J 5 F,D.J 3 G,B q],aL.ro (af g),aL.ro (af e)] (aT.vals [ag r]))])):
 bY 128 [aL.ref [D.J 4 H,I d,I f,D.J 8 aj,D.J 6 K,D.J 5 L,D.J 3 M,B s] [D.J 4 A,I b,I c,D.J 8 C,D.J 6 E,D.J 5 F,D.J 3 G,B q],aL.ro (.agg [I a,I g,I e])] (aT.vals [ag r]):=
 h.b1
theorem agF(h:ad (L5 a [.b (a==4) false,.b (a==5) true,.a (.dg [some [D.J 4 A,I b,I c,D.J 8 C,D.J 6 E,D.J 5 F,D.J 3 G,B q],none,none] (aT.vals [ag r])),.p (bT prog 158 [aL.ref [D.J 4 H,I d,I f,D.J 8 aj,D.J 6 K,D.J 5 L,D.J 3 M,B s] [D.J 4 A,I b,I c,D.J 8 C,D.J 6 E,D.J 5 F,D.J 3 G,B q],aL.ro (af g),aL.ro (af e)] (aT.vals [ag r]))])):
 bY 128 [aL.ref [D.J 4 H,I d,I f,D.J 8 aj,D.J 6 K,D.J 5 L,D.J 3 M,B s] [D.J 4 A,I b,I c,D.J 8 C,D.J 6 E,D.J 5 F,D.J 3 G,B q],aL.ro (.agg [I a,I g,I e])] (aT.vals [ag r]):=
 h.b1
def L6(a:Int)(l:List O):List O:=L5 a (.b (a==4) false::.b (a==5) false::l)
theorem agG(h:ad (L6 a [.b (a==6) true,.a (.dg [some [D.J 4 A,I b,I c,D.J 8 C,D.J 6 E,D.J 5 F,D.J 3 G,B q],none] (aT.vals [ag r])),.p (bT prog 246 [aL.ref [D.J 4 H,I d,I e,D.J 8 aj,D.J 6 K,D.J 5 L,D.J 3 M,B s] [D.J 4 A,I b,I c,D.J 8 C,D.J 6 E,D.J 5 F,D.J 3 G,B q],aL.ro (af f)] (aT.vals [ag r]))])):
 bY 128 [aL.ref [D.J 4 H,I d,I e,D.J 8 aj,D.J 6 K,D.J 5 L,D.J 3 M,B s] [D.J 4 A,I b,I c,D.J 8 C,D.J 6 E,D.J 5 F,D.J 3 G,B q],aL.ro (.agg [I a,I f,I g])] (aT.vals [ag r]):=
 h.b1
theorem agH(h:ad (L6 a [.b (a==6) false,.b (a==7) true,.a (.dg [some [D.J 4 A,I b,I c,D.J 8 C,D.J 6 E,D.J 5 F,D.J 3 G,B q],none] (aT.vals [ag r])),.p (bT prog 247 [aL.ref [D.J 4 H,I d,I e,D.J 8 aj,D.J 6 K,D.J 5 L,D.J 3 M,B s] [D.J 4 A,I b,I c,D.J 8 C,D.J 6 E,D.J 5 F,D.J 3 G,B q],aL.ro (af f)] (aT.vals [ag r]))])):
 bY 128 [aL.ref [D.J 4 H,I d,I e,D.J 8 aj,D.J 6 K,D.J 5 L,D.J 3 M,B s] [D.J 4 A,I b,I c,D.J 8 C,D.J 6 E,D.J 5 F,D.J 3 G,B q],aL.ro (.agg [I a,I f,I g])] (aT.vals [ag r]):=
 h.b1
theorem agI(h:ad (L6 a [.b (a==6) false,.b (a==7) false])):
 bY 128 [aL.ref [D.J 4 A,I b,I c,D.J 8 C,D.J 6 E,D.J 5 F,D.J 3 G,B q] [D.J 4 A,I b,I c,D.J 8 C,D.J 6 E,D.J 5 F,D.J 3 G,B q],aL.ro (.agg [I a,I e,I d])] (aT.vals [ag false]):=
 h.b1
def u0(A:ae)(a b:Int)(C:ae)(c d:Int)(E F G H:ae)(q:Bool):aD:=bd 22 [(0,aQ 1000000000),(1,.aF (.one (.c' 1000000200 3 A))),(5,aW b),(6,aW a)] [(1000000000,[aA 950001000 4 C,au c,au d,aA 950001003 8 E,aA 950001004 6 F,aA 950001005 5 G,aA 950001006 3 H,.a' q])]
theorem agJ(h:ad (L3 H a g i j A c d C E F G q r aj e f K L M N s [.b r true,.u b,.u a])):
 aX (ao f131 0) (u0 H a b aj e f K L M N s) .normal (u0 H (a+1) (b+1) A c d C E F G q):=
 h.pd [(1000000001000000,950001000,4),(1000000001000003,950001003,8),(1000000001000004,950001004,6),(1000000001000005,950001005,5),(1000000001000006,950001006,3)] [6,1,0,5] [1000000000]
theorem agK(h:ad (L3 H a g i j A b c C E F G q r aj e f K L M N s [.b r false,.u a])):
 aX (ao f131 0) (u0 H a d aj e f K L M N s) .normal (u0 H (a+1) d A b c C E F G q):=
 h.pd [(1000000001000000,950001000,4),(1000000001000003,950001003,8),(1000000001000004,950001004,6),(1000000001000005,950001005,5),(1000000001000006,950001006,3)] [6,1,0,5] [1000000000]
def Te(a:Int)(A:ae)(b c:Int)(C E F G:ae)(q:Bool):aD:=bd 22 [(0,aQ 1000000000),(5,aW a)] [(1000000000,[aA 950001000 4 A,au b,au c,aA 950001003 8 C,aA 950001004 6 E,aA 950001005 5 F,aA 950001006 3 G,.a' q])]
theorem agL(h:ad [.f H d false]):
 aX (ao f131 0) (u0 H d a A b c C E F G q) (.exit 0) (Te a A b c C E F G q):=
 h.aV [5,0] [1000000000]
theorem agM(h:ad [.l [(1000000001000000,950001000,4),(1000000001000003,950001003,8),(1000000001000004,950001004,6),(1000000001000005,950001005,5),(1000000001000006,950001006,3)] [6,1,0,5] [1000000000] (ao f131 0) (u0 N 0 0 A a d aj K L M r) (.exit 0) (Te e C b c E F G H q)]):
 bY 131 [aL.ref [D.J 4 A,I a,I d,D.J 8 aj,D.J 6 K,D.J 5 L,D.J 3 M,B r] [D.J 4 C,I b,I c,D.J 8 E,D.J 6 F,D.J 5 G,D.J 3 H,B q],aL.ro (aP 3 N)] (aT.vals [af e]):=
 h.b1
