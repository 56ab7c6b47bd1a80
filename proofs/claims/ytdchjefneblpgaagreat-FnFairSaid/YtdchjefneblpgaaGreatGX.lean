import Derived.Test.YtdchjefneblpgaaGreatGE
set_option linter.unusedVariables false
set_option linter.unusedSimpArgs false
namespace Go.Proofs.YtdchjefneblpgaaGreat
open Go.Sx Go.RowKit Go.Proofs.Tryz
variable {a b c d e f g i j k l m n o p a0 b6 c5 d0 bE f0 i0 j0 dm : Int} {A C E F G H ah K L M N Q R S ba V X Y Z dC fh fu fI fJ fK eW kg kX lO lP lQ oN oO : ag} {q r s t u v : Bool}
def xN(A:ag)(a:Int)(C:ag)(b c:Int)(E F G H:ag):aC:=bb 25 [(1,aR 1),(3,aI.aG (bl.one (aB 90000 3 A))),(4,aU a)] [(1,[.J .free 4 C,au b,au c,.J .free 8 E,.J .free 6 F,.J .free 5 G,.J .free 3 H])]
def Oq(q:Bool):aC:=bb 25 [(2,.aG (.one (.bg q)))] []
theorem asD(h:ad [.i G f [I c,I d,I e],.r 204 [.agg (cl H a b A C E F),.agg [I c,I d,I e]] [.agg (cl ah g i K L M N),aj q],.b q true]):
 aV (ap f68 0) (xN G f H a b A C E F) .ret (Oq true):=
 h.aS [2] []
theorem asE(h:ad [.i G a [I d,I e,I f],.r 204 [.agg (cl H b c A C E F),.agg [I d,I e,I f]] [.agg (cl ah g i K L M N),aj q],.b q false,.u a]):
 aV (ap f68 0) (xN G a H b c A C E F) .normal (xN G (a+1) H b c A C E F):=
 h.aS [4,3,1] [1]
def Xx:aC:=bb 25 [] []
theorem at5(h:ad [.f A a false]):
 aV (ap f68 0) (xN A a H b c C E F G) (.exit 0) Xx:=
 h.aS [] []
theorem at6(h:ad [.r 129 [.agg (cl A a b C E F G)] [aO 3 H],.l [] [4,3,1] [1] (ap f68 0) (xN H 0 A a b C E F G) .ret (Oq q)]):
 aq 68 [.agg (cl A a b C E F G)] [aj q]:=
 h.of
theorem at7(h:ad [.r 129 [.agg (cl A a b C E F G)] [aO 3 H],.l [] [4,3,1] [1] (ap f68 0) (xN H 0 A a b C E F G) (.exit 0) Xx]):
 aq 68 [.agg (cl A a b C E F G)] [aj false]:=
 h.of
def r0(a:Int)(A:ag)(b c d e f:Int)(C:ag)(g i j k:Int)(q:Bool)(l:List O):List O:=.r 279 [.agg (bY a A b c d e)] [.agg (bY f C g i j k)]::.r 191 [.agg (bY f C g i j k)] [aj q]::l
theorem at8(h:ad (r0 f C g i j k c A d e a b q [.n q true])):
 aq 261 [.agg (bY f C g i j k)] [.agg (bY c A d e a b),aj false]:=
 h.of
theorem at9(h:ad (r0 f C g i j k d A e a b c q [.n q false,.b (a==0) true])):
 aq 261 [.agg (bY f C g i j k)] [.agg (bY d A e a b c),aj false]:=
 h.of
theorem aua(h:ad (r0 f C g i j k e A b a c d q [.n q false,.b (a==0) false,.v (a-1),.u b])):
 aq 261 [.agg (bY f C g i j k)] [.agg (bY e A (b+1) (a-1) c d),aj true]:=
 h.of
def aaX(A:ag)(a b:Int)(C E F G:ag)(q:Bool)(l:List O):List O:=.a (.dN [none] (aY.new [D.J 4 A,I a,I b,D.J 8 C,D.J 6 E,D.J 5 F,D.J 3 G,B q]))::l
def AQ(A:ag)(a b:Int)(C E F G:ag)(q:Bool)(H:ag)(c d:Int)(ah K L M:ag)(l:List O):List O:=aaX A a b C E F G q (.p (b2 prog 127 [aM.ro (.agg (cl H c d ah K L M))] (aY.new [D.J 4 A,I a,I b,D.J 8 C,D.J 6 E,D.J 5 F,D.J 3 G,B q]))::l)
theorem aub(h:ad (AQ ba f g C E F G q A a d N Q R S [.r 129 [.agg (cl A a d N Q R S)] [aO 3 V],.a (.dN [some [D.J 4 H,I b,I c,D.J 8 ah,D.J 6 K,D.J 5 L,D.J 3 M,B r],none] (aY.vals [ae e])),.p (b2 prog 131 [aM.ref [D.J 4 ba,I f,I g,D.J 8 C,D.J 6 E,D.J 5 F,D.J 3 G,B q] [D.J 4 H,I b,I c,D.J 8 ah,D.J 6 K,D.J 5 L,D.J 3 M,B r],aM.ro (aO 3 V)] (aY.vals [ae e]))])):
 aq 65 [.agg (cl A a d N Q R S)] [.agg (cl H b c ah K L M),ae e]:=
 h.of
def vz(A:ag)(a d:Int)(C:ag)(e f:Int)(E F G H:ag)(q:Bool)(b c:Int):aC:=bb 34 [(1,aU a),(4,aR 4),(6,aR 10),(7,aI.aG (bl.one (aB 130000 3 A))),(8,aU d)] [(10,[aB 900011000 4 C,au e,au f,aB 900011003 8 E,aB 900011004 6 F,aB 900011005 5 G,aB 900011006 3 H,.bg q]),(4,[.v (aN),au b,au c,.v (aN),.v (aN),.v (aN),.v (aN)])]
def Ot(a:Int)(A:ag)(b c:Int)(C E F G:ag):aC:=bb 34 [(4,aR 4),(5,aU a)] [(4,[aB 235000 4 A,au b,au c,aB 235003 8 C,aB 235004 6 E,aB 235005 5 F,aB 235006 3 G])]
def IH(a b:Int)(A:ag)(c d:Int)(C E F G:ag)(q:Bool)(e:Int)(H:ag)(f g:Int)(ah K L M:ag)(r:Bool)(N:ag)(l:List O):List O:=.b (decide (a<=b)) true::.a (.dN [some [D.J 4 A,I c,I d,D.J 8 C,D.J 6 E,D.J 5 F,D.J 3 G,B q],none] (aY.vals [ae e]))::.p (b2 prog 131 [aM.ref [D.J 4 H,I f,I g,D.J 8 ah,D.J 6 K,D.J 5 L,D.J 3 M,B r] [D.J 4 A,I c,I d,D.J 8 C,D.J 6 E,D.J 5 F,D.J 3 G,B q],aM.ro (aO 3 N)] (aY.vals [ae e]))::l
theorem auc(h:ad (IH a e A b c C E F G r d ah f g K L M N q H [.b (d==0) true])):
 aV (ap f16 0) (vz H e a ah f g K L M N q i j) .ret (Ot a A b c C E F G):=
 h.aS [4,5] [4]
theorem Xy(h:ad (IH a b C c d E F G H q e ah f g K L M N r A [.b (e==0) false,.u a])):
 aV (ap f16 0) (vz A b a ah f g K L M N r i j) .normal (vz A b (a+1) C c d E F G H q i j):=
 h.pf [(11000000,900011000,4),(11000003,900011003,8),(11000004,900011004,6),(11000005,900011005,5),(11000006,900011006,3)] [8,1,6,7,4] [10,4]
def Ou(a:Int)(A:ag)(c d:Int)(C E F G:ag)(q:Bool)(e b:Int):aC:=bb 34 [(1,aU a),(4,aR 4),(6,aR 10)] [(10,[aB 900011000 4 A,au c,au d,aB 900011003 8 C,aB 900011004 6 E,aB 900011005 5 F,aB 900011006 3 G,.bg q]),(4,[.v (aN),au e,au b,.v (aN),.v (aN),.v (aN),.v (aN)])]
theorem aud(h:ad [.b (decide (b<=a)) false]):
 aV (ap f16 0) (vz H a b A c d C E F G q e f) (.exit 0) (Ou a A c d C E F G q e f):=
 h.aS [6,1,4] [10,4]
theorem aue(h:ad (AQ M d b C E F G q A a c H ah K L [.r 129 [.agg (cl A a c H ah K L)] [aO 3 N],.r 130 [ae j,ae 0,ae 3000] [ae e],.l [(11000000,900011000,4),(11000003,900011003,8),(11000004,900011004,6),(11000005,900011005,5),(11000006,900011006,3)] [8,1,6,7,4] [10,4] (ap f16 0) (vz N e 1 M d b C E F G q 0 0) .ret (Ot f Q g i R S ba V)])):
 aq 16 [.agg (cl A a c H ah K L),ae j] [.agg (cl Q g i R S ba V),ae f]:=
 h.of
theorem auf(h:ad (AQ M e c C E F G q A b d H ah K L [.r 129 [.agg (cl A b d H ah K L)] [aO 3 N],.r 130 [ae i,ae 0,ae 3000] [ae a],.l [(11000000,900011000,4),(11000003,900011003,8),(11000004,900011004,6),(11000005,900011005,5),(11000006,900011006,3)] [8,1,6,7,4] [10,4] (ap f16 0) (vz N a 1 M e c C E F G q 0 0) (.exit 0) (Ou a Q f g R S ba V r j k)])):
 aq 16 [.agg (cl A b d H ah K L),ae i] [.agg (cl Q f g R S ba V),ae a]:=
 h.of
def abg(a b:Int)(q:Bool)(l:List O):List O:=.a .wr::.r 168 [ae a,ae 0,ae (IntKind.i64.wrap (b-1))] [aj q]::l
theorem Xz(h:ad (abg b a q [.n q true])):
 aq 61 [.agg (br A a c),ae b,ae d] [ae (-1)]:=
 h.of
def Qw(a b:Int)(q:Bool)(c:Int)(r:Bool)(l:List O):List O:=abg a b q (.n q false::.a .wr::.r 168 [ae c,ae 0,ae (IntKind.i64.wrap (b-1))] [aj r]::l)
theorem XA(h:ad (Qw b a q c r [.n r true])):
 aq 61 [.agg (br A a d),ae b,ae c] [ae (-1)]:=
 h.of
theorem aug(h:ad (Qw b a q c r [.n r false,.b (decide (a<1)) true])):
 aq 61 [.agg (br A a d),ae b,ae c] [ae (-1)]:=
 h.of
theorem XB(h:ad (Qw b a q c r [.n r false,.b (decide (a<1)) false,.a .wr,.a .wr])):
 aq 61 [.agg (br A a d),ae b,ae c] [ae (IntKind.i64.wrap (IntKind.i64.wrap (b*a)+c))]:=
 h.of
def zX(A:ag)(a:Int)(C E:ag)(d e:Int)(F G H ah:ag)(q:Bool)(b c:Int):aC:=bb 32 [(1,dB 3 A),(4,aR 4),(6,aR 10),(7,aI.aG (bl.one (aB 11 1 C))),(8,aU a)] [(10,[aB 900011000 4 E,au d,au e,aB 900011003 8 F,aB 900011004 6 G,aB 900011005 5 H,aB 900011006 3 ah,.bg q]),(4,[.v (aN),au b,au c,.v (aN),.v (aN),.v (aN),.v (aN)])]
def Qr(A:ag)(a b c d:Int)(C:ag)(e f:Int)(E F G H:ag)(q r:Bool)(ah:ag)(g i:Int)(K L M N:ag)(s:Bool)(l:List O):List O:=.i A a [I b,I c,I d]::.a (.dN [some [D.J 4 C,I e,I f,D.J 8 E,D.J 6 F,D.J 5 G,D.J 3 H,B q],none] (aY.vals [aj r]))::.p (b2 prog 128 [aM.ref [D.J 4 ah,I g,I i,D.J 8 K,D.J 6 L,D.J 5 M,D.J 3 N,B s] [D.J 4 C,I e,I f,D.J 8 E,D.J 6 F,D.J 5 G,D.J 3 H,B q],aM.ro (.agg [I b,I c,I d])] (aY.vals [aj r]))::l
theorem auh(h:ad (Qr ah a i j k C b c E F G H r q K d e L M N Q s [.g A [[B q]] 1,.h [[B q]],.u a])):
 aV (ap f15 0) (zX ah a A K d e L M N Q s f g) .normal (zX ah (a+1) (A++[[B q]]) C b c E F G H r f g):=
 h.pf [(11000000,900011000,4),(11000003,900011003,8),(11000004,900011004,6),(11000005,900011005,5),(11000006,900011006,3)] [8,1,7,6,4] [10,4]
def Ov(A C:ag)(b c:Int)(E F G H:ag)(q:Bool)(d a:Int):aC:=bb 32 [(4,aR 4),(6,aR 10),(7,aI.aG (bl.one (aB 11 1 A)))] [(10,[aB 900011000 4 C,au b,au c,aB 900011003 8 E,aB 900011004 6 F,aB 900011005 5 G,aB 900011006 3 H,.bg q]),(4,[.v (aN),au d,au a,.v (aN),.v (aN),.v (aN),.v (aN)])]
theorem aui(h:ad [.f ah a false]):
 aV (ap f15 0) (zX ah a A C b c E F G H q d e) (.exit 0) (Ov A C b c E F G H q d e):=
 h.aS [6,7,4] [10,4]
theorem auj(h:ad (AQ G b a A C E F q H c f R S ba V [.l [(11000000,900011000,4),(11000003,900011003,8),(11000004,900011004,6),(11000005,900011005,5),(11000006,900011006,3)] [8,1,7,6,4] [10,4] (ap f15 0) (zX X 0 [] G b a A C E F q 0 0) (.exit 0) (Ov ah K d e L M N Q r g i)])):
 aq 15 [.agg (cl H c f R S ba V),aO 3 X] [.agg (cl K d e L M N Q),aO 1 ah]:=
 h.of
theorem auk(h:ad (r0 f C g i j k a A b c d e q [.n q true])):
 aq 258 [.agg (bY f C g i j k),.agg (bh m n o p l)] [.agg (bY a A b c d e),aj false]:=
 h.of
theorem aul(h:ad (r0 f C i j k l a A b c d e q [.n q false,.r 122 [.agg (bh m n o p g)] [aj r],.n r true])):
 aq 258 [.agg (bY f C i j k l),.agg (bh m n o p g)] [.agg (bY a A b c d e),aj false]:=
 h.of
theorem aum(h:ad (r0 f C i j k l b A a c d e q [.n q false,.r 122 [.agg (bh m n o p g)] [aj r],.n r false,.b (a==0) true])):
 aq 258 [.agg (bY f C i j k l),.agg (bh m n o p g)] [.agg (bY b A a c d e),aj false]:=
 h.of
theorem aun(h:ad (r0 f C i j k l c A a d b e q [.n q false,.r 122 [.agg (bh m n o p g)] [aj r],.n r false,.b (a==0) false,.b (decide (b>=1000000000)) true])):
 aq 258 [.agg (bY f C i j k l),.agg (bh m n o p g)] [.agg (bY c A a d b e),aj false]:=
 h.of
theorem auo(h:ad (r0 l C m n o p i A b j c k q [.n q false,.r 122 [.agg (bh d e f g a)] [aj r],.n r false,.b (b==0) false,.b (decide (c>=1000000000)) false,.g A [(bh d e f g a)] 40,.h [(bh d e f g a)],.v (b-1),.u c])):
 aq 258 [.agg (bY l C m n o p),.agg (bh d e f g a)] [.agg (bY i (A++[(bh d e f g a)]) (b-1) j (c+1) k),aj true]:=
 h.of
theorem aup(h:ad (aaX A a b C E F G q [.a (.dN [some [D.J 4 H,I c,I d,D.J 8 ah,D.J 6 K,D.J 5 L,D.J 3 M,B s],none] (aY.vals [aj r])),.p (b2 prog 127 [aM.ro (.agg (cl N e f Q R S ba))] (aY.new [D.J 4 A,I a,I b,D.J 8 C,D.J 6 E,D.J 5 F,D.J 3 G,B q])),.p (b2 prog 128 [aM.ref [D.J 4 A,I a,I b,D.J 8 C,D.J 6 E,D.J 5 F,D.J 3 G,B q] [D.J 4 H,I c,I d,D.J 8 ah,D.J 6 K,D.J 5 L,D.J 3 M,B s],aM.ro (.agg [I g,I i,I j])] (aY.vals [aj r]))])):
 aq 204 [.agg (cl N e f Q R S ba),.agg [I g,I i,I j]] [.agg (cl H c d ah K L M),aj r]:=
 h.of
theorem auq(h:ad (r0 f C g i j k c A d e a b q [.n q true])):
 aq 260 [.agg (bY f C g i j k)] [.agg (bY c A d e a b),.agg (bh 0 0 0 0 0),aj false]:=
 h.of
theorem aur(h:ad (r0 f C g i j k c A d e a b q [.n q false,.b ((A.length:Int)==0) true])):
 aq 260 [.agg (bY f C g i j k)] [.agg (bY c A d e a b),.agg (bh 0 0 0 0 0),aj false]:=
 h.of
theorem aus(h:ad (r0 f C m n o p d A e b c a q [.n q false,.b ((A.length:Int)==0) false,.p ((0:Int)<=0),.p (0<(A.length:Int)),.e A 0 (bh g i j k l),.p ((0:Int)<=(some (1:Int)).getD 0),.p ((some (1:Int)).getD 0<=none.getD (A.length:Int)),.p (none.getD (A.length:Int)<=(A.length:Int)),.g ([]:ag) (List.take (A.length-1) (List.drop 1 A)) 40,.h (List.take (A.length-1) (List.drop 1 A)),.u a,.u b])):
 aq 260 [.agg (bY f C m n o p)] [.agg (bY d ([]++List.take (A.length-1) (List.drop 1 A)) e (b+1) c (a+1)),.agg (bh g i j k l),aj true]:=
 h.of
def yx(A:ag)(a b c d e:Int)(l:List O):List O:=.r 61 [.agg (br A a b),ae c,ae d] [ae e]::l
theorem aut(h:ad (yx A a b c d e [.n q true])):
 ca 158 [aM.ref [D.J 4 A,I a,I b,D.J 8 C,D.J 6 E,D.J 5 F,D.J 3 G,B q] [D.J 4 A,I a,I b,D.J 8 C,D.J 6 E,D.J 5 F,D.J 3 G,B q],aM.ro (ae c),aM.ro (ae d)] (aY.vals [aj false]):=
 h.cb
theorem auu(h:ad (yx A a b d e c [.n q false,.b (decide (c<0)) true])):
 ca 158 [aM.ref [D.J 4 A,I a,I b,D.J 8 C,D.J 6 E,D.J 5 F,D.J 3 G,B q] [D.J 4 A,I a,I b,D.J 8 C,D.J 6 E,D.J 5 F,D.J 3 G,B q],aM.ro (ae d),aM.ro (ae e)] (aY.vals [aj false]):=
 h.cb
def yy(A:ag)(a b c d e:Int)(q:Bool)(l:List O):List O:=yx A a b c d e (.n q false::.b (decide (e<0)) false::l)
theorem atE(h:ad (yy A a b c d e q [.b (c==d) true])):
 ca 158 [aM.ref [D.J 4 A,I a,I b,D.J 8 C,D.J 6 E,D.J 5 F,D.J 3 G,B q] [D.J 4 A,I a,I b,D.J 8 C,D.J 6 E,D.J 5 F,D.J 3 G,B q],aM.ro (ae c),aM.ro (ae d)] (aY.vals [aj false]):=
 h.cb
theorem atF(h:ad (yy C b i j k a q [.b (j==k) false,.a .sub,.x A a (bY c E d e f g),.r 261 [.agg (bY c E d e f g)] [.agg (bY l F m n o p),aj r],.x A a (bY c E d e f g)])):
 ca 158 [aM.ref [D.J 4 C,I b,I i,D.J 8 G,D.J 6 A,D.J 5 H,D.J 3 ah,B q] [D.J 4 C,I b,I i,D.J 8 G,D.J 6 (A.set a.toNat (bY l F m n o p)),D.J 5 H,D.J 3 ah,B q],aM.ro (ae j),aM.ro (ae k)] (aY.vals [aj r]):=
 h.cb
def II(A:ag)(a b:Int)(C E F G:ag)(q r:Bool)(H:ag)(c d:Int)(ah K L M:ag)(s:Bool)(e:Int)(l:List O):List O:=.a (.dN [some [D.J 4 A,I a,I b,D.J 8 C,D.J 6 E,D.J 5 F,D.J 3 G,B q],none] (aY.vals [aj r]))::.p (b2 prog 257 [aM.ref [D.J 4 H,I c,I d,D.J 8 ah,D.J 6 K,D.J 5 L,D.J 3 M,B s] [D.J 4 A,I a,I b,D.J 8 C,D.J 6 E,D.J 5 F,D.J 3 G,B q],aM.ro (ae e)] (aY.vals [aj r]))::l
theorem XC(h:ad (II G a b A C E F q r H c d ah K L M s e [.n r true])):
 ca 171 [aM.ref [D.J 4 H,I c,I d,D.J 8 ah,D.J 6 K,D.J 5 L,D.J 3 M,B s] [D.J 4 G,I a,I b,D.J 8 A,D.J 6 C,D.J 5 E,D.J 3 F,B q],aM.ro (ae e)] (aY.vals [aj false]):=
 h.cb
def Em(A:ag)(a b:Int)(C E F G:ag)(q r:Bool)(H:ag)(c d:Int)(ah K L M:ag)(s:Bool)(e:Int)(N P Q R S ba V X:ag)(l:List O):List O:=II A a b C E F G q r H c d ah K L M s e (.n r false::.a .sub::.x C e (aW N P Q R S ba V X)::l)
theorem atG(h:ad (Em G a b A C E F q r H d e K L M N s c Q ah R S ba V X Y [.b (decide ((ah.length:Int)>0)) true])):
 ca 171 [aM.ref [D.J 4 H,I d,I e,D.J 8 K,D.J 6 L,D.J 5 M,D.J 3 N,B s] [D.J 4 G,I a,I b,D.J 8 A,D.J 6 C,D.J 5 E,D.J 3 F,B q],aM.ro (ae c)] (aY.vals [aj false]):=
 h.cb
def En(A:ag)(a b:Int)(C E F G:ag)(q r:Bool)(H:ag)(c d:Int)(ah K L M:ag)(s:Bool)(e:Int)(N P Q R S ba V X:ag)(l:List O):List O:=Em A a b C E F G q r H c d ah K L M s e N P Q R S ba V X (.b (decide ((P.length:Int)>0)) false::l)
theorem atH(h:ad (En G a b A C E F q r H d e L M N Q s c ah K R S ba V X Y [.b (decide ((ah.length:Int)>0)) true])):
 ca 171 [aM.ref [D.J 4 H,I d,I e,D.J 8 L,D.J 6 M,D.J 5 N,D.J 3 Q,B s] [D.J 4 G,I a,I b,D.J 8 A,D.J 6 C,D.J 5 E,D.J 3 F,B q],aM.ro (ae c)] (aY.vals [aj false]):=
 h.cb
theorem atI(h:ad (En G a b A C E F q r H d e M N Q R s c ah K L S ba V X Y [.b (decide ((ah.length:Int)>0)) false,.b ((L.length:Int)==0) true])):
 ca 171 [aM.ref [D.J 4 H,I d,I e,D.J 8 M,D.J 6 N,D.J 5 Q,D.J 3 R,B s] [D.J 4 G,I a,I b,D.J 8 A,D.J 6 C,D.J 5 E,D.J 3 F,B q],aM.ro (ae c)] (aY.vals [aj false]):=
 h.cb
theorem atJ(h:ad (En R b c C F G H q r S d e ba V X Y s a ah E A K L M N Q [.b (decide ((ah.length:Int)>0)) false,.b ((A.length:Int)==0) false,.p ((0:Int)<=0),.p (0<(A.length:Int)),.e A 0 (bh f g i j k),.p ((0:Int)<=(some (1:Int)).getD 0),.p ((some (1:Int)).getD 0<=none.getD (A.length:Int)),.p (none.getD (A.length:Int)<=(A.length:Int)),.g ([]:ag) (List.take (A.length-1) (List.drop 1 A)) 40,.h (List.take (A.length-1) (List.drop 1 A)),.x C a (aW ah E A K L M N Q),.p (a.toNat=a.toNat),.p (a.toNat=a.toNat),.p (a.toNat=a.toNat),.p (a.toNat=a.toNat),.p (a.toNat=a.toNat),.p (a.toNat=a.toNat)])):
 ca 171 [aM.ref [D.J 4 S,I d,I e,D.J 8 ba,D.J 6 V,D.J 5 X,D.J 3 Y,B s] [D.J 4 R,I b,I c,D.J 8 (C.set a.toNat [D.J 5 [(bh f g i j k)],D.J 5 E,D.J 5 ([]++List.take (A.length-1) (List.drop 1 A)),D.J 4 K,D.J 1 L,D.J 1 M,D.J 1 N,D.J 2 Q]),D.J 6 F,D.J 5 G,D.J 3 H,B q],aM.ro (ae a)] (aY.vals [aj true]):=
 h.cb
theorem XD(h:ad [.b q true,.v ((A.length:Int)-1),.r 168 [ae c,ae 0,ae ((A.length:Int)-1)] [aj r]]):
 ca 257 [aM.ref [D.J 4 C,I a,I b,D.J 8 A,D.J 6 E,D.J 5 F,D.J 3 G,B q] [D.J 4 C,I a,I b,D.J 8 A,D.J 6 E,D.J 5 F,D.J 3 G,B q],aM.ro (ae c)] (aY.vals [aj r]):=
 h.cb
theorem atK(h:ad [.b q false]):
 ca 257 [aM.ref [D.J 4 A,I a,I b,D.J 8 C,D.J 6 E,D.J 5 F,D.J 3 G,B q] [D.J 4 A,I a,I b,D.J 8 C,D.J 6 E,D.J 5 F,D.J 3 G,B q],aM.ro (ae c)] (aY.vals [aj false]):=
 h.cb
theorem XE(h:ad (II G a b A C E F q r H c d ah K L M s e [.n r true])):
 ca 151 [aM.ref [D.J 4 H,I c,I d,D.J 8 ah,D.J 6 K,D.J 5 L,D.J 3 M,B s] [D.J 4 G,I a,I b,D.J 8 A,D.J 6 C,D.J 5 E,D.J 3 F,B q],aM.ro (ae e)] (aY.vals [aj false]):=
 h.cb
theorem atL(h:ad (Em G a b A C E F q r H d e K L M N s c Q ah R S ba V X Y [.b ((ah.length:Int)==0) true])):
 ca 151 [aM.ref [D.J 4 H,I d,I e,D.J 8 K,D.J 6 L,D.J 5 M,D.J 3 N,B s] [D.J 4 G,I a,I b,D.J 8 A,D.J 6 C,D.J 5 E,D.J 3 F,B q],aM.ro (ae c)] (aY.vals [aj false]):=
 h.cb
def Qx(A:ag)(a b:Int)(C E F G:ag)(q r:Bool)(H:ag)(c d:Int)(ah K L M:ag)(s:Bool)(e:Int)(N P Q R S ba V X:ag)(f g i j k m:Int)(l:List O):List O:=Em A a b C E F G q r H c d ah K L M s e N P Q R S ba V X (.b ((P.length:Int)==0) false::.a .sub::.x C e (aW N P Q R S ba V X)::.p ((0:Int)<=0)::.p (0<(P.length:Int))::.e P 0 (bh f g i j k)::.r 245 [ae j,ae a] [ae m]::l)
theorem atM(h:ad (Qx F b c A E G H q r ah f g ba X Y Z t a K C L M N Q R S i j k d l e [.b (e != a) true,.r 61 [.agg (br F b c),ae a,ae e] [ae m],.a .sub,.x E m (bY n V o p a0 b6),.r 258 [.agg (bY n V o p a0 b6),.agg (bh i j k d l)] [.agg (bY c5 dC d0 bE f0 i0),aj s],.n s true])):
 ca 151 [aM.ref [D.J 4 ah,I f,I g,D.J 8 ba,D.J 6 X,D.J 5 Y,D.J 3 Z,B t] [D.J 4 F,I b,I c,D.J 8 A,D.J 6 E,D.J 5 G,D.J 3 H,B q],aM.ro (ae a)] (aY.vals [aj false]):=
 h.cb
theorem atN(h:ad (Qx H b c C E ah K q r fh p a0 lO lP oN oO u a fu F fI fJ fK eW kg kX b6 e c5 f d0 g [.b (g != a) true,.r 61 [.agg (br H b c),ae a,ae g] [ae d],.a .sub,.x E d (bY i L j k l m),.r 258 [.agg (bY i L j k l m),.agg (bh b6 e c5 f d0)] [.agg (bY bE lQ f0 i0 j0 dm),aj t],.n t false,.x E d (bY i L j k l m),.a (.dN [some [D.J 4 M,I n,I o,D.J 8 G,D.J 6 N,D.J 5 Q,D.J 3 R,B s],none,none,none] (aY.vals [])),.a .sub,.p (b2 prog 259 [aM.ref [D.J 4 H,I b,I c,D.J 8 C,D.J 6 (E.set d.toNat (bY bE lQ f0 i0 j0 dm)),D.J 5 ah,D.J 3 K,B q] [D.J 4 M,I n,I o,D.J 8 G,D.J 6 N,D.J 5 Q,D.J 3 R,B s],aM.ro (ae a),aM.ro (ae e),aM.ro (ae 1)] (aY.vals [])),.x G a (aW S A ba V X Y Z dC),.p ((0:Int)<=(some (1:Int)).getD 0),.p ((some (1:Int)).getD 0<=none.getD (A.length:Int)),.p (none.getD (A.length:Int)<=(A.length:Int)),.g ([]:ag) (List.take (A.length-1) (List.drop 1 A)) 40,.h (List.take (A.length-1) (List.drop 1 A)),.x G a (aW S A ba V X Y Z dC)])):
 ca 151 [aM.ref [D.J 4 fh,I p,I a0,D.J 8 lO,D.J 6 lP,D.J 5 oN,D.J 3 oO,B u] [D.J 4 M,I n,I o,D.J 8 (G.set a.toNat (aW S ([]++List.take (A.length-1) (List.drop 1 A)) ba V X Y Z dC)),D.J 6 N,D.J 5 Q,D.J 3 R,B s],aM.ro (ae a)] (aY.vals [aj true]):=
 h.cb
theorem atO(h:ad (Qx fh g i A N Q R q r fu j k fI fJ fK eW s a C E F G H ah K L c d e b f l [.b (l != a) false,.a .sub,.x A a (aW C E F G H ah K L),.g C [(bh c d e b f)] 40,.e A a.toNat (aW C E F G H ah K L),.p ((aW C E F G H ah K L)[0]?=some (D.J 5 C)),.h [(bh c d e b f)],.p (A=A),.p (A=A),.p (A=A),.p (A=A),.p (A=A),.p (A=A),.p (A=A),.p (A=A),.p (A=A),.p (A=A),.p (A=A),.p (a.toNat=a.toNat),.p (C=C),.x A a (aW C E F G H ah K L),.a .sub,.p (a.toNat=a.toNat),.p (0<=a),.p (a<(↑(A.set a.toNat (aW (C++[(bh c d e b f)]) E F G H ah K L)).length:Int)),.e (A.set a.toNat (aW (C++[(bh c d e b f)]) E F G H ah K L)) a.toNat (aW S M ba V X Y Z dC),.p ((0:Int)<=(some (1:Int)).getD 0),.p ((some (1:Int)).getD 0<=none.getD (M.length:Int)),.p (none.getD (M.length:Int)<=(M.length:Int)),.g ([]:ag) (List.take (M.length-1) (List.drop 1 M)) 40,.h (List.take (M.length-1) (List.drop 1 M)),.p (0<=a),.p (a<(↑(A.set a.toNat (aW (C++[(bh c d e b f)]) E F G H ah K L)).length:Int)),.e (A.set a.toNat (aW (C++[(bh c d e b f)]) E F G H ah K L)) a.toNat (aW S M ba V X Y Z dC)])):
 ca 151 [aM.ref [D.J 4 fu,I j,I k,D.J 8 fI,D.J 6 fJ,D.J 5 fK,D.J 3 eW,B s] [D.J 4 fh,I g,I i,D.J 8 ((A.set a.toNat (aW (C++[(bh c d e b f)]) E F G H ah K L)).set a.toNat (aW S ([]++List.take (M.length-1) (List.drop 1 M)) ba V X Y Z dC)),D.J 6 N,D.J 5 Q,D.J 3 R,B q],aM.ro (ae a)] (aY.vals [aj true]):=
 h.cb
theorem atP(h:ad [.a .sub,.x L a (aW C E F G A H ah K),.a .sub,.x L a (aW C E F G A H ah K),.x A b [I d],.v (d+c),.x A b [I i],.e L a.toNat (aW C E F G A H ah K),.p (a.toNat=a.toNat),.p (a.toNat=a.toNat),.p (a.toNat=a.toNat),.p (a.toNat=a.toNat),.b r true,.a .sub,.p (0<=a),.p (a<(↑(L.set a.toNat (aW C E F G (A.set b.toNat [I (d+c)]) H ah K)).length:Int)),.e (L.set a.toNat (aW C E F G (A.set b.toNat [I (d+c)]) H ah K)) a.toNat (aW C E F G (A.set b.toNat [I (d+c)]) H ah K),.x (A.set b.toNat [I (d+c)]) b [I g],.r 168 [ae g,ae (-1000000),ae 1000000] [aj q]]):
 ca 259 [aM.ref [D.J 4 M,I e,I f,D.J 8 L,D.J 6 N,D.J 5 Q,D.J 3 R,B r] [D.J 4 M,I e,I f,D.J 8 (L.set a.toNat (aW C E F G (A.set b.toNat [I (d+c)]) H ah K)),D.J 6 N,D.J 5 Q,D.J 3 R,B q],aM.ro (ae a),aM.ro (ae b),aM.ro (ae c)] (aY.vals []):=
 h.cb
theorem atQ(h:ad (yx A a b c d e [.n q true])):
 ca 156 [aM.ref [D.J 4 A,I a,I b,D.J 8 C,D.J 6 E,D.J 5 F,D.J 3 G,B q] [D.J 4 A,I a,I b,D.J 8 C,D.J 6 E,D.J 5 F,D.J 3 G,B q],aM.ro (ae c),aM.ro (ae d)] (aY.vals [aj false]):=
 h.cb
theorem atS(h:ad (yx A a b d e c [.n q false,.b (decide (c<0)) true])):
 ca 156 [aM.ref [D.J 4 A,I a,I b,D.J 8 C,D.J 6 E,D.J 5 F,D.J 3 G,B q] [D.J 4 A,I a,I b,D.J 8 C,D.J 6 E,D.J 5 F,D.J 3 G,B q],aM.ro (ae d),aM.ro (ae e)] (aY.vals [aj false]):=
 h.cb
theorem atT(h:ad (yy A a b c d e q [.b (c==d) true])):
 ca 156 [aM.ref [D.J 4 A,I a,I b,D.J 8 C,D.J 6 E,D.J 5 F,D.J 3 G,B q] [D.J 4 A,I a,I b,D.J 8 C,D.J 6 E,D.J 5 F,D.J 3 G,B q],aM.ro (ae c),aM.ro (ae d)] (aY.vals [aj false]):=
 h.cb
theorem atU(h:ad (yy A a c d e b q [.b (d==e) false,.a .sub,.x C b (bY f E g i j k),.r 260 [.agg (bY f E g i j k)] [.agg (bY l ah m n o p),.agg (bh a0 b6 c5 d0 bE),aj r],.n r true])):
 ca 156 [aM.ref [D.J 4 A,I a,I c,D.J 8 F,D.J 6 C,D.J 5 G,D.J 3 H,B q] [D.J 4 A,I a,I c,D.J 8 F,D.J 6 C,D.J 5 G,D.J 3 H,B q],aM.ro (ae d),aM.ro (ae e)] (aY.vals [aj false]):=
 h.cb
theorem atV(h:ad (yy Q i o b6 a g r [.b (b6==a) false,.a .sub,.x M g (bY j R k l m n),.r 260 [.agg (bY j R k l m n)] [.agg (bY c5 eW d0 bE f0 i0),.agg (bh c b d e f),aj s],.n s false,.x M g (bY j R k l m n),.a .sub,.x A a (aW C E F G H ah K L),.g C [(bh c b d e f)] 40,.e A a.toNat (aW C E F G H ah K L),.p ((aW C E F G H ah K L)[0]?=some (D.J 5 C)),.h [(bh c b d e f)],.p (A=A),.p (A=A),.p (A=A),.p (A=A),.p (A=A),.p (a.toNat=a.toNat),.p (C=C),.x A a (aW C E F G H ah K L),.a .sub,.p (a.toNat=a.toNat),.p (0<=a),.p (a<(↑(A.set a.toNat (aW (C++[(bh c b d e f)]) E F G H ah K L)).length:Int)),.e (A.set a.toNat (aW (C++[(bh c b d e f)]) E F G H ah K L)) a.toNat (aW S ba V X Y N Z dC),.x N b [B t],.e (A.set a.toNat (aW (C++[(bh c b d e f)]) E F G H ah K L)) a.toNat (aW S ba V X Y N Z dC),.a (.dN [some [D.J 4 fh,I p,I a0,D.J 8 fu,D.J 6 fI,D.J 5 fJ,D.J 3 fK,B q],none,none,none] (aY.vals [])),.p (a.toNat=a.toNat),.p (a.toNat=a.toNat),.p (b2 prog 259 [aM.ref [D.J 4 Q,I i,I o,D.J 8 ((A.set a.toNat (aW (C++[(bh c b d e f)]) E F G H ah K L)).set a.toNat (aW S ba V X Y (N.set b.toNat [B true]) Z dC)),D.J 6 (M.set g.toNat (bY c5 eW d0 bE f0 i0)),D.J 5 kg,D.J 3 kX,B r] [D.J 4 fh,I p,I a0,D.J 8 fu,D.J 6 fI,D.J 5 fJ,D.J 3 fK,B q],aM.ro (ae a),aM.ro (ae b),aM.ro (ae (-1))] (aY.vals []))])):
 ca 156 [aM.ref [D.J 4 Q,I i,I o,D.J 8 A,D.J 6 M,D.J 5 kg,D.J 3 kX,B r] [D.J 4 fh,I p,I a0,D.J 8 fu,D.J 6 fI,D.J 5 fJ,D.J 3 fK,B q],aM.ro (ae b6),aM.ro (ae a)] (aY.vals [aj true]):=
 h.cb
theorem XF(h:ad (II G a b A C E F q r H c d ah K L M s e [.n r true])):
 ca 170 [aM.ref [D.J 4 H,I c,I d,D.J 8 ah,D.J 6 K,D.J 5 L,D.J 3 M,B s] [D.J 4 G,I a,I b,D.J 8 A,D.J 6 C,D.J 5 E,D.J 3 F,B q],aM.ro (ae e)] (aY.vals [aj false]):=
 h.cb
theorem atW(h:ad (Em G a b A C E F q r H d e K L M N s c Q ah R S ba V X Y [.b (decide ((ah.length:Int)>0)) true])):
 ca 170 [aM.ref [D.J 4 H,I d,I e,D.J 8 K,D.J 6 L,D.J 5 M,D.J 3 N,B s] [D.J 4 G,I a,I b,D.J 8 A,D.J 6 C,D.J 5 E,D.J 3 F,B q],aM.ro (ae c)] (aY.vals [aj false]):=
 h.cb
theorem atX(h:ad (En G a b A C E F q r H d e L M N Q s c ah K R S ba V X Y [.b ((ah.length:Int)==0) true])):
 ca 170 [aM.ref [D.J 4 H,I d,I e,D.J 8 L,D.J 6 M,D.J 5 N,D.J 3 Q,B s] [D.J 4 G,I a,I b,D.J 8 A,D.J 6 C,D.J 5 E,D.J 3 F,B q],aM.ro (ae c)] (aY.vals [aj false]):=
 h.cb
def abh(A:ag)(a b:Int)(C E F G:ag)(q r:Bool)(H:ag)(c d:Int)(ah K L M:ag)(s:Bool)(e:Int)(N P Q R S ba V X:ag)(f g i j k:Int)(Y Z:ag)(t u:Bool)(l:List O):List O:=En A a b C E F G q r H c d ah K L M s e N P Q R S ba V X (.b ((N.length:Int)==0) false::.p ((0:Int)<=0)::.p (0<(N.length:Int))::.e N 0 (bh f g i j k)::.r 176 [.agg (br A a b),aO 4 R,.agg (bh f g i j k)] [aO 4 Y,aO 5 Z,aj t]::.p ((0:Int)<=(some (1:Int)).getD 0)::.p ((some (1:Int)).getD 0<=none.getD (N.length:Int))::.p (none.getD (N.length:Int)<=(N.length:Int))::.g ([]:ag) (List.take (N.length-1) (List.drop 1 N)) 40::.h (List.take (N.length-1) (List.drop 1 N))::.r 177 [.agg (br A a b),.agg (bh f g i j k)] [aj u]::l)
theorem atY(h:ad (abh M c d E N Q R q r S j k ba Y Z dC t a A F G H ah K C L e b f g i V X u s [.b s true,.x C b [B v],.e E a.toNat (aW A F G H ah K C L),.p (a.toNat=a.toNat),.p (a.toNat=a.toNat),.p (a.toNat=a.toNat),.p (a.toNat=a.toNat),.x (E.set a.toNat (aW A F G H ah K (C.set b.toNat [B true]) L)) a (aW A F G H ah K (C.set b.toNat [B true]) L),.p (a.toNat=a.toNat),.p (a.toNat=a.toNat),.p (a.toNat=a.toNat),.p (a.toNat=a.toNat),.p (a.toNat=a.toNat)])):
 ca 170 [aM.ref [D.J 4 S,I j,I k,D.J 8 ba,D.J 6 Y,D.J 5 Z,D.J 3 dC,B t] [D.J 4 M,I c,I d,D.J 8 ((E.set a.toNat (aW A F G H ah K (C.set b.toNat [B true]) L)).set a.toNat (aW ([]++List.take (A.length-1) (List.drop 1 A)) X G V ah K (C.set b.toNat [B true]) L)),D.J 6 N,D.J 5 Q,D.J 3 R,B q],aM.ro (ae a)] (aY.vals [aj true]):=
 h.cb
theorem atZ(h:ad (abh E b c C F G H q r S j k ba Y Z dC t a A ah K L M N Q R d e f g i V X u s [.b s false,.x C a (aW A ah K L M N Q R),.p (a.toNat=a.toNat),.p (a.toNat=a.toNat),.p (a.toNat=a.toNat),.p (a.toNat=a.toNat),.p (a.toNat=a.toNat)])):
 ca 170 [aM.ref [D.J 4 S,I j,I k,D.J 8 ba,D.J 6 Y,D.J 5 Z,D.J 3 dC,B t] [D.J 4 E,I b,I c,D.J 8 (C.set a.toNat (aW ([]++List.take (A.length-1) (List.drop 1 A)) X K V M N Q R)),D.J 6 F,D.J 5 G,D.J 3 H,B q],aM.ro (ae a)] (aY.vals [aj true]):=
 h.cb
theorem at0(h:ad [.b (e==1) true,.a (.dN [some [D.J 4 A,I a,I b,D.J 8 C,D.J 6 E,D.J 5 F,D.J 3 G,B q],none] (aY.vals [aj r])),.p (b2 prog 170 [aM.ref [D.J 4 H,I c,I d,D.J 8 ah,D.J 6 K,D.J 5 L,D.J 3 M,B s] [D.J 4 A,I a,I b,D.J 8 C,D.J 6 E,D.J 5 F,D.J 3 G,B q],aM.ro (ae f)] (aY.vals [aj r]))]):
 ca 128 [aM.ref [D.J 4 H,I c,I d,D.J 8 ah,D.J 6 K,D.J 5 L,D.J 3 M,B s] [D.J 4 A,I a,I b,D.J 8 C,D.J 6 E,D.J 5 F,D.J 3 G,B q],aM.ro (.agg [I e,I f,I g])] (aY.vals [aj r]):=
 h.cb
theorem at1(h:ad [.b (c==1) false,.b (c==2) true,.a (.dN [some [D.J 4 A,I a,I b,D.J 8 C,D.J 6 E,D.J 5 F,D.J 3 G,B q],none] (aY.vals [aj r])),.p (b2 prog 171 [aM.ref [D.J 4 H,I d,I e,D.J 8 ah,D.J 6 K,D.J 5 L,D.J 3 M,B s] [D.J 4 A,I a,I b,D.J 8 C,D.J 6 E,D.J 5 F,D.J 3 G,B q],aM.ro (ae f)] (aY.vals [aj r]))]):
 ca 128 [aM.ref [D.J 4 H,I d,I e,D.J 8 ah,D.J 6 K,D.J 5 L,D.J 3 M,B s] [D.J 4 A,I a,I b,D.J 8 C,D.J 6 E,D.J 5 F,D.J 3 G,B q],aM.ro (.agg [I c,I f,I g])] (aY.vals [aj r]):=
 h.cb
def abi(a:Int)(l:List O):List O:=.b (a==1) false::.b (a==2) false::l
theorem at2(h:ad (abi a [.b (a==3) true,.a (.dN [some [D.J 4 A,I b,I c,D.J 8 C,D.J 6 E,D.J 5 F,D.J 3 G,B q],none] (aY.vals [aj r])),.p (b2 prog 151 [aM.ref [D.J 4 H,I d,I e,D.J 8 ah,D.J 6 K,D.J 5 L,D.J 3 M,B s] [D.J 4 A,I b,I c,D.J 8 C,D.J 6 E,D.J 5 F,D.J 3 G,B q],aM.ro (ae f)] (aY.vals [aj r]))])):
 ca 128 [aM.ref [D.J 4 H,I d,I e,D.J 8 ah,D.J 6 K,D.J 5 L,D.J 3 M,B s] [D.J 4 A,I b,I c,D.J 8 C,D.J 6 E,D.J 5 F,D.J 3 G,B q],aM.ro (.agg [I a,I f,I g])] (aY.vals [aj r]):=
 h.cb
def Qy(a:Int)(l:List O):List O:=abi a (.b (a==3) false::l)
theorem at3(h:ad (Qy a [.b (a==4) true,.a (.dN [some [D.J 4 A,I b,I c,D.J 8 C,D.J 6 E,D.J 5 F,D.J 3 G,B q],none,none] (aY.vals [aj r])),.p (b2 prog 156 [aM.ref [D.J 4 H,I d,I f,D.J 8 ah,D.J 6 K,D.J 5 L,D.J 3 M,B s] [D.J 4 A,I b,I c,D.J 8 C,D.J 6 E,D.J 5 F,D.J 3 G,B q],aM.ro (ae g),aM.ro (ae e)] (aY.vals [aj r]))])):
 ca 128 [aM.ref [D.J 4 H,I d,I f,D.J 8 ah,D.J 6 K,D.J 5 L,D.J 3 M,B s] [D.J 4 A,I b,I c,D.J 8 C,D.J 6 E,D.J 5 F,D.J 3 G,B q],aM.ro (.agg [I a,I g,I e])] (aY.vals [aj r]):=
 h.cb
theorem at4(h:ad (Qy a [.b (a==4) false,.b (a==5) true,.a (.dN [some [D.J 4 A,I b,I c,D.J 8 C,D.J 6 E,D.J 5 F,D.J 3 G,B q],none,none] (aY.vals [aj r])),.p (b2 prog 158 [aM.ref [D.J 4 H,I d,I f,D.J 8 ah,D.J 6 K,D.J 5 L,D.J 3 M,B s] [D.J 4 A,I b,I c,D.J 8 C,D.J 6 E,D.J 5 F,D.J 3 G,B q],aM.ro (ae g),aM.ro (ae e)] (aY.vals [aj r]))])):
 ca 128 [aM.ref [D.J 4 H,I d,I f,D.J 8 ah,D.J 6 K,D.J 5 L,D.J 3 M,B s] [D.J 4 A,I b,I c,D.J 8 C,D.J 6 E,D.J 5 F,D.J 3 G,B q],aM.ro (.agg [I a,I g,I e])] (aY.vals [aj r]):=
 h.cb
def Qz(a:Int)(l:List O):List O:=Qy a (.b (a==4) false::.b (a==5) false::l)
theorem atu(h:ad (Qz a [.b (a==6) true,.a (.dN [some [D.J 4 A,I b,I c,D.J 8 C,D.J 6 E,D.J 5 F,D.J 3 G,B q],none] (aY.vals [aj r])),.p (b2 prog 246 [aM.ref [D.J 4 H,I d,I e,D.J 8 ah,D.J 6 K,D.J 5 L,D.J 3 M,B s] [D.J 4 A,I b,I c,D.J 8 C,D.J 6 E,D.J 5 F,D.J 3 G,B q],aM.ro (ae f)] (aY.vals [aj r]))])):
 ca 128 [aM.ref [D.J 4 H,I d,I e,D.J 8 ah,D.J 6 K,D.J 5 L,D.J 3 M,B s] [D.J 4 A,I b,I c,D.J 8 C,D.J 6 E,D.J 5 F,D.J 3 G,B q],aM.ro (.agg [I a,I f,I g])] (aY.vals [aj r]):=
 h.cb
theorem atv(h:ad (Qz a [.b (a==6) false,.b (a==7) true,.a (.dN [some [D.J 4 A,I b,I c,D.J 8 C,D.J 6 E,D.J 5 F,D.J 3 G,B q],none] (aY.vals [aj r])),.p (b2 prog 247 [aM.ref [D.J 4 H,I d,I e,D.J 8 ah,D.J 6 K,D.J 5 L,D.J 3 M,B s] [D.J 4 A,I b,I c,D.J 8 C,D.J 6 E,D.J 5 F,D.J 3 G,B q],aM.ro (ae f)] (aY.vals [aj r]))])):
 ca 128 [aM.ref [D.J 4 H,I d,I e,D.J 8 ah,D.J 6 K,D.J 5 L,D.J 3 M,B s] [D.J 4 A,I b,I c,D.J 8 C,D.J 6 E,D.J 5 F,D.J 3 G,B q],aM.ro (.agg [I a,I f,I g])] (aY.vals [aj r]):=
 h.cb
theorem atw(h:ad (Qz a [.b (a==6) false,.b (a==7) false])):
 ca 128 [aM.ref [D.J 4 A,I b,I c,D.J 8 C,D.J 6 E,D.J 5 F,D.J 3 G,B q] [D.J 4 A,I b,I c,D.J 8 C,D.J 6 E,D.J 5 F,D.J 3 G,B q],aM.ro (.agg [I a,I e,I d])] (aY.vals [aj false]):=
 h.cb
def xO(A:ag)(a b:Int)(C:ag)(c d:Int)(E F G H:ag)(q:Bool):aC:=bb 22 [(0,aR 1000000000),(1,.aG (.one (.dA 1000000200 3 A))),(5,aU b),(6,aU a)] [(1000000000,[aB 950001000 4 C,au c,au d,aB 950001003 8 E,aB 950001004 6 F,aB 950001005 5 G,aB 950001006 3 H,.bg q])]
theorem atx(h:ad (Qr H a g i j A c d C E F G q r ah e f K L M N s [.b r true,.u b,.u a])):
 aV (ap f131 0) (xO H a b ah e f K L M N s) .normal (xO H (a+1) (b+1) A c d C E F G q):=
 h.pf [(1000000001000000,950001000,4),(1000000001000003,950001003,8),(1000000001000004,950001004,6),(1000000001000005,950001005,5),(1000000001000006,950001006,3)] [6,1,0,5] [1000000000]
theorem aty(h:ad (Qr H a g i j A b c C E F G q r ah e f K L M N s [.b r false,.u a])):
 aV (ap f131 0) (xO H a d ah e f K L M N s) .normal (xO H (a+1) d A b c C E F G q):=
 h.pf [(1000000001000000,950001000,4),(1000000001000003,950001003,8),(1000000001000004,950001004,6),(1000000001000005,950001005,5),(1000000001000006,950001006,3)] [6,1,0,5] [1000000000]
def XG(a:Int)(A:ag)(b c:Int)(C E F G:ag)(q:Bool):aC:=bb 22 [(0,aR 1000000000),(5,aU a)] [(1000000000,[aB 950001000 4 A,au b,au c,aB 950001003 8 C,aB 950001004 6 E,aB 950001005 5 F,aB 950001006 3 G,.bg q])]
theorem atz(h:ad [.f H d false]):
 aV (ap f131 0) (xO H d a A b c C E F G q) (.exit 0) (XG a A b c C E F G q):=
 h.aS [5,0] [1000000000]
theorem atA(h:ad [.l [(1000000001000000,950001000,4),(1000000001000003,950001003,8),(1000000001000004,950001004,6),(1000000001000005,950001005,5),(1000000001000006,950001006,3)] [6,1,0,5] [1000000000] (ap f131 0) (xO N 0 0 A a d ah K L M r) (.exit 0) (XG e C b c E F G H q)]):
 ca 131 [aM.ref [D.J 4 A,I a,I d,D.J 8 ah,D.J 6 K,D.J 5 L,D.J 3 M,B r] [D.J 4 C,I b,I c,D.J 8 E,D.J 6 F,D.J 5 G,D.J 3 H,B q],aM.ro (aO 3 N)] (aY.vals [ae e]):=
 h.cb
