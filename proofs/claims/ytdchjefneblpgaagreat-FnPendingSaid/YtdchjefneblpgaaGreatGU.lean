import Derived.Test.YtdchjefneblpgaaGreatGE
set_option linter.unusedVariables false
set_option linter.unusedSimpArgs false
namespace Go.Proofs.YtdchjefneblpgaaGreat
open Go.Sx Go.RowKit
variable {a b c d e f g i j k l m n o p a0 cf dg d0 bE f0 : Int} {A C E F G H aw K L M N Q R : ai} {q r s t u v w x y z ju jI jK t0 : Bool}
def Bo(A:ai)(a b:Int)(C E F G:ai)(c d:Int):aE:=bi 28 [(1,aS 1),(3,aZ d),(4,aZ c)] [(1,[.J .free 4 A,aq a,aq b,.J .free 8 C,.J .free 6 E,.J .free 5 F,.J .free 3 G])]
theorem aaW(h:ak [.i A a (cI o H c g i j),.a .wr,.x A a (cI k aw l d m n),.a .wr,.u a]):
 bb (az Tryz.f107 0) (Bo C b e E A F G a f) .normal (Bo C b e E A F G (a+1) (IntKind.i64.wrap (IntKind.i64.wrap (f+c)+d))):=
 h.a' [4,1,3] [1]
def RV(a:Int):aE:=bi 28 [(3,aZ a)] []
theorem aaX(h:ak [.f A a false]):
 bb (az Tryz.f107 0) (Bo C c d E A F G a b) (.exit 0) (RV b):=
 h.a' [3] []
theorem aaY(h:ak [.l [] [4,1,3] [1] (az Tryz.f107 0) (Bo A a b C E F G 0 0) (.exit 0) (RV c)]):
 aK 107 [.agg (cl A a b C E F G)] [al c]:=
 h.of
def Bp(A:ai)(a b:Int):aE:=bi 22 [(3,aZ b),(7,dX 6 A),(8,aZ (A.length:Int)),(9,aZ a)] []
theorem aaZ(h:ak [.i A a (cI g C b c e f),.a .wr,.a .wr,.u a]):
 bb (az Tryz.f106 0) (Bp A a d) .normal (Bp A (a+1) (IntKind.i64.wrap (d+IntKind.i64.wrap (b+c)))):=
 h.a' [9,8,7,3] []
def RW(a:Int):aE:=bi 22 [(3,aZ a)] []
theorem aa0(h:ak [.f A a false]):
 bb (az Tryz.f106 0) (Bp A a b) (.exit 0) (RW b):=
 h.a' [3] []
theorem aa1(h:ak [.l [] [9,8,7,3] [] (az Tryz.f106 0) (Bp A 0 0) (.exit 0) (RW a)]):
 aK 106 [.agg (cl C b c E A F G)] [al a]:=
 h.of
theorem aa2(h:ak [.b (decide (a<1)) true]):
 aK 245 [al b,al a] [al 0]:=
 h.of
theorem aa3(h:ak [.b (decide (a<1)) false,.p (a≠0),.b (decide (b.tmod a<0)) true,.v (b.tmod a+a)]):
 aK 245 [al b,al a] [al (b.tmod a+a)]:=
 h.of
theorem aa4(h:ak [.b (decide (a<1)) false,.p (a≠0),.b (decide (b.tmod a<0)) false]):
 aK 245 [al b,al a] [al (b.tmod a)]:=
 h.of
def uA(A:ai)(a:Int):aE:=bi 21 [(0,dX 4 A),(3,aZ a)] []
def Kd(q:Bool):aE:=bi 21 [(2,.aD (.one (.bg q)))] []
def VT(A:ai)(a b c d e f g i j k:Int)(l:List O):List O:=.f A a true::.v (a-1)::.p (0<=a-1)::.p (a-1<(A.length:Int))::.e A ((a-1).toNat) [I b,I c,I d,I e]::.x A a [I f,I g,I i,I j]::.r 307 [.agg [I b,I c,I d,I e],.agg [I f,I g,I i,I j]] [al k]::l
theorem aav(h:ak (VT A a c d e f g i j k b [.b (decide (b>=0)) true])):
 bb (az Tryz.f266 0) (uA A a) .ret (Kd false):=
 h.a' [2] []
theorem aaw(h:ak (VT A a c d e f g i j k b [.b (decide (b>=0)) false,.u a])):
 bb (az Tryz.f266 0) (uA A a) .normal (uA A (a+1)):=
 h.a' [3,0] []
def RX:aE:=bi 21 [] []
theorem aax(h:ak [.f A a false]):
 bb (az Tryz.f266 0) (uA A a) (.exit 0) RX:=
 h.a' [] []
theorem aay(h:ak [.l [] [3,0] [] (az Tryz.f266 0) (uA A 1) .ret (Kd q)]):
 aK 266 [a7 4 A] [aI q]:=
 h.of
theorem aaz(h:ak [.l [] [3,0] [] (az Tryz.f266 0) (uA A 1) (.exit 0) RX]):
 aK 266 [a7 4 A] [aI true]:=
 h.of
def uB(A:ai)(a b:Int)(C:ai)(c:Int):aE:=bi 29 [(1,dX 5 C),(2,aS 2),(5,aZ c)] [(2,[.J .free 4 A,aq a,aq b])]
def Es(q:Bool):aE:=bi 29 [(4,.aD (.one (.bg q)))] []
def Cg(A:ai)(a b c d e f:Int)(q:Bool)(l:List O):List O:=.i A a (bu b c d e f)::.r 122 [.agg (bu b c d e f)] [aI q]::l
theorem aaA(h:ak (Cg A a b c d e f q [.n q true])):
 bb (az Tryz.f192 0) (uB C g i A a) .ret (Es false):=
 h.a' [4] []
theorem aaB(h:ak (Cg A a c d e f g q [.n q false,.x A a (bu b j k l m),.b (decide (b>=(C.length:Int))) true])):
 bb (az Tryz.f192 0) (uB C i n A a) .ret (Es false):=
 h.a' [4] []
theorem aaC(h:ak (Cg A a e f g i j q [.n q false,.x A a (bu c k l m n),.b (decide (c>=(C.length:Int))) false,.u a])):
 bb (az Tryz.f192 0) (uB C b d A a) .normal (uB C b d A (a+1)):=
 h.a' [5,1,2] [2]
def RY:aE:=bi 29 [] []
theorem aaD(h:ak [.f A a false]):
 bb (az Tryz.f192 0) (uB C b c A a) (.exit 0) RY:=
 h.a' [] []
theorem aaE(h:ak [.l [] [5,1,2] [2] (az Tryz.f192 0) (uB A a b C 0) .ret (Es q)]):
 aK 192 [.agg (bS A a b),a7 5 C] [aI q]:=
 h.of
theorem ab7(h:ak [.l [] [5,1,2] [2] (az Tryz.f192 0) (uB A a b C 0) (.exit 0) RY]):
 aK 192 [.agg (bS A a b),a7 5 C] [aI true]:=
 h.of
def VV(A:ai)(a b:Int)(C:ai)(q:Bool)(l:List O):List O:=.r 192 [.agg (bS A a b),a7 5 C] [aI q]::l
theorem ab8(h:ak (VV A a b C q [.n q true])):
 aK 175 [.agg (bS A a b),.agg (bz C F G H aw K L E)] [aI false]:=
 h.of
def VW(A:ai)(a b:Int)(C:ai)(q:Bool)(E:ai)(r:Bool)(l:List O):List O:=VV A a b C q (.n q false::.r 192 [.agg (bS A a b),a7 5 E] [aI r]::l)
theorem ab9(h:ak (VW A a b C q E r [.n r true])):
 aK 175 [.agg (bS A a b),.agg (bz C E G H aw K L F)] [aI false]:=
 h.of
def VX(A:ai)(a b:Int)(C:ai)(q:Bool)(E:ai)(r:Bool)(F:ai)(s:Bool)(l:List O):List O:=VW A a b C q E r (.n r false::.r 192 [.agg (bS A a b),a7 5 F] [aI s]::l)
theorem aca(h:ak (VX A a b C q E r F s [.n s true])):
 aK 175 [.agg (bS A a b),.agg (bz C E F H aw K L G)] [aI false]:=
 h.of
def Mx(A:ai)(a b:Int)(C:ai)(q:Bool)(E:ai)(r:Bool)(F:ai)(s:Bool)(G:ai)(t:Bool)(l:List O):List O:=VX A a b C q E r F s (.n s false::.r 266 [a7 4 G] [aI t]::l)
theorem acb(h:ak (Mx A a b C q E r F s G t [.n t true])):
 aK 175 [.agg (bS A a b),.agg (bz C E F G aw K L H)] [aI false]:=
 h.of
theorem acd(h:ak (Mx A a b C q E r F s G t [.n t false,.b ((H.length:Int) != 4) true])):
 aK 175 [.agg (bS A a b),.agg (bz C E F G H K L aw)] [aI false]:=
 h.of
def VY(A:ai)(a b:Int)(C:ai)(q:Bool)(E:ai)(r:Bool)(F:ai)(s:Bool)(G:ai)(t:Bool)(H:ai)(l:List O):List O:=Mx A a b C q E r F s G t (.n t false::.b ((H.length:Int) != 4) false::l)
theorem ace(h:ak (VY A a b C q E r F s G t H [.b ((aw.length:Int) != 4) true])):
 aK 175 [.agg (bS A a b),.agg (bz C E F G H aw L K)] [aI false]:=
 h.of
def My(A:ai)(a b:Int)(C:ai)(q:Bool)(E:ai)(r:Bool)(F:ai)(s:Bool)(G:ai)(t:Bool)(H aw:ai)(l:List O):List O:=VY A a b C q E r F s G t H (.b ((aw.length:Int) != 4) false::l)
theorem acf(h:ak (My A a b C q E r F s G t H aw [.b ((K.length:Int) != 4) true])):
 aK 175 [.agg (bS A a b),.agg (bz C E F G H aw K L)] [aI false]:=
 h.of
def oF(A C E F G H aw K:ai)(a:Int):aE:=bi 147 [(3,aS 3),(5,aZ 4),(6,aZ a)] [(3,[.J .free 5 A,.J .free 5 C,.J .free 5 E,.J .free 4 F,.J .free 1 G,.J .free 1 H,.J .free 1 aw,.J .free 2 K])]
def Bq(q:Bool):aE:=bi 147 [(4,.aD (.one (.bg q)))] []
theorem acg(h:ak [.i A a (bu b c d e f),.b (b != 0) true]):
 bb (az Tryz.f175 0) (oF E F A G H aw K C a) .ret (Bq false):=
 h.a' [4] []
theorem ach(h:ak [.i A a (bu b d e f g),.b (b != 0) false,.x A a (bu i j c k l),.b (c != 0) true]):
 bb (az Tryz.f175 0) (oF E F A G H aw K C a) .ret (Bq false):=
 h.a' [4] []
def VU(A:ai)(a b c d e f g i j k m n o p ff fQ c1 d1 e1 f1 g1:Int)(l:List O):List O:=.i A a (bu b c d e f)::.b (b != 0) false::.x A a (bu g i j k m)::.b (j != 0) false::.b (decide (a>0)) true::.v (a-1)::.p (0<=a-1)::.p (a-1<(A.length:Int))::.e A ((a-1).toNat) (bu n o p ff fQ)::.x A a (bu c1 d1 e1 f1 g1)::l
theorem aci(h:ak (VU A a b f g i j k l c m n o d p a0 cf dg e d0 bE f0 [.b (decide (d>e)) true])):
 bb (az Tryz.f175 0) (oF E F A G H aw K C a) .ret (Bq false):=
 h.a' [4] []
theorem acj(h:ak (VU A a b f g i j k l c m n o d p a0 cf dg e d0 bE f0 [.b (decide (d>e)) false,.u a])):
 bb (az Tryz.f175 0) (oF E F A G H aw K C a) .normal (oF E F A G H aw K C (a+1)):=
 h.a' [6,3,5] [3]
theorem ack(h:ak [.i A a (bu b d e f g),.b (b != 0) false,.x A a (bu i j c k l),.b (c != 0) false,.b (decide (a>0)) false,.u a]):
 bb (az Tryz.f175 0) (oF E F A G H aw K C a) .normal (oF E F A G H aw K C (a+1)):=
 h.a' [6,3,5] [3]
def H6(A C E F G H aw K:ai):aE:=bi 147 [(3,aS 3),(5,aZ 4)] [(3,[.J .free 5 A,.J .free 5 C,.J .free 5 E,.J .free 4 F,.J .free 1 G,.J .free 1 H,.J .free 1 aw,.J .free 2 K])]
theorem acm(h:ak [.f A a false]):
 bb (az Tryz.f175 0) (oF E F A G H aw K C a) (.exit 0) (H6 E F A G H aw K C):=
 h.a' [5,3] [3]
theorem acn(h:ak (My A a b C q E r F s G t H aw [.b ((K.length:Int) != 4) false,.l [] [6,3,5] [3] (az Tryz.f175 0) (oF C E F G H aw K L 0) .ret (Bq u)])):
 aK 175 [.agg (bS A a b),.agg (bz C E F G H aw K L)] [aI u]:=
 h.of
def uC(A C E F G H aw K:ai)(a:Int):aE:=bi 147 [(3,aS 3),(5,aZ 4),(7,aZ a)] [(3,[.J .free 5 A,.J .free 5 C,.J .free 5 E,.J .free 4 F,.J .free 1 G,.J .free 1 H,.J .free 1 aw,.J .free 2 K])]
def Ke(q:Bool):aE:=bi 147 [(4,.aD (.one (.bg q)))] []
theorem aco(h:ak [.b (decide (a<4)) true,.x A a [I b],.r 168 [al b,al (-1000000),al 1000000] [aI q],.n q true]):
 bb (az Tryz.f175 1) (uC E F G H A aw K C a) .ret (Ke false):=
 h.a' [4] []
theorem acp(h:ak [.b (decide (a<4)) true,.x A a [I b],.r 168 [al b,al (-1000000),al 1000000] [aI q],.n q false,.u a]):
 bb (az Tryz.f175 1) (uC E F G H A aw K C a) .normal (uC E F G H A aw K C (a+1)):=
 h.a' [7,5,3] [3]
def Kf(A C E F G H aw K:ai):aE:=bi 147 [(3,aS 3)] [(3,[.J .free 5 A,.J .free 5 C,.J .free 5 E,.J .free 4 F,.J .free 1 G,.J .free 1 H,.J .free 1 aw,.J .free 2 K])]
theorem acq(h:ak [.b (decide (a<4)) false]):
 bb (az Tryz.f175 1) (uC C E F G H aw K A a) (.exit 2) (Kf C E F G H aw K A):=
 h.a' [3] [3]
def Mz(A:ai)(a b:Int)(C:ai)(q:Bool)(E:ai)(r:Bool)(F:ai)(s:Bool)(G:ai)(t:Bool)(H aw K:ai)(W:Code)(L:ai)(l:List O):List O:=My A a b C q E r F s G t H aw (.b ((K.length:Int) != 4) false::.l [] [6,3,5] [3] W (oF C E F G H aw K L 0) (.exit 0) (H6 C E F G H aw K L)::l)
theorem acr(h:ak (Mz K a b A q C r E s F t G H aw (az Tryz.f175 0) L [.l [] [7,5,3] [3] (az Tryz.f175 1) (uC A C E F G H aw L 0) .ret (Ke u)])):
 aK 175 [.agg (bS K a b),.agg (bz A C E F G H aw L)] [aI u]:=
 h.of
def rG(A C E F G H aw K:ai)(a:Int):aE:=bi 147 [(3,aS 3),(8,aZ a)] [(3,[.J .free 5 A,.J .free 5 C,.J .free 5 E,.J .free 4 F,.J .free 1 G,.J .free 1 H,.J .free 1 aw,.J .free 2 K])]
def Et(q:Bool):aE:=bi 147 [(4,.aD (.one (.bg q)))] []
theorem acs(h:ak [.i A a [I b,B r],.r 168 [al b,al 0,al 3] [aI q],.n q true]):
 bb (az Tryz.f175 2) (rG C E F G H aw K A a) .ret (Et false):=
 h.a' [4] []
def s3(A C E F G H aw K:ai)(a b:Int):aE:=bi 147 [(3,aS 3),(8,aZ a),(9,aZ b)] [(3,[.J .free 5 A,.J .free 5 C,.J .free 5 E,.J .free 4 F,.J .free 1 G,.J .free 1 H,.J .free 1 aw,.J .free 2 K])]
def Eu(q:Bool):aE:=bi 147 [(4,.aD (.one (.bg q)))] []
theorem acu(h:ak [.b (decide (b<a)) true,.x A b [I c,B q],.x A a [I d,B r],.b (c==d) true]):
 bb (az Tryz.f175 3) (s3 C E F G H aw K A a b) .ret (Eu false):=
 h.a' [4] []
theorem acv(h:ak [.b (decide (a<b)) true,.x A a [I c,B q],.x A b [I d,B r],.b (c==d) false,.u a]):
 bb (az Tryz.f175 3) (s3 C E F G H aw K A b a) .normal (s3 C E F G H aw K A b (a+1)):=
 h.a' [9,8,3] [3]
def Kg(A C E F G H aw K:ai)(a:Int):aE:=bi 147 [(3,aS 3),(8,aZ a)] [(3,[.J .free 5 A,.J .free 5 C,.J .free 5 E,.J .free 4 F,.J .free 1 G,.J .free 1 H,.J .free 1 aw,.J .free 2 K])]
theorem acw(h:ak [.b (decide (b<a)) false]):
 bb (az Tryz.f175 3) (s3 C E F G H aw K A a b) (.exit 6) (Kg C E F G H aw K A a):=
 h.a' [8,3] [3]
theorem acx(h:ak [.i A a [I b,B s],.r 168 [al b,al 0,al 3] [aI q],.n q false,.l [] [9,8,3] [3] (az Tryz.f175 3) (s3 C E F G H aw K A a 0) .ret (Eu r)]):
 bb (az Tryz.f175 2) (rG C E F G H aw K A a) .ret (Et r):=
 h.a' [4] []
theorem acy(h:ak [.i A a [I b,B r],.r 168 [al b,al 0,al 3] [aI q],.n q false,.l [] [9,8,3] [3] (az Tryz.f175 3) (s3 C E F G H aw K A a 0) (.exit 6) (Kg C E F G H aw K A a),.u a]):
 bb (az Tryz.f175 2) (rG C E F G H aw K A a) .normal (rG C E F G H aw K A (a+1)):=
 h.a' [8,3] [3]
def Kh:aE:=bi 147 [] []
theorem acz(h:ak [.f A a false]):
 bb (az Tryz.f175 2) (rG C E F G H aw K A a) (.exit 4) Kh:=
 h.a' [] []
theorem abH(h:ak (Mz L a b A q C r E s F t G H aw (az Tryz.f175 0) K [.l [] [7,5,3] [3] (az Tryz.f175 1) (uC A C E F G H aw K 0) (.exit 2) (Kf A C E F G H aw K),.l [] [8,3] [3] (az Tryz.f175 2) (rG A C E F G H aw K 0) .ret (Et u)])):
 aK 175 [.agg (bS L a b),.agg (bz A C E F G H aw K)] [aI u]:=
 h.of
theorem abI(h:ak (Mz L a b A q C r E s F t G H aw (az Tryz.f175 0) K [.l [] [7,5,3] [3] (az Tryz.f175 1) (uC A C E F G H aw K 0) (.exit 2) (Kf A C E F G H aw K),.l [] [8,3] [3] (az Tryz.f175 2) (rG A C E F G H aw K 0) (.exit 4) Kh])):
 aK 175 [.agg (bS L a b),.agg (bz A C E F G H aw K)] [aI true]:=
 h.of
def vT(a:Int)(A:ai)(b c d e f:Int):aE:=bi 70 [(1,aS 1),(3,aZ f)] [(1,[aq a,.J .free 5 A,aq b,aq c,aq d,aq e])]
def Ki(q:Bool):aE:=bi 70 [(2,.aD (.one (.bg q)))] []
theorem abJ(h:ak (Cg A c d e f a b q [.n q true])):
 bb (az Tryz.f191 0) (vT g A i j k l c) .ret (Ki false):=
 h.a' [2] []
theorem abK(h:ak (Cg A a j k l c d q [.n q false,.u a])):
 bb (az Tryz.f191 0) (vT b A e f g i a) .normal (vT b A e f g i (a+1)):=
 h.a' [3,1] [1]
def OB(a:Int)(A:ai)(b c d e:Int):aE:=bi 70 [(1,aS 1)] [(1,[aq a,.J .free 5 A,aq b,aq c,aq d,aq e])]
theorem abL(h:ak [.f A f false]):
 bb (az Tryz.f191 0) (vT a A b c d e f) (.exit 0) (OB a A b c d e):=
 h.a' [1] [1]
theorem abM(h:ak [.l [] [3,1] [1] (az Tryz.f191 0) (vT a A b c d e 0) .ret (Ki q)]):
 aK 191 [.agg (cI a A b c d e)] [aI q]:=
 h.of
def VZ(W:Code)(a:Int)(A:ai)(b c d e:Int)(q:Bool)(l:List O):List O:=.l [] [3,1] [1] W (vT a A b c d e 0) (.exit 0) (OB a A b c d e)::.r 168 [al a,al 1,al 4] [aI q]::l
def V0(W:Code)(a:Int)(A:ai)(b c d e:Int)(q r:Bool)(l:List O):List O:=VZ W a A b c d e q (.b q true::.r 168 [al b,al 0,al a] [aI r]::l)
def V1(W:Code)(a:Int)(A:ai)(b c d e:Int)(q r s:Bool)(l:List O):List O:=V0 W a A b c d e q r (.b r true::.r 168 [al c,al 0,al a] [aI s]::l)
def VE(W:Code)(a:Int)(A:ai)(b c d e:Int)(q r s:Bool)(l:List O):List O:=V1 W a A b c d e q r s (.b s true::.v (b+c)::.v (b+c+(A.length:Int))::l)
def Mp(W:Code)(a:Int)(A:ai)(b c d e:Int)(q r s t:Bool)(l:List O):List O:=VE W a A b c d e q r s (.b (b+c+(A.length:Int)==a) true::.r 168 [al d,al 0,al 1000000000] [aI t]::l)
theorem abN(h:ak (Mp (az Tryz.f191 0) a A b c d e q r s t [.b t true,.v (d-(A.length:Int)),.b (e==d-(A.length:Int)) true])):
 aK 191 [.agg (cI a A b c d e)] [aI (decide (e>=0))]:=
 h.of
theorem abO(h:ak (Mp (az Tryz.f191 0) a A b c d e q r s t [.b t true,.v (d-(A.length:Int)),.b (e==d-(A.length:Int)) false])):
 aK 191 [.agg (cI a A b c d e)] [aI false]:=
 h.of
theorem abP(h:ak (Mp (az Tryz.f191 0) a A b c d e q r s t [.b t false])):
 aK 191 [.agg (cI a A b c d e)] [aI false]:=
 h.of
theorem abQ(h:ak (VE (az Tryz.f191 0) a A b c d e q r s [.b (b+c+(A.length:Int)==a) false])):
 aK 191 [.agg (cI a A b c d e)] [aI false]:=
 h.of
theorem abR(h:ak (V1 (az Tryz.f191 0) a A b c d e q r s [.b s false])):
 aK 191 [.agg (cI a A b c d e)] [aI false]:=
 h.of
theorem abS(h:ak (V0 (az Tryz.f191 0) a A b c d e q r [.b r false])):
 aK 191 [.agg (cI a A b c d e)] [aI false]:=
 h.of
theorem abT(h:ak (VZ (az Tryz.f191 0) a A b c d e q [.b q false])):
 aK 191 [.agg (cI a A b c d e)] [aI false]:=
 h.of
def Mq(A:ai)(a b:Int)(q:Bool)(l:List O):List O:=.r 121 [.agg (bS A a b)] [aI q]::l
theorem abU(h:ak (Mq A a b q [.n q true])):
 aK 56 [.agg (cl A a b C E F G)] [aI false]:=
 h.of
theorem abV(h:ak (Mq A a b q [.n q false,.b ((C.length:Int) != a) true])):
 aK 56 [.agg (cl A a b C E F G)] [aI false]:=
 h.of
def VF(A:ai)(a b:Int)(q:Bool)(C:ai)(l:List O):List O:=Mq A a b q (.n q false::.b ((C.length:Int) != a) false::.v (a*a)::l)
theorem abW(h:ak (VF A a b q C [.b ((E.length:Int) != a*a) true])):
 aK 56 [.agg (cl A a b C E F G)] [aI false]:=
 h.of
def VG(A:ai)(a b:Int)(q:Bool)(C E:ai)(l:List O):List O:=VF A a b q C (.b ((E.length:Int) != a*a) false::l)
theorem abX(h:ak (VG A a b q C E [.b ((F.length:Int) != 4) true])):
 aK 56 [.agg (cl A a b C E F G)] [aI false]:=
 h.of
def sR(A:ai)(a b:Int)(C E F G:ai)(c:Int):aE:=bi 170 [(1,aS 1),(3,aZ a),(4,aZ c)] [(1,[.J .free 4 A,aq a,aq b,.J .free 8 C,.J .free 6 E,.J .free 5 F,.J .free 3 G])]
def Ev(q:Bool):aE:=bi 170 [(2,.aD (.one (.bg q)))] []
theorem abY(h:ak [.b (decide (b<a)) true,.x L b (bz M C E F G H aw K),.r 175 [.agg (bS A a c),.agg (bz M C E F G H aw K)] [aI q],.n q true]):
 bb (az Tryz.f56 0) (sR A a c L N Q R b) .ret (Ev false):=
 h.a' [2] []
theorem abZ(h:ak [.b (decide (a<b)) true,.x C a (bz R E F G H aw K L),.r 175 [.agg (bS A b c),.agg (bz R E F G H aw K L)] [aI q],.n q false,.u a]):
 bb (az Tryz.f56 0) (sR A b c C M N Q a) .normal (sR A b c C M N Q (a+1)):=
 h.a' [4,3,1] [1]
def H5(A:ai)(a b:Int)(C E F G:ai):aE:=bi 170 [(1,aS 1),(3,aZ a)] [(1,[.J .free 4 A,aq a,aq b,.J .free 8 C,.J .free 6 E,.J .free 5 F,.J .free 3 G])]
theorem ab0(h:ak [.b (decide (c<a)) false]):
 bb (az Tryz.f56 0) (sR A a b C E F G c) (.exit 0) (H5 A a b C E F G):=
 h.a' [1,3] [1]
def VH(A:ai)(a b:Int)(q:Bool)(C E F:ai)(l:List O):List O:=VG A a b q C E (.b ((F.length:Int) != 4) false::l)
theorem ab1(h:ak (VH A a b q C E F [.l [] [4,3,1] [1] (az Tryz.f56 0) (sR A a b C E F G 0) .ret (Ev r)])):
 aK 56 [.agg (cl A a b C E F G)] [aI r]:=
 h.of
def l'(a b:Int)(A:ai)(c d:Int)(C E F G:ai):aE:=bi 170 [(1,aS 1),(3,aZ a),(5,aZ b)] [(1,[.J .free 4 A,aq c,aq d,.J .free 8 C,.J .free 6 E,.J .free 5 F,.J .free 3 G])]
def yM(q:Bool):aE:=bi 170 [(2,.aD (.one (.bg q)))] []
def Mw(A:ai)(a b:Int)(C:ai)(c d e f:Int)(q:Bool)(l:List O):List O:=.i A a (cI b C c d e f)::.r 191 [.agg (cI b C c d e f)] [aI q]::l
theorem ab2(h:ak (Mw A f a C b c d e q [.n q true])):
 bb (az Tryz.f56 1) (l' g f H i j E A F G) .ret (yM false):=
 h.a' [2] []
theorem ab3(h:ak (Mw A g a C c d e f q [.n q false,.b (a != b) true])):
 bb (az Tryz.f56 1) (l' i g H j b E A F G) .ret (yM false):=
 h.a' [2] []
def FL(A:ai)(a b:Int)(C:ai)(c d e f:Int)(q:Bool)(g:Int)(E:ai)(i:Int)(r:Bool)(l:List O):List O:=Mw A a b C c d e f q (.n q false::.b (b != g) false::.r 192 [.agg (bS E i g),a7 5 C] [aI r]::l)
theorem ab4(h:ak (FL C i b A d e f g q a E c r [.n r true])):
 bb (az Tryz.f56 1) (l' j i E c a F C G H) .ret (yM false):=
 h.a' [2] []
theorem ab5(h:ak (FL C b d A f g i j q c E e r [.n r false,.p (a≠0),.v (b.tdiv a),.p (a≠0),.b (b.tdiv a==b.tmod a) true,.b (decide ((A.length:Int)>0)) true])):
 bb (az Tryz.f56 1) (l' a b E e c F C G H) .ret (yM false):=
 h.a' [2] []
theorem ab6(h:ak (FL C b e A f g i j q c E d r [.n r false,.p (a≠0),.v (b.tdiv a),.p (a≠0),.b (b.tdiv a==b.tmod a) true,.b (decide ((A.length:Int)>0)) false,.u b])):
 bb (az Tryz.f56 1) (l' a b E d c F C G H) .normal (l' a (b+1) E d c F C G H):=
 h.a' [5,1,3] [1]
theorem abx(h:ak (FL A b e C f g i j q c E d r [.n r false,.p (a≠0),.v (b.tdiv a),.p (a≠0),.b (b.tdiv a==b.tmod a) false,.u b])):
 bb (az Tryz.f56 1) (l' a b E d c F A G H) .normal (l' a (b+1) E d c F A G H):=
 h.a' [5,1,3] [1]
def Br(a:Int)(A:ai)(b c:Int)(C E F G:ai):aE:=bi 170 [(1,aS 1),(3,aZ a)] [(1,[.J .free 4 A,aq b,aq c,.J .free 8 C,.J .free 6 E,.J .free 5 F,.J .free 3 G])]
theorem aby(h:ak [.f A d false]):
 bb (az Tryz.f56 1) (l' a d G b c C A E F) (.exit 2) (Br a G b c C A E F):=
 h.a' [1,3] [1]
def FE(A:ai)(a b:Int)(q:Bool)(C E F:ai)(W:Code)(G:ai)(l:List O):List O:=VH A a b q C E F (.l [] [4,3,1] [1] W (sR A a b C E F G 0) (.exit 0) (H5 A a b C E F G)::l)
theorem abz(h:ak (FE A a b q C E F (az Tryz.f56 0) G [.l [] [5,1,3] [1] (az Tryz.f56 1) (l' a 0 A a b C E F G) .ret (yM r)])):
 aK 56 [.agg (cl A a b C E F G)] [aI r]:=
 h.of
def mV(a:Int)(A:ai)(b c:Int)(C E F G:ai)(d:Int):aE:=bi 170 [(1,aS 1),(3,aZ a),(7,aZ d)] [(1,[.J .free 4 A,aq b,aq c,.J .free 8 C,.J .free 6 E,.J .free 5 F,.J .free 3 G])]
def v8(q:Bool):aE:=bi 170 [(2,.aD (.one (.bg q)))] []
def VI(A:ai)(a:Int)(q:Bool)(b c:Int)(r s:Bool)(d:Int)(t:Bool)(l:List O):List O:=.i A a [B q,I b,I c,B r,B s]::.v (d-1)::.r 168 [al b,al 0,al (d-1)] [aI t]::l
theorem abA(h:ak (VI A b r c e s t a q [.n q true])):
 bb (az Tryz.f56 2) (mV a G f d C E A F b) .ret (v8 false):=
 h.a' [2] []
def B'(A:ai)(a:Int)(q:Bool)(b c:Int)(r s:Bool)(d:Int)(t u:Bool)(e f:Int)(v w:Bool)(l:List O):List O:=VI A a q b c r s d t (.n t false::.x A a [B u,I e,I f,B v,B w]::l)
theorem abB(h:ak (B' A a s c f t u b q r g i v w [.n r true,.x A a [B x,I d,I j,B y,B z],.b (d != 0) true])):
 bb (az Tryz.f56 2) (mV b G k e C E A F a) .ret (v8 false):=
 h.a' [2] []
theorem abC(h:ak (B' A a t c g u v b q r i j w x [.n r true,.x A a [B y,I d,I k,B z,B ju],.b (d != 0) false,.x A a [B jI,I l,I e,B jK,B t0],.r 168 [al e,al (-1000000),al 1000000] [aI s],.n s true])):
 bb (az Tryz.f56 2) (mV b G m f C E A F a) .ret (v8 false):=
 h.a' [2] []
theorem abD(h:ak (B' A a t d i u v b q r j k w x [.n r true,.x A a [B y,I e,I l,B z,B ju],.b (e != 0) false,.x A a [B jI,I m,I f,B jK,B t0],.r 168 [al f,al (-1000000),al 1000000] [aI s],.n s false,.u a])):
 bb (az Tryz.f56 2) (mV b G g c C E A F a) .normal (mV b G g c C E A F (a+1)):=
 h.a' [7,1,3] [1]
theorem abE(h:ak (B' A a t c f u v b q r g i w x [.n r false,.x A a [B y,I j,I d,B z,B ju],.r 168 [al d,al (-1000000),al 1000000] [aI s],.n s true])):
 bb (az Tryz.f56 2) (mV b G k e C E A F a) .ret (v8 false):=
 h.a' [2] []
theorem abF(h:ak (B' A a t d g u v b q r i j w x [.n r false,.x A a [B y,I k,I e,B z,B ju],.r 168 [al e,al (-1000000),al 1000000] [aI s],.n s false,.u a])):
 bb (az Tryz.f56 2) (mV b G f c C E A F a) .normal (mV b G f c C E A F (a+1)):=
 h.a' [7,1,3] [1]
def Ew(a:Int)(A:ai)(b c:Int)(C E F G:ai):aE:=bi 170 [(1,aS 1),(3,aZ a)] [(1,[.J .free 4 A,aq b,aq c,.J .free 8 C,.J .free 6 E,.J .free 5 F,.J .free 3 G])]
theorem abG(h:ak [.f A c false]):
 bb (az Tryz.f56 2) (mV a G d b C E A F c) (.exit 4) (Ew a G d b C E A F):=
 h.a' [1,3] [1]
theorem ada(h:ak (FE A a b r C E F (az Tryz.f56 0) G [.l [] [5,1,3] [1] (az Tryz.f56 1) (l' a 0 A a b C E F G) (.exit 2) (Br a M d c H aw K L),.l [] [7,1,3] [1] (az Tryz.f56 2) (mV a M d c H aw K L 0) .ret (v8 q)])):
 aK 56 [.agg (cl A a b C E F G)] [aI q]:=
 h.of
def rH(a:Int)(A:ai)(b c:Int)(C E F G:ai)(d:Int):aE:=bi 170 [(1,aS 1),(3,aZ a),(8,aZ d)] [(1,[.J .free 4 A,aq b,aq c,.J .free 8 C,.J .free 6 E,.J .free 5 F,.J .free 3 G])]
def Bs(q:Bool):aE:=bi 170 [(2,.aD (.one (.bg q)))] []
theorem adb(h:ak [.i A b [I c,I e,B r],.v (a-1),.r 168 [al c,al 0,al (a-1)] [aI q],.n q true]):
 bb (az Tryz.f56 3) (rH a G f d C E F A b) .ret (Bs false):=
 h.a' [2] []
theorem ade(h:ak [.i A b [I c,I f,B s],.v (a-1),.r 168 [al c,al 0,al (a-1)] [aI q],.n q false,.x A b [I g,I d,B t],.r 168 [al d,al 0,al 3] [aI r],.n r true]):
 bb (az Tryz.f56 3) (rH a G i e C E F A b) .ret (Bs false):=
 h.a' [2] []
theorem adf(h:ak [.i A a [I d,I g,B s],.v (b-1),.r 168 [al d,al 0,al (b-1)] [aI q],.n q false,.x A a [I i,I e,B t],.r 168 [al e,al 0,al 3] [aI r],.n r false,.u a]):
 bb (az Tryz.f56 3) (rH b G f c C E F A a) .normal (rH b G f c C E F A (a+1)):=
 h.a' [8,1,3] [1]
def Kj:aE:=bi 170 [] []
theorem adg(h:ak [.f A a false]):
 bb (az Tryz.f56 3) (rH b G d c C E F A a) (.exit 6) Kj:=
 h.a' [] []
theorem adh(h:ak (FE A a b r C E F (az Tryz.f56 0) L [.l [] [5,1,3] [1] (az Tryz.f56 1) (l' a 0 A a b C E F L) (.exit 2) (Br a M d c G H aw K),.l [] [7,1,3] [1] (az Tryz.f56 2) (mV a M d c G H aw K 0) (.exit 4) (Ew a M d c G H aw K),.l [] [8,1,3] [1] (az Tryz.f56 3) (rH a M d c G H aw K 0) .ret (Bs q)])):
 aK 56 [.agg (cl A a b C E F L)] [aI q]:=
 h.of
theorem adi(h:ak (FE A a b q C E F (az Tryz.f56 0) L [.l [] [5,1,3] [1] (az Tryz.f56 1) (l' a 0 A a b C E F L) (.exit 2) (Br a M d c G H aw K),.l [] [7,1,3] [1] (az Tryz.f56 2) (mV a M d c G H aw K 0) (.exit 4) (Ew a M d c G H aw K),.l [] [8,1,3] [1] (az Tryz.f56 3) (rH a M d c G H aw K 0) (.exit 6) Kj])):
 aK 56 [.agg (cl A a b C E F L)] [aI true]:=
 h.of
