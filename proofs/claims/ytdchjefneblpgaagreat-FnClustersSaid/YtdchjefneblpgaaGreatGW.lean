import Derived.Test.YtdchjefneblpgaaGreatGE
set_option linter.unusedVariables false
set_option linter.unusedSimpArgs false
namespace Go.Proofs.YtdchjefneblpgaaGreat
open Go.Sx Go.RowKit Go.Proofs.Tryz
variable {a b c d e f g i j k l m n o p a0 b9 de d0 bM f0 g0 i0 j0 : Int} {A C E F G H au K L M N Q R S bz V X Y Z fw kY lP lR lS lT se vE vF xX xY tD tE tF : ah} {q r s t u v : Bool}
theorem apX(h:af [.b (decide ((if b<a then b else a)<0)) true]):
 aw 60 [.agg (bt A c d),ao a,ao b] [ao (-1)]:=
 h.of
theorem ao7(h:af [.b (decide ((if b<a then b else a)<0)) false,.b (decide ((if b>a then b else a)>=c)) true]):
 aw 60 [.agg (bt A c d),ao a,ao b] [ao (-1)]:=
 h.of
theorem ao8(h:af [.b (decide ((if b<a then b else a)<0)) false,.b (decide ((if b>a then b else a)>=c)) false,.v (a*c),.v (a*c+b)]):
 aw 60 [.agg (bt A c d),ao a,ao b] [ao (a*c+b)]:=
 h.of
end Go.Proofs.YtdchjefneblpgaaGreat
namespace Go.Proofs.YtdchjefneblpgaaGreat
open Go.Sx Go.RowKit Go.Proofs.Tryz
variable {a b c d e f g i j k l m n o p a0 b9 de d0 bM f0 g0 i0 j0 : Int} {A C E F G H au K L M N Q R S bz V X Y Z fw kY lP lR lS lT se vE vF xX xY tD tE tF : ah} {q r s t u v : Bool}
def qV(a:Int)(A:ah)(b c d e f:Int)(C:ah)(g i j k:Int)(q:Bool)(l:List O):List O:=.r 279 [.agg (b5 a A b c d e)] [.agg (b5 f C g i j k)]::.r 191 [.agg (b5 f C g i j k)] [al q]::l
theorem ao9(h:af (qV f C g i j k c A d e a b q [.n q true])):
 aw 261 [.agg (b5 f C g i j k)] [.agg (b5 c A d e a b),al false]:=
 h.of
theorem apa(h:af (qV f C g i j k d A e a b c q [.n q false,.b (a==0) true])):
 aw 261 [.agg (b5 f C g i j k)] [.agg (b5 d A e a b c),al false]:=
 h.of
theorem apb(h:af (qV f C g i j k e A b a c d q [.n q false,.b (a==0) false,.v (a-1),.u b])):
 aw 261 [.agg (b5 f C g i j k)] [.agg (b5 e A (b+1) (a-1) c d),al true]:=
 h.of
def uS(A:ah)(a d:Int)(C:ah)(e f:Int)(E F G H:ah)(q:Bool)(b c:Int):aF:=bf 34 [(1,a1 a),(4,aT 4),(6,aT 10),(7,aJ.aI (bC.one (aD 130000 3 A))),(8,a1 d)] [(10,[aD 900011000 4 C,ay e,ay f,aD 900011003 8 E,aD 900011004 6 F,aD 900011005 5 G,aD 900011006 3 H,.bc q]),(4,[.v (aO),ay b,ay c,.v (aO),.v (aO),.v (aO),.v (aO)])]
def Nz(a:Int)(A:ah)(b c:Int)(C E F G:ah):aF:=bf 34 [(4,aT 4),(5,a1 a)] [(4,[aD 235000 4 A,ay b,ay c,aD 235003 8 C,aD 235004 6 E,aD 235005 5 F,aD 235006 3 G])]
def Zf(a b:Int)(A:ah)(c d:Int)(C E F G:ah)(q:Bool)(e:Int)(H:ah)(f g:Int)(au K L M:ah)(r:Bool)(N:ah)(l:List O):List O:=.b (decide (a<=b)) true::.a (.dm [some [D.J 4 A,I c,I d,D.J 8 C,D.J 6 E,D.J 5 F,D.J 3 G,B q],none] (aV.vals [ao e]))::.p (bZ prog 131 [aN.ref [D.J 4 H,I f,I g,D.J 8 au,D.J 6 K,D.J 5 L,D.J 3 M,B r] [D.J 4 A,I c,I d,D.J 8 C,D.J 6 E,D.J 5 F,D.J 3 G,B q],aN.ro (aM 3 N)] (aV.vals [ao e]))::l
theorem apc(h:af (Zf a e A b c C E F G r d au f g K L M N q H [.b (d==0) true])):
 aY (aq f16 0) (uS H e a au f g K L M N q i j) .ret (Nz a A b c C E F G):=
 h.aW [4,5] [4]
theorem Xm(h:af (Zf a b C c d E F G H q e au f g K L M N r A [.b (e==0) false,.u a])):
 aY (aq f16 0) (uS A b a au f g K L M N r i j) .normal (uS A b (a+1) C c d E F G H q i j):=
 h.qp [(11000000,900011000,4),(11000003,900011003,8),(11000004,900011004,6),(11000005,900011005,5),(11000006,900011006,3)] [8,1,6,7,4] [10,4]
def NA(a:Int)(A:ah)(c d:Int)(C E F G:ah)(q:Bool)(e b:Int):aF:=bf 34 [(1,a1 a),(4,aT 4),(6,aT 10)] [(10,[aD 900011000 4 A,ay c,ay d,aD 900011003 8 C,aD 900011004 6 E,aD 900011005 5 F,aD 900011006 3 G,.bc q]),(4,[.v (aO),ay e,ay b,.v (aO),.v (aO),.v (aO),.v (aO)])]
theorem apd(h:af [.b (decide (b<=a)) false]):
 aY (aq f16 0) (uS H a b A c d C E F G q e f) (.exit 0) (NA a A c d C E F G q e f):=
 h.aW [6,1,4] [10,4]
def OQ(A:ah)(a b:Int)(C E F G:ah)(q:Bool)(H:ah)(c d:Int)(au K L M:ah)(l:List O):List O:=.a (.dm [none] (aV.new [D.J 4 A,I a,I b,D.J 8 C,D.J 6 E,D.J 5 F,D.J 3 G,B q]))::.p (bZ prog 127 [aN.ro (.agg (cl H c d au K L M))] (aV.new [D.J 4 A,I a,I b,D.J 8 C,D.J 6 E,D.J 5 F,D.J 3 G,B q]))::l
theorem ape(h:af (OQ M d b C E F G q A a c H au K L [.r 129 [.agg (cl A a c H au K L)] [aM 3 N],.r 130 [ao j,ao 0,ao 3000] [ao e],.l [(11000000,900011000,4),(11000003,900011003,8),(11000004,900011004,6),(11000005,900011005,5),(11000006,900011006,3)] [8,1,6,7,4] [10,4] (aq f16 0) (uS N e 1 M d b C E F G q 0 0) .ret (Nz f Q g i R S bz V)])):
 aw 16 [.agg (cl A a c H au K L),ao j] [.agg (cl Q g i R S bz V),ao f]:=
 h.of
theorem apf(h:af (OQ M e c C E F G q A b d H au K L [.r 129 [.agg (cl A b d H au K L)] [aM 3 N],.r 130 [ao i,ao 0,ao 3000] [ao a],.l [(11000000,900011000,4),(11000003,900011003,8),(11000004,900011004,6),(11000005,900011005,5),(11000006,900011006,3)] [8,1,6,7,4] [10,4] (aq f16 0) (uS N a 1 M e c C E F G q 0 0) (.exit 0) (NA a Q f g R S bz V r j k)])):
 aw 16 [.agg (cl A b d H au K L),ao i] [.agg (cl Q f g R S bz V),ao a]:=
 h.of
def Zg(a b:Int)(q:Bool)(l:List O):List O:=.a .wr::.r 168 [ao a,ao 0,ao (IntKind.i64.wrap (b-1))] [al q]::l
theorem NB(h:af (Zg b a q [.n q true])):
 aw 61 [.agg (bt A a c),ao b,ao d] [ao (-1)]:=
 h.of
def OR(a b:Int)(q:Bool)(c:Int)(r:Bool)(l:List O):List O:=Zg a b q (.n q false::.a .wr::.r 168 [ao c,ao 0,ao (IntKind.i64.wrap (b-1))] [al r]::l)
theorem NC(h:af (OR b a q c r [.n r true])):
 aw 61 [.agg (bt A a d),ao b,ao c] [ao (-1)]:=
 h.of
theorem apg(h:af (OR b a q c r [.n r false,.b (decide (a<1)) true])):
 aw 61 [.agg (bt A a d),ao b,ao c] [ao (-1)]:=
 h.of
theorem ND(h:af (OR b a q c r [.n r false,.b (decide (a<1)) false,.a .wr,.a .wr])):
 aw 61 [.agg (bt A a d),ao b,ao c] [ao (IntKind.i64.wrap (IntKind.i64.wrap (b*a)+c))]:=
 h.of
def zv(A:ah)(a:Int)(C E:ah)(d e:Int)(F G H au:ah)(q:Bool)(b c:Int):aF:=bf 32 [(1,cX 3 A),(4,aT 4),(6,aT 10),(7,aJ.aI (bC.one (aD 11 1 C))),(8,a1 a)] [(10,[aD 900011000 4 E,ay d,ay e,aD 900011003 8 F,aD 900011004 6 G,aD 900011005 5 H,aD 900011006 3 au,.bc q]),(4,[.v (aO),ay b,ay c,.v (aO),.v (aO),.v (aO),.v (aO)])]
def OS(A:ah)(a b c d:Int)(C:ah)(e f:Int)(E F G H:ah)(q r:Bool)(au:ah)(g i:Int)(K L M N:ah)(s:Bool)(l:List O):List O:=.i A a [I b,I c,I d]::.a (.dm [some [D.J 4 C,I e,I f,D.J 8 E,D.J 6 F,D.J 5 G,D.J 3 H,B q],none] (aV.vals [al r]))::.p (bZ prog 128 [aN.ref [D.J 4 au,I g,I i,D.J 8 K,D.J 6 L,D.J 5 M,D.J 3 N,B s] [D.J 4 C,I e,I f,D.J 8 E,D.J 6 F,D.J 5 G,D.J 3 H,B q],aN.ro (.agg [I b,I c,I d])] (aV.vals [al r]))::l
theorem aph(h:af (OS au a i j k C b c E F G H r q K d e L M N Q s [.g A [[B q]] 1,.h [[B q]],.u a])):
 aY (aq f15 0) (zv au a A K d e L M N Q s f g) .normal (zv au (a+1) (A++[[B q]]) C b c E F G H r f g):=
 h.qp [(11000000,900011000,4),(11000003,900011003,8),(11000004,900011004,6),(11000005,900011005,5),(11000006,900011006,3)] [8,1,7,6,4] [10,4]
def NE(A C:ah)(b c:Int)(E F G H:ah)(q:Bool)(d a:Int):aF:=bf 32 [(4,aT 4),(6,aT 10),(7,aJ.aI (bC.one (aD 11 1 A)))] [(10,[aD 900011000 4 C,ay b,ay c,aD 900011003 8 E,aD 900011004 6 F,aD 900011005 5 G,aD 900011006 3 H,.bc q]),(4,[.v (aO),ay d,ay a,.v (aO),.v (aO),.v (aO),.v (aO)])]
theorem api(h:af [.f au a false]):
 aY (aq f15 0) (zv au a A C b c E F G H q d e) (.exit 0) (NE A C b c E F G H q d e):=
 h.aW [6,7,4] [10,4]
theorem apj(h:af (OQ G b a A C E F q H c f R S bz V [.l [(11000000,900011000,4),(11000003,900011003,8),(11000004,900011004,6),(11000005,900011005,5),(11000006,900011006,3)] [8,1,7,6,4] [10,4] (aq f15 0) (zv X 0 [] G b a A C E F q 0 0) (.exit 0) (NE au K d e L M N Q r g i)])):
 aw 15 [.agg (cl H c f R S bz V),aM 3 X] [.agg (cl K d e L M N Q),aM 1 au]:=
 h.of
theorem apk(h:af (qV f C g i j k a A b c d e q [.n q true])):
 aw 258 [.agg (b5 f C g i j k),.agg (bx m n o p l)] [.agg (b5 a A b c d e),al false]:=
 h.of
theorem apl(h:af (qV f C i j k l a A b c d e q [.n q false,.r 122 [.agg (bx m n o p g)] [al r],.n r true])):
 aw 258 [.agg (b5 f C i j k l),.agg (bx m n o p g)] [.agg (b5 a A b c d e),al false]:=
 h.of
theorem apm(h:af (qV f C i j k l b A a c d e q [.n q false,.r 122 [.agg (bx m n o p g)] [al r],.n r false,.b (a==0) true])):
 aw 258 [.agg (b5 f C i j k l),.agg (bx m n o p g)] [.agg (b5 b A a c d e),al false]:=
 h.of
theorem apn(h:af (qV f C i j k l c A a d b e q [.n q false,.r 122 [.agg (bx m n o p g)] [al r],.n r false,.b (a==0) false,.b (decide (b>=1000000000)) true])):
 aw 258 [.agg (b5 f C i j k l),.agg (bx m n o p g)] [.agg (b5 c A a d b e),al false]:=
 h.of
theorem apo(h:af (qV l C m n o p i A b j c k q [.n q false,.r 122 [.agg (bx d e f g a)] [al r],.n r false,.b (b==0) false,.b (decide (c>=1000000000)) false,.g A [(bx d e f g a)] 40,.h [(bx d e f g a)],.v (b-1),.u c])):
 aw 258 [.agg (b5 l C m n o p),.agg (bx d e f g a)] [.agg (b5 i (A++[(bx d e f g a)]) (b-1) j (c+1) k),al true]:=
 h.of
theorem apq(h:af (qV f C g i j k c A d e a b q [.n q true])):
 aw 260 [.agg (b5 f C g i j k)] [.agg (b5 c A d e a b),.agg (bx 0 0 0 0 0),al false]:=
 h.of
theorem apr(h:af (qV f C g i j k c A d e a b q [.n q false,.b ((A.length:Int)==0) true])):
 aw 260 [.agg (b5 f C g i j k)] [.agg (b5 c A d e a b),.agg (bx 0 0 0 0 0),al false]:=
 h.of
theorem aps(h:af (qV f C m n o p d A e b c a q [.n q false,.b ((A.length:Int)==0) false,.p ((0:Int)<=0),.p (0<(A.length:Int)),.e A 0 (bx g i j k l),.p ((0:Int)<=(some (1:Int)).getD 0),.p ((some (1:Int)).getD 0<=none.getD (A.length:Int)),.p (none.getD (A.length:Int)<=(A.length:Int)),.g ([]:ah) (List.take (A.length-1) (List.drop 1 A)) 40,.h (List.take (A.length-1) (List.drop 1 A)),.u a,.u b])):
 aw 260 [.agg (b5 f C m n o p)] [.agg (b5 d ([]++List.take (A.length-1) (List.drop 1 A)) e (b+1) c (a+1)),.agg (bx g i j k l),al true]:=
 h.of
def CW(A:ah)(a b c d e:Int)(l:List O):List O:=.r 61 [.agg (bt A a b),ao c,ao d] [ao e]::l
theorem apt(h:af (CW A a b c d e [.n q true])):
 cc 158 [aN.ref [D.J 4 A,I a,I b,D.J 8 C,D.J 6 E,D.J 5 F,D.J 3 G,B q] [D.J 4 A,I a,I b,D.J 8 C,D.J 6 E,D.J 5 F,D.J 3 G,B q],aN.ro (ao c),aN.ro (ao d)] (aV.vals [al false]):=
 h.cd
theorem apu(h:af (CW A a b d e c [.n q false,.b (decide (c<0)) true])):
 cc 158 [aN.ref [D.J 4 A,I a,I b,D.J 8 C,D.J 6 E,D.J 5 F,D.J 3 G,B q] [D.J 4 A,I a,I b,D.J 8 C,D.J 6 E,D.J 5 F,D.J 3 G,B q],aN.ro (ao d),aN.ro (ao e)] (aV.vals [al false]):=
 h.cd
def CX(A:ah)(a b c d e:Int)(q:Bool)(l:List O):List O:=CW A a b c d e (.n q false::.b (decide (e<0)) false::l)
theorem apv(h:af (CX A a b c d e q [.b (c==d) true])):
 cc 158 [aN.ref [D.J 4 A,I a,I b,D.J 8 C,D.J 6 E,D.J 5 F,D.J 3 G,B q] [D.J 4 A,I a,I b,D.J 8 C,D.J 6 E,D.J 5 F,D.J 3 G,B q],aN.ro (ao c),aN.ro (ao d)] (aV.vals [al false]):=
 h.cd
theorem apw(h:af (CX C b i j k a q [.b (j==k) false,.a .sub,.x A a (b5 c E d e f g),.r 261 [.agg (b5 c E d e f g)] [.agg (b5 l F m n o p),al r],.x A a (b5 c E d e f g)])):
 cc 158 [aN.ref [D.J 4 C,I b,I i,D.J 8 G,D.J 6 A,D.J 5 H,D.J 3 au,B q] [D.J 4 C,I b,I i,D.J 8 G,D.J 6 (A.set a.toNat (b5 l F m n o p)),D.J 5 H,D.J 3 au,B q],aN.ro (ao j),aN.ro (ao k)] (aV.vals [al r]):=
 h.cd
def GZ(A:ah)(a b:Int)(C E F G:ah)(q r:Bool)(H:ah)(c d:Int)(au K L M:ah)(s:Bool)(e:Int)(l:List O):List O:=.a (.dm [some [D.J 4 A,I a,I b,D.J 8 C,D.J 6 E,D.J 5 F,D.J 3 G,B q],none] (aV.vals [al r]))::.p (bZ prog 257 [aN.ref [D.J 4 H,I c,I d,D.J 8 au,D.J 6 K,D.J 5 L,D.J 3 M,B s] [D.J 4 A,I a,I b,D.J 8 C,D.J 6 E,D.J 5 F,D.J 3 G,B q],aN.ro (ao e)] (aV.vals [al r]))::l
theorem Xn(h:af (GZ G a b A C E F q r H c d au K L M s e [.n r true])):
 cc 171 [aN.ref [D.J 4 H,I c,I d,D.J 8 au,D.J 6 K,D.J 5 L,D.J 3 M,B s] [D.J 4 G,I a,I b,D.J 8 A,D.J 6 C,D.J 5 E,D.J 3 F,B q],aN.ro (ao e)] (aV.vals [al false]):=
 h.cd
def CY(A:ah)(a b:Int)(C E F G:ah)(q r:Bool)(H:ah)(c d:Int)(au K L M:ah)(s:Bool)(e:Int)(N P Q R S bz V X:ah)(l:List O):List O:=GZ A a b C E F G q r H c d au K L M s e (.n r false::.a .sub::.x C e (bj N P Q R S bz V X)::l)
theorem apx(h:af (CY G a b A C E F q r H d e K L M N s c Q au R S bz V X Y [.b (decide ((au.length:Int)>0)) true])):
 cc 171 [aN.ref [D.J 4 H,I d,I e,D.J 8 K,D.J 6 L,D.J 5 M,D.J 3 N,B s] [D.J 4 G,I a,I b,D.J 8 A,D.J 6 C,D.J 5 E,D.J 3 F,B q],aN.ro (ao c)] (aV.vals [al false]):=
 h.cd
def CZ(A:ah)(a b:Int)(C E F G:ah)(q r:Bool)(H:ah)(c d:Int)(au K L M:ah)(s:Bool)(e:Int)(N P Q R S bz V X:ah)(l:List O):List O:=CY A a b C E F G q r H c d au K L M s e N P Q R S bz V X (.b (decide ((P.length:Int)>0)) false::l)
theorem aoX(h:af (CZ G a b A C E F q r H d e L M N Q s c au K R S bz V X Y [.b (decide ((au.length:Int)>0)) true])):
 cc 171 [aN.ref [D.J 4 H,I d,I e,D.J 8 L,D.J 6 M,D.J 5 N,D.J 3 Q,B s] [D.J 4 G,I a,I b,D.J 8 A,D.J 6 C,D.J 5 E,D.J 3 F,B q],aN.ro (ao c)] (aV.vals [al false]):=
 h.cd
theorem aoY(h:af (CZ G a b A C E F q r H d e M N Q R s c au K L S bz V X Y [.b (decide ((au.length:Int)>0)) false,.b ((L.length:Int)==0) true])):
 cc 171 [aN.ref [D.J 4 H,I d,I e,D.J 8 M,D.J 6 N,D.J 5 Q,D.J 3 R,B s] [D.J 4 G,I a,I b,D.J 8 A,D.J 6 C,D.J 5 E,D.J 3 F,B q],aN.ro (ao c)] (aV.vals [al false]):=
 h.cd
theorem aoZ(h:af (CZ R b c C F G H q r S d e bz V X Y s a au E A K L M N Q [.b (decide ((au.length:Int)>0)) false,.b ((A.length:Int)==0) false,.p ((0:Int)<=0),.p (0<(A.length:Int)),.e A 0 (bx f g i j k),.p ((0:Int)<=(some (1:Int)).getD 0),.p ((some (1:Int)).getD 0<=none.getD (A.length:Int)),.p (none.getD (A.length:Int)<=(A.length:Int)),.g ([]:ah) (List.take (A.length-1) (List.drop 1 A)) 40,.h (List.take (A.length-1) (List.drop 1 A)),.x C a (bj au E A K L M N Q),.p (a.toNat=a.toNat),.p (a.toNat=a.toNat),.p (a.toNat=a.toNat),.p (a.toNat=a.toNat),.p (a.toNat=a.toNat),.p (a.toNat=a.toNat)])):
 cc 171 [aN.ref [D.J 4 S,I d,I e,D.J 8 bz,D.J 6 V,D.J 5 X,D.J 3 Y,B s] [D.J 4 R,I b,I c,D.J 8 (C.set a.toNat [D.J 5 [(bx f g i j k)],D.J 5 E,D.J 5 ([]++List.take (A.length-1) (List.drop 1 A)),D.J 4 K,D.J 1 L,D.J 1 M,D.J 1 N,D.J 2 Q]),D.J 6 F,D.J 5 G,D.J 3 H,B q],aN.ro (ao a)] (aV.vals [al true]):=
 h.cd
theorem Xo(h:af [.b q true,.v ((A.length:Int)-1),.r 168 [ao c,ao 0,ao ((A.length:Int)-1)] [al r]]):
 cc 257 [aN.ref [D.J 4 C,I a,I b,D.J 8 A,D.J 6 E,D.J 5 F,D.J 3 G,B q] [D.J 4 C,I a,I b,D.J 8 A,D.J 6 E,D.J 5 F,D.J 3 G,B q],aN.ro (ao c)] (aV.vals [al r]):=
 h.cd
theorem ao0(h:af [.b q false]):
 cc 257 [aN.ref [D.J 4 A,I a,I b,D.J 8 C,D.J 6 E,D.J 5 F,D.J 3 G,B q] [D.J 4 A,I a,I b,D.J 8 C,D.J 6 E,D.J 5 F,D.J 3 G,B q],aN.ro (ao c)] (aV.vals [al false]):=
 h.cd
theorem Xp(h:af (GZ G a b A C E F q r H c d au K L M s e [.n r true])):
 cc 151 [aN.ref [D.J 4 H,I c,I d,D.J 8 au,D.J 6 K,D.J 5 L,D.J 3 M,B s] [D.J 4 G,I a,I b,D.J 8 A,D.J 6 C,D.J 5 E,D.J 3 F,B q],aN.ro (ao e)] (aV.vals [al false]):=
 h.cd
theorem ao1(h:af (CY G a b A C E F q r H d e K L M N s c Q au R S bz V X Y [.b ((au.length:Int)==0) true])):
 cc 151 [aN.ref [D.J 4 H,I d,I e,D.J 8 K,D.J 6 L,D.J 5 M,D.J 3 N,B s] [D.J 4 G,I a,I b,D.J 8 A,D.J 6 C,D.J 5 E,D.J 3 F,B q],aN.ro (ao c)] (aV.vals [al false]):=
 h.cd
def OT(A:ah)(a b:Int)(C E F G:ah)(q r:Bool)(H:ah)(c d:Int)(au K L M:ah)(s:Bool)(e:Int)(N P Q R S bz V X:ah)(f g i j k m:Int)(l:List O):List O:=CY A a b C E F G q r H c d au K L M s e N P Q R S bz V X (.b ((P.length:Int)==0) false::.a .sub::.x C e (bj N P Q R S bz V X)::.p ((0:Int)<=0)::.p (0<(P.length:Int))::.e P 0 (bx f g i j k)::.r 245 [ao j,ao a] [ao m]::l)
theorem ao2(h:af (OT F b c A E G H q r au f g bz X Y Z t a K C L M N Q R S i j k d l e [.b (e != a) true,.r 61 [.agg (bt F b c),ao a,ao e] [ao m],.a .sub,.x E m (b5 n V o p a0 b9),.r 258 [.agg (b5 n V o p a0 b9),.agg (bx i j k d l)] [.agg (b5 de fw d0 bM f0 g0),al s],.n s true])):
 cc 151 [aN.ref [D.J 4 au,I f,I g,D.J 8 bz,D.J 6 X,D.J 5 Y,D.J 3 Z,B t] [D.J 4 F,I b,I c,D.J 8 A,D.J 6 E,D.J 5 G,D.J 3 H,B q],aN.ro (ao a)] (aV.vals [al false]):=
 h.cd
theorem ao3(h:af (OT H b c C E au K q r kY p a0 xX xY tE tF u a lP F lR lS lT se vE vF b9 e de f d0 g [.b (g != a) true,.r 61 [.agg (bt H b c),ao a,ao g] [ao d],.a .sub,.x E d (b5 i L j k l m),.r 258 [.agg (b5 i L j k l m),.agg (bx b9 e de f d0)] [.agg (b5 bM tD f0 g0 i0 j0),al t],.n t false,.x E d (b5 i L j k l m),.a (.dm [some [D.J 4 M,I n,I o,D.J 8 G,D.J 6 N,D.J 5 Q,D.J 3 R,B s],none,none,none] (aV.vals [])),.a .sub,.p (bZ prog 259 [aN.ref [D.J 4 H,I b,I c,D.J 8 C,D.J 6 (E.set d.toNat (b5 bM tD f0 g0 i0 j0)),D.J 5 au,D.J 3 K,B q] [D.J 4 M,I n,I o,D.J 8 G,D.J 6 N,D.J 5 Q,D.J 3 R,B s],aN.ro (ao a),aN.ro (ao e),aN.ro (ao 1)] (aV.vals [])),.x G a (bj S A bz V X Y Z fw),.p ((0:Int)<=(some (1:Int)).getD 0),.p ((some (1:Int)).getD 0<=none.getD (A.length:Int)),.p (none.getD (A.length:Int)<=(A.length:Int)),.g ([]:ah) (List.take (A.length-1) (List.drop 1 A)) 40,.h (List.take (A.length-1) (List.drop 1 A)),.x G a (bj S A bz V X Y Z fw)])):
 cc 151 [aN.ref [D.J 4 kY,I p,I a0,D.J 8 xX,D.J 6 xY,D.J 5 tE,D.J 3 tF,B u] [D.J 4 M,I n,I o,D.J 8 (G.set a.toNat (bj S ([]++List.take (A.length-1) (List.drop 1 A)) bz V X Y Z fw)),D.J 6 N,D.J 5 Q,D.J 3 R,B s],aN.ro (ao a)] (aV.vals [al true]):=
 h.cd
theorem ao4(h:af (OT kY g i A N Q R q r lP j k lR lS lT se s a C E F G H au K L c d e b f l [.b (l != a) false,.a .sub,.x A a (bj C E F G H au K L),.g C [(bx c d e b f)] 40,.e A a.toNat (bj C E F G H au K L),.p ((bj C E F G H au K L)[0]?=some (D.J 5 C)),.h [(bx c d e b f)],.p (A=A),.p (A=A),.p (A=A),.p (A=A),.p (A=A),.p (A=A),.p (A=A),.p (A=A),.p (A=A),.p (A=A),.p (A=A),.p (a.toNat=a.toNat),.p (C=C),.x A a (bj C E F G H au K L),.a .sub,.p (a.toNat=a.toNat),.p (0<=a),.p (a<(↑(A.set a.toNat (bj (C++[(bx c d e b f)]) E F G H au K L)).length:Int)),.e (A.set a.toNat (bj (C++[(bx c d e b f)]) E F G H au K L)) a.toNat (bj S M bz V X Y Z fw),.p ((0:Int)<=(some (1:Int)).getD 0),.p ((some (1:Int)).getD 0<=none.getD (M.length:Int)),.p (none.getD (M.length:Int)<=(M.length:Int)),.g ([]:ah) (List.take (M.length-1) (List.drop 1 M)) 40,.h (List.take (M.length-1) (List.drop 1 M)),.p (0<=a),.p (a<(↑(A.set a.toNat (bj (C++[(bx c d e b f)]) E F G H au K L)).length:Int)),.e (A.set a.toNat (bj (C++[(bx c d e b f)]) E F G H au K L)) a.toNat (bj S M bz V X Y Z fw)])):
 cc 151 [aN.ref [D.J 4 lP,I j,I k,D.J 8 lR,D.J 6 lS,D.J 5 lT,D.J 3 se,B s] [D.J 4 kY,I g,I i,D.J 8 ((A.set a.toNat (bj (C++[(bx c d e b f)]) E F G H au K L)).set a.toNat (bj S ([]++List.take (M.length-1) (List.drop 1 M)) bz V X Y Z fw)),D.J 6 N,D.J 5 Q,D.J 3 R,B q],aN.ro (ao a)] (aV.vals [al true]):=
 h.cd
theorem ao5(h:af [.a .sub,.x L a (bj C E F G A H au K),.a .sub,.x L a (bj C E F G A H au K),.x A b [I d],.v (d+c),.x A b [I i],.e L a.toNat (bj C E F G A H au K),.p (a.toNat=a.toNat),.p (a.toNat=a.toNat),.p (a.toNat=a.toNat),.p (a.toNat=a.toNat),.b r true,.a .sub,.p (0<=a),.p (a<(↑(L.set a.toNat (bj C E F G (A.set b.toNat [I (d+c)]) H au K)).length:Int)),.e (L.set a.toNat (bj C E F G (A.set b.toNat [I (d+c)]) H au K)) a.toNat (bj C E F G (A.set b.toNat [I (d+c)]) H au K),.x (A.set b.toNat [I (d+c)]) b [I g],.r 168 [ao g,ao (-1000000),ao 1000000] [al q]]):
 cc 259 [aN.ref [D.J 4 M,I e,I f,D.J 8 L,D.J 6 N,D.J 5 Q,D.J 3 R,B r] [D.J 4 M,I e,I f,D.J 8 (L.set a.toNat (bj C E F G (A.set b.toNat [I (d+c)]) H au K)),D.J 6 N,D.J 5 Q,D.J 3 R,B q],aN.ro (ao a),aN.ro (ao b),aN.ro (ao c)] (aV.vals []):=
 h.cd
theorem ao6(h:af (CW A a b c d e [.n q true])):
 cc 156 [aN.ref [D.J 4 A,I a,I b,D.J 8 C,D.J 6 E,D.J 5 F,D.J 3 G,B q] [D.J 4 A,I a,I b,D.J 8 C,D.J 6 E,D.J 5 F,D.J 3 G,B q],aN.ro (ao c),aN.ro (ao d)] (aV.vals [al false]):=
 h.cd
theorem aqy(h:af (CW A a b d e c [.n q false,.b (decide (c<0)) true])):
 cc 156 [aN.ref [D.J 4 A,I a,I b,D.J 8 C,D.J 6 E,D.J 5 F,D.J 3 G,B q] [D.J 4 A,I a,I b,D.J 8 C,D.J 6 E,D.J 5 F,D.J 3 G,B q],aN.ro (ao d),aN.ro (ao e)] (aV.vals [al false]):=
 h.cd
theorem aqz(h:af (CX A a b c d e q [.b (c==d) true])):
 cc 156 [aN.ref [D.J 4 A,I a,I b,D.J 8 C,D.J 6 E,D.J 5 F,D.J 3 G,B q] [D.J 4 A,I a,I b,D.J 8 C,D.J 6 E,D.J 5 F,D.J 3 G,B q],aN.ro (ao c),aN.ro (ao d)] (aV.vals [al false]):=
 h.cd
theorem aqA(h:af (CX A a c d e b q [.b (d==e) false,.a .sub,.x C b (b5 f E g i j k),.r 260 [.agg (b5 f E g i j k)] [.agg (b5 l au m n o p),.agg (bx a0 b9 de d0 bM),al r],.n r true])):
 cc 156 [aN.ref [D.J 4 A,I a,I c,D.J 8 F,D.J 6 C,D.J 5 G,D.J 3 H,B q] [D.J 4 A,I a,I c,D.J 8 F,D.J 6 C,D.J 5 G,D.J 3 H,B q],aN.ro (ao d),aN.ro (ao e)] (aV.vals [al false]):=
 h.cd
theorem aqB(h:af (CX Q i o b9 a g r [.b (b9==a) false,.a .sub,.x M g (b5 j R k l m n),.r 260 [.agg (b5 j R k l m n)] [.agg (b5 de se d0 bM f0 g0),.agg (bx c b d e f),al s],.n s false,.x M g (b5 j R k l m n),.a .sub,.x A a (bj C E F G H au K L),.g C [(bx c b d e f)] 40,.e A a.toNat (bj C E F G H au K L),.p ((bj C E F G H au K L)[0]?=some (D.J 5 C)),.h [(bx c b d e f)],.p (A=A),.p (A=A),.p (A=A),.p (A=A),.p (A=A),.p (a.toNat=a.toNat),.p (C=C),.x A a (bj C E F G H au K L),.a .sub,.p (a.toNat=a.toNat),.p (0<=a),.p (a<(↑(A.set a.toNat (bj (C++[(bx c b d e f)]) E F G H au K L)).length:Int)),.e (A.set a.toNat (bj (C++[(bx c b d e f)]) E F G H au K L)) a.toNat (bj S bz V X Y N Z fw),.x N b [B t],.e (A.set a.toNat (bj (C++[(bx c b d e f)]) E F G H au K L)) a.toNat (bj S bz V X Y N Z fw),.a (.dm [some [D.J 4 kY,I p,I a0,D.J 8 lP,D.J 6 lR,D.J 5 lS,D.J 3 lT,B q],none,none,none] (aV.vals [])),.p (a.toNat=a.toNat),.p (a.toNat=a.toNat),.p (bZ prog 259 [aN.ref [D.J 4 Q,I i,I o,D.J 8 ((A.set a.toNat (bj (C++[(bx c b d e f)]) E F G H au K L)).set a.toNat (bj S bz V X Y (N.set b.toNat [B true]) Z fw)),D.J 6 (M.set g.toNat (b5 de se d0 bM f0 g0)),D.J 5 vE,D.J 3 vF,B r] [D.J 4 kY,I p,I a0,D.J 8 lP,D.J 6 lR,D.J 5 lS,D.J 3 lT,B q],aN.ro (ao a),aN.ro (ao b),aN.ro (ao (-1))] (aV.vals []))])):
 cc 156 [aN.ref [D.J 4 Q,I i,I o,D.J 8 A,D.J 6 M,D.J 5 vE,D.J 3 vF,B r] [D.J 4 kY,I p,I a0,D.J 8 lP,D.J 6 lR,D.J 5 lS,D.J 3 lT,B q],aN.ro (ao b9),aN.ro (ao a)] (aV.vals [al true]):=
 h.cd
theorem Xq(h:af (GZ G a b A C E F q r H c d au K L M s e [.n r true])):
 cc 170 [aN.ref [D.J 4 H,I c,I d,D.J 8 au,D.J 6 K,D.J 5 L,D.J 3 M,B s] [D.J 4 G,I a,I b,D.J 8 A,D.J 6 C,D.J 5 E,D.J 3 F,B q],aN.ro (ao e)] (aV.vals [al false]):=
 h.cd
theorem aqC(h:af (CY G a b A C E F q r H d e K L M N s c Q au R S bz V X Y [.b (decide ((au.length:Int)>0)) true])):
 cc 170 [aN.ref [D.J 4 H,I d,I e,D.J 8 K,D.J 6 L,D.J 5 M,D.J 3 N,B s] [D.J 4 G,I a,I b,D.J 8 A,D.J 6 C,D.J 5 E,D.J 3 F,B q],aN.ro (ao c)] (aV.vals [al false]):=
 h.cd
theorem aqD(h:af (CZ G a b A C E F q r H d e L M N Q s c au K R S bz V X Y [.b ((au.length:Int)==0) true])):
 cc 170 [aN.ref [D.J 4 H,I d,I e,D.J 8 L,D.J 6 M,D.J 5 N,D.J 3 Q,B s] [D.J 4 G,I a,I b,D.J 8 A,D.J 6 C,D.J 5 E,D.J 3 F,B q],aN.ro (ao c)] (aV.vals [al false]):=
 h.cd
def Zh(A:ah)(a b:Int)(C E F G:ah)(q r:Bool)(H:ah)(c d:Int)(au K L M:ah)(s:Bool)(e:Int)(N P Q R S bz V X:ah)(f g i j k:Int)(Y Z:ah)(t u:Bool)(l:List O):List O:=CZ A a b C E F G q r H c d au K L M s e N P Q R S bz V X (.b ((N.length:Int)==0) false::.p ((0:Int)<=0)::.p (0<(N.length:Int))::.e N 0 (bx f g i j k)::.r 176 [.agg (bt A a b),aM 4 R,.agg (bx f g i j k)] [aM 4 Y,aM 5 Z,al t]::.p ((0:Int)<=(some (1:Int)).getD 0)::.p ((some (1:Int)).getD 0<=none.getD (N.length:Int))::.p (none.getD (N.length:Int)<=(N.length:Int))::.g ([]:ah) (List.take (N.length-1) (List.drop 1 N)) 40::.h (List.take (N.length-1) (List.drop 1 N))::.r 177 [.agg (bt A a b),.agg (bx f g i j k)] [al u]::l)
theorem aqE(h:af (Zh M c d E N Q R q r S j k bz Y Z fw t a A F G H au K C L e b f g i V X u s [.b s true,.x C b [B v],.e E a.toNat (bj A F G H au K C L),.p (a.toNat=a.toNat),.p (a.toNat=a.toNat),.p (a.toNat=a.toNat),.p (a.toNat=a.toNat),.x (E.set a.toNat (bj A F G H au K (C.set b.toNat [B true]) L)) a (bj A F G H au K (C.set b.toNat [B true]) L),.p (a.toNat=a.toNat),.p (a.toNat=a.toNat),.p (a.toNat=a.toNat),.p (a.toNat=a.toNat),.p (a.toNat=a.toNat)])):
 cc 170 [aN.ref [D.J 4 S,I j,I k,D.J 8 bz,D.J 6 Y,D.J 5 Z,D.J 3 fw,B t] [D.J 4 M,I c,I d,D.J 8 ((E.set a.toNat (bj A F G H au K (C.set b.toNat [B true]) L)).set a.toNat (bj ([]++List.take (A.length-1) (List.drop 1 A)) X G V au K (C.set b.toNat [B true]) L)),D.J 6 N,D.J 5 Q,D.J 3 R,B q],aN.ro (ao a)] (aV.vals [al true]):=
 h.cd
theorem aqF(h:af (Zh E b c C F G H q r S j k bz Y Z fw t a A au K L M N Q R d e f g i V X u s [.b s false,.x C a (bj A au K L M N Q R),.p (a.toNat=a.toNat),.p (a.toNat=a.toNat),.p (a.toNat=a.toNat),.p (a.toNat=a.toNat),.p (a.toNat=a.toNat)])):
 cc 170 [aN.ref [D.J 4 S,I j,I k,D.J 8 bz,D.J 6 Y,D.J 5 Z,D.J 3 fw,B t] [D.J 4 E,I b,I c,D.J 8 (C.set a.toNat (bj ([]++List.take (A.length-1) (List.drop 1 A)) X K V M N Q R)),D.J 6 F,D.J 5 G,D.J 3 H,B q],aN.ro (ao a)] (aV.vals [al true]):=
 h.cd
theorem aqG(h:af [.b (e==1) true,.a (.dm [some [D.J 4 A,I a,I b,D.J 8 C,D.J 6 E,D.J 5 F,D.J 3 G,B q],none] (aV.vals [al r])),.p (bZ prog 170 [aN.ref [D.J 4 H,I c,I d,D.J 8 au,D.J 6 K,D.J 5 L,D.J 3 M,B s] [D.J 4 A,I a,I b,D.J 8 C,D.J 6 E,D.J 5 F,D.J 3 G,B q],aN.ro (ao f)] (aV.vals [al r]))]):
 cc 128 [aN.ref [D.J 4 H,I c,I d,D.J 8 au,D.J 6 K,D.J 5 L,D.J 3 M,B s] [D.J 4 A,I a,I b,D.J 8 C,D.J 6 E,D.J 5 F,D.J 3 G,B q],aN.ro (.agg [I e,I f,I g])] (aV.vals [al r]):=
 h.cd
theorem aqH(h:af [.b (c==1) false,.b (c==2) true,.a (.dm [some [D.J 4 A,I a,I b,D.J 8 C,D.J 6 E,D.J 5 F,D.J 3 G,B q],none] (aV.vals [al r])),.p (bZ prog 171 [aN.ref [D.J 4 H,I d,I e,D.J 8 au,D.J 6 K,D.J 5 L,D.J 3 M,B s] [D.J 4 A,I a,I b,D.J 8 C,D.J 6 E,D.J 5 F,D.J 3 G,B q],aN.ro (ao f)] (aV.vals [al r]))]):
 cc 128 [aN.ref [D.J 4 H,I d,I e,D.J 8 au,D.J 6 K,D.J 5 L,D.J 3 M,B s] [D.J 4 A,I a,I b,D.J 8 C,D.J 6 E,D.J 5 F,D.J 3 G,B q],aN.ro (.agg [I c,I f,I g])] (aV.vals [al r]):=
 h.cd
def Zi(a:Int)(l:List O):List O:=.b (a==1) false::.b (a==2) false::l
theorem aqI(h:af (Zi a [.b (a==3) true,.a (.dm [some [D.J 4 A,I b,I c,D.J 8 C,D.J 6 E,D.J 5 F,D.J 3 G,B q],none] (aV.vals [al r])),.p (bZ prog 151 [aN.ref [D.J 4 H,I d,I e,D.J 8 au,D.J 6 K,D.J 5 L,D.J 3 M,B s] [D.J 4 A,I b,I c,D.J 8 C,D.J 6 E,D.J 5 F,D.J 3 G,B q],aN.ro (ao f)] (aV.vals [al r]))])):
 cc 128 [aN.ref [D.J 4 H,I d,I e,D.J 8 au,D.J 6 K,D.J 5 L,D.J 3 M,B s] [D.J 4 A,I b,I c,D.J 8 C,D.J 6 E,D.J 5 F,D.J 3 G,B q],aN.ro (.agg [I a,I f,I g])] (aV.vals [al r]):=
 h.cd
def OU(a:Int)(l:List O):List O:=Zi a (.b (a==3) false::l)
theorem aqJ(h:af (OU a [.b (a==4) true,.a (.dm [some [D.J 4 A,I b,I c,D.J 8 C,D.J 6 E,D.J 5 F,D.J 3 G,B q],none,none] (aV.vals [al r])),.p (bZ prog 156 [aN.ref [D.J 4 H,I d,I f,D.J 8 au,D.J 6 K,D.J 5 L,D.J 3 M,B s] [D.J 4 A,I b,I c,D.J 8 C,D.J 6 E,D.J 5 F,D.J 3 G,B q],aN.ro (ao g),aN.ro (ao e)] (aV.vals [al r]))])):
 cc 128 [aN.ref [D.J 4 H,I d,I f,D.J 8 au,D.J 6 K,D.J 5 L,D.J 3 M,B s] [D.J 4 A,I b,I c,D.J 8 C,D.J 6 E,D.J 5 F,D.J 3 G,B q],aN.ro (.agg [I a,I g,I e])] (aV.vals [al r]):=
 h.cd
theorem aqK(h:af (OU a [.b (a==4) false,.b (a==5) true,.a (.dm [some [D.J 4 A,I b,I c,D.J 8 C,D.J 6 E,D.J 5 F,D.J 3 G,B q],none,none] (aV.vals [al r])),.p (bZ prog 158 [aN.ref [D.J 4 H,I d,I f,D.J 8 au,D.J 6 K,D.J 5 L,D.J 3 M,B s] [D.J 4 A,I b,I c,D.J 8 C,D.J 6 E,D.J 5 F,D.J 3 G,B q],aN.ro (ao g),aN.ro (ao e)] (aV.vals [al r]))])):
 cc 128 [aN.ref [D.J 4 H,I d,I f,D.J 8 au,D.J 6 K,D.J 5 L,D.J 3 M,B s] [D.J 4 A,I b,I c,D.J 8 C,D.J 6 E,D.J 5 F,D.J 3 G,B q],aN.ro (.agg [I a,I g,I e])] (aV.vals [al r]):=
 h.cd
def OV(a:Int)(l:List O):List O:=OU a (.b (a==4) false::.b (a==5) false::l)
theorem aqL(h:af (OV a [.b (a==6) true,.a (.dm [some [D.J 4 A,I b,I c,D.J 8 C,D.J 6 E,D.J 5 F,D.J 3 G,B q],none] (aV.vals [al r])),.p (bZ prog 246 [aN.ref [D.J 4 H,I d,I e,D.J 8 au,D.J 6 K,D.J 5 L,D.J 3 M,B s] [D.J 4 A,I b,I c,D.J 8 C,D.J 6 E,D.J 5 F,D.J 3 G,B q],aN.ro (ao f)] (aV.vals [al r]))])):
 cc 128 [aN.ref [D.J 4 H,I d,I e,D.J 8 au,D.J 6 K,D.J 5 L,D.J 3 M,B s] [D.J 4 A,I b,I c,D.J 8 C,D.J 6 E,D.J 5 F,D.J 3 G,B q],aN.ro (.agg [I a,I f,I g])] (aV.vals [al r]):=
 h.cd
theorem aqM(h:af (OV a [.b (a==6) false,.b (a==7) true,.a (.dm [some [D.J 4 A,I b,I c,D.J 8 C,D.J 6 E,D.J 5 F,D.J 3 G,B q],none] (aV.vals [al r])),.p (bZ prog 247 [aN.ref [D.J 4 H,I d,I e,D.J 8 au,D.J 6 K,D.J 5 L,D.J 3 M,B s] [D.J 4 A,I b,I c,D.J 8 C,D.J 6 E,D.J 5 F,D.J 3 G,B q],aN.ro (ao f)] (aV.vals [al r]))])):
 cc 128 [aN.ref [D.J 4 H,I d,I e,D.J 8 au,D.J 6 K,D.J 5 L,D.J 3 M,B s] [D.J 4 A,I b,I c,D.J 8 C,D.J 6 E,D.J 5 F,D.J 3 G,B q],aN.ro (.agg [I a,I f,I g])] (aV.vals [al r]):=
 h.cd
theorem aqN(h:af (OV a [.b (a==6) false,.b (a==7) false])):
 cc 128 [aN.ref [D.J 4 A,I b,I c,D.J 8 C,D.J 6 E,D.J 5 F,D.J 3 G,B q] [D.J 4 A,I b,I c,D.J 8 C,D.J 6 E,D.J 5 F,D.J 3 G,B q],aN.ro (.agg [I a,I e,I d])] (aV.vals [al false]):=
 h.cd
def w9(A:ah)(a b:Int)(C:ah)(c d:Int)(E F G H:ah)(q:Bool):aF:=bf 22 [(0,aT 1000000000),(1,.aI (.one (.dx 1000000200 3 A))),(5,a1 b),(6,a1 a)] [(1000000000,[aD 950001000 4 C,ay c,ay d,aD 950001003 8 E,aD 950001004 6 F,aD 950001005 5 G,aD 950001006 3 H,.bc q])]
theorem aqO(h:af (OS H a g i j A c d C E F G q r au e f K L M N s [.b r true,.u b,.u a])):
 aY (aq f131 0) (w9 H a b au e f K L M N s) .normal (w9 H (a+1) (b+1) A c d C E F G q):=
 h.qp [(1000000001000000,950001000,4),(1000000001000003,950001003,8),(1000000001000004,950001004,6),(1000000001000005,950001005,5),(1000000001000006,950001006,3)] [6,1,0,5] [1000000000]
theorem aqP(h:af (OS H a g i j A b c C E F G q r au e f K L M N s [.b r false,.u a])):
 aY (aq f131 0) (w9 H a d au e f K L M N s) .normal (w9 H (a+1) d A b c C E F G q):=
 h.qp [(1000000001000000,950001000,4),(1000000001000003,950001003,8),(1000000001000004,950001004,6),(1000000001000005,950001005,5),(1000000001000006,950001006,3)] [6,1,0,5] [1000000000]
def WA(a:Int)(A:ah)(b c:Int)(C E F G:ah)(q:Bool):aF:=bf 22 [(0,aT 1000000000),(5,a1 a)] [(1000000000,[aD 950001000 4 A,ay b,ay c,aD 950001003 8 C,aD 950001004 6 E,aD 950001005 5 F,aD 950001006 3 G,.bc q])]
theorem aqQ(h:af [.f H d false]):
 aY (aq f131 0) (w9 H d a A b c C E F G q) (.exit 0) (WA a A b c C E F G q):=
 h.aW [5,0] [1000000000]
theorem aqR(h:af [.l [(1000000001000000,950001000,4),(1000000001000003,950001003,8),(1000000001000004,950001004,6),(1000000001000005,950001005,5),(1000000001000006,950001006,3)] [6,1,0,5] [1000000000] (aq f131 0) (w9 N 0 0 A a d au K L M r) (.exit 0) (WA e C b c E F G H q)]):
 cc 131 [aN.ref [D.J 4 A,I a,I d,D.J 8 au,D.J 6 K,D.J 5 L,D.J 3 M,B r] [D.J 4 C,I b,I c,D.J 8 E,D.J 6 F,D.J 5 G,D.J 3 H,B q],aN.ro (aM 3 N)] (aV.vals [ao e]):=
 h.cd
