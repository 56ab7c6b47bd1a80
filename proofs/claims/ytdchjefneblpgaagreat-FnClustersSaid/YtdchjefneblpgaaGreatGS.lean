import Derived.Test.YtdchjefneblpgaaGreatGE
set_option linter.unusedVariables false
set_option linter.unusedSimpArgs false
namespace Go.Proofs.YtdchjefneblpgaaGreat
open Go.Sx Go.RowKit
variable {a b c d e f g i j k l m n o : Int} {A C E F G : ah} {q r s t u v w : Bool}
def YL(A:ah)(a b c d e f:Int)(C:ah)(q:Bool)(g i j k:Int)(r:Bool)(l:List O):List O:=.r 249 [.agg (bt A a b),ao c] [.agg (bn d e f C),al q]::.r 270 [.agg [I g,I i]] [.agg [I j,I k],al r]::l
def CR(A:ah)(a b c d e f:Int)(C:ah)(q:Bool)(g i j k:Int)(r s:Bool)(l:List O):List O:=YL A a b c d e f C q g i j k r (.b q true::.r 121 [.agg (bt A a b)] [al s]::l)
theorem afZ(h:af (CR A a b c i m j C q d e k l r s [.b s true,.r 122 [.agg (bx c d e f g)] [al t],.b t true,.b (i==7) true,.b (decide ((C.length:Int)>0)) true])):
 aw 177 [.agg (bt A a b),.agg (bx c d e f g)] [.one (B !r)]:=
 h.of
theorem ahr(h:af (CR A a b c i m j C q d e k l t r [.b r true,.r 122 [.agg (bx c d e f g)] [al s],.b s true,.b (i==7) true,.b (decide ((C.length:Int)>0)) false])):
 aw 177 [.agg (bt A a b),.agg (bx c d e f g)] [al false]:=
 h.of
theorem ahs(h:af (CR A a b c i m j C q d e k l t r [.b r true,.r 122 [.agg (bx c d e f g)] [al s],.b s true,.b (i==7) false])):
 aw 177 [.agg (bt A a b),.agg (bx c d e f g)] [al false]:=
 h.of
theorem aht(h:af (CR A a b c l m i C q d e j k t r [.b r true,.r 122 [.agg (bx c d e f g)] [al s],.b s false])):
 aw 177 [.agg (bt A a b),.agg (bx c d e f g)] [al false]:=
 h.of
theorem ahu(h:af (CR A a b c l m f C q d e g i s r [.b r false])):
 aw 177 [.agg (bt A a b),.agg (bx c d e j k)] [al false]:=
 h.of
theorem ahv(h:af (YL A a b c l m f C q d e g i r [.b q false])):
 aw 177 [.agg (bt A a b),.agg (bx c d e j k)] [al false]:=
 h.of
def YM(A C:ah)(a b c d e f:Int)(E:ah)(q:Bool)(l:List O):List O:=.g ([]:ah) A 32::.h A::.r 249 [.agg (bt C a b),ao c] [.agg (bn d e f E),al q]::l
theorem ahw(h:af (YM A C a b c k d e E q [.n q true])):
 aw 176 [.agg (bt C a b),aM 4 A,.agg (bx c f g i j)] [aM 4 ([]++A),aM 5 [],al false]:=
 h.of
def YN(A C:ah)(a b c d e f:Int)(E:ah)(q r:Bool)(l:List O):List O:=YM A C a b c d e f E q (.n q false::.r 121 [.agg (bt C a b)] [al r]::l)
theorem ahx(h:af (YN A C a b c k d e E q r [.n r true])):
 aw 176 [.agg (bt C a b),aM 4 A,.agg (bx c f g i j)] [aM 4 ([]++A),aM 5 [],al false]:=
 h.of
def YO(A C:ah)(a b c d e f:Int)(E:ah)(q r:Bool)(g i j k:Int)(s:Bool)(l:List O):List O:=YN A C a b c d e f E q r (.n r false::.r 122 [.agg (bx c g i j k)] [al s]::l)
theorem ahy(h:af (YO A C a b c k i j E q r d e f g s [.n s true])):
 aw 176 [.agg (bt C a b),aM 4 A,.agg (bx c d e f g)] [aM 4 ([]++A),aM 5 [],al false]:=
 h.of
def OA(A C:ah)(a b c d e f:Int)(E:ah)(q r:Bool)(g i j k:Int)(s:Bool)(m n:Int)(t:Bool)(l:List O):List O:=YO A C a b c d e f E q r g i j k s (.n s false::.r 267 [.agg (bn d e f E),ao j,ao k] [ao m,ao n,al t]::l)
theorem ahz(h:af (OA A C a b c f g i E q r j k d e s l m t [.n t true,.b (f != 8) true])):
 aw 176 [.agg (bt C a b),aM 4 A,.agg (bx c j k d e)] [aM 4 ([]++A),aM 5 [],al true]:=
 h.of
def GH(A C:ah)(a b c d e f:Int)(E:ah)(q r:Bool)(g i j k:Int)(s:Bool)(m n:Int)(t u:Bool)(l:List O):List O:=OA A C a b c d e f E q r g i j k s m n t (.n t true::.b (d != 8) false::.r 268 [ao d] [al u]::l)
def GI(A C:ah)(a b c d e f:Int)(E:ah)(q r:Bool)(g i j k:Int)(s:Bool)(m n:Int)(t u:Bool)(F:ah)(v:Bool)(l:List O):List O:=GH A C a b c d e f E q r g i j k s m n t u (.b u true::.r 269 [ao d,aM 4 A,.agg [I c,I g,I j,I k]] [aM 4 F,al v]::l)
theorem ahA(h:af (GI A C e f b a i j E q r g k c d s l m t u F v [.n v true])):
 aw 176 [.agg (bt C e f),aM 4 A,.agg (bx b g k c d)] [aM 4 F,aM 5 [],al true]:=
 h.of
theorem ahB(h:af (GI A C f g b a j k E q r c i d e s l m t u F v [.n v false,.b (a==7) true,.r 270 [.agg [I c,I i]] [.agg [I n,I o],al w],.n w true])):
 aw 176 [.agg (bt C f g),aM 4 A,.agg (bx b c i d e)] [aM 4 F,aM 5 [],al true]:=
 h.of
def xh(a b c:Int)(C:ah)(d e:Int)(E:ah)(f g i:Int)(A:ah):aF:=bf 127 [(9,aJ.aI (bC.one (aD 840000 4 E))),(10,aJ.aI (bC.one (aD 25 5 A))),(11,aT 11),(13,a1 d),(14,a1 e),(18,aT 18),(21,a1 i)] [(18,[ay f,ay g]),(11,[ay a,ay b,ay c,aD 310003 1 C])]
def GL(A:ah)(a b:Int)(C:ah)(c d e f:Int)(l:List O):List O:=.i A a [I b]::.g C [(bx b c d e f)] 40::.h [(bx b c d e f)]::.u a::l
theorem ahC(h:af (GL A e f C c d a b [])):
 aY (aq Tryz.f176 0) (xh j g i A a b E c d e C) .normal (xh j g i A a b E c d (e+1) (C++[(bx f c d a b)])):=
 h.aW [21,11,10,18,13,14,9] [18,11]
def uZ(A C:ah):aF:=bf 127 [(9,aJ.aI (bC.one (aD 840000 4 A))),(10,aJ.aI (bC.one (aD 25 5 C)))] []
theorem ahD(h:af [.f A a false]):
 aY (aq Tryz.f176 0) (xh i b c A d e C f g a E) (.exit 0) (uZ C E):=
 h.aW [9,10] []
theorem ahE(h:af (GI C E f j b a g i F q r c k d e s l m t u A v [.n v false,.b (a==7) true,.r 270 [.agg [I c,I k]] [.agg [I n,I o],al w],.n w false,.l [] [21,11,10,18,13,14,9] [18,11] (aq Tryz.f176 0) (xh a g i F l m A n o 0 []) (.exit 0) (uZ A G)])):
 aw 176 [.agg (bt E f j),aM 4 C,.agg (bx b c k d e)] [aM 4 A,aM 5 G,al true]:=
 h.of
def xi(a b c d e:Int)(C:ah)(f g:Int)(E:ah)(i:Int)(A:ah):aF:=bf 127 [(9,aJ.aI (bC.one (aD 840000 4 E))),(10,aJ.aI (bC.one (aD 25 5 A))),(11,aT 11),(13,a1 f),(14,a1 g),(18,aT 18),(21,a1 i)] [(18,[ay a,ay b]),(11,[ay c,ay d,ay e,aD 310003 1 C])]
theorem ahF(h:af (GL A e f C c d a b [])):
 aY (aq Tryz.f176 0) (xi c d j g i A a b E e C) .normal (xi c d j g i A a b E (e+1) (C++[(bx f c d a b)])):=
 h.aW [21,11,10,18,13,14,9] [18,11]
theorem ahG(h:af [.f A a false]):
 aY (aq Tryz.f176 0) (xi f g i b c A d e C a E) (.exit 0) (uZ C E):=
 h.aW [9,10] []
theorem ahH(h:af (GI C E f j b a g i F q r c k d e s l m t u A v [.n v false,.b (a==7) false,.l [] [21,11,10,18,13,14,9] [18,11] (aq Tryz.f176 0) (xi c k a g i F l m A 0 []) (.exit 0) (uZ A G)])):
 aw 176 [.agg (bt E f j),aM 4 C,.agg (bx b c k d e)] [aM 4 A,aM 5 G,al true]:=
 h.of
theorem ahI(h:af (GH A C b c d a j k E q r e f g i s l m t u [.b u false,.b (a==7) true,.r 270 [.agg [I e,I f]] [.agg [I n,I o],al v],.n v true])):
 aw 176 [.agg (bt C b c),aM 4 A,.agg (bx d e f g i)] [aM 4 ([]++A),aM 5 [],al true]:=
 h.of
def xj(A:ah)(a b c:Int)(E:ah)(d e f g i:Int)(C:ah):aF:=bf 127 [(9,aJ.aI (bC.one (aD 22 4 ([]++A)))),(10,aJ.aI (bC.one (aD 25 5 C))),(11,aT 11),(13,a1 d),(14,a1 e),(18,aT 18),(21,a1 i)] [(18,[ay f,ay g]),(11,[ay a,ay b,ay c,aD 310003 1 E])]
theorem ahJ(h:af (GL A e f C c d a b [])):
 aY (aq Tryz.f176 0) (xj E j g i A a b c d e C) .normal (xj E j g i A a b c d (e+1) (C++[(bx f c d a b)])):=
 h.aW [21,11,10,18,13,14,9] [18,11]
def u0(A C:ah):aF:=bf 127 [(9,aJ.aI (bC.one (aD 22 4 ([]++A)))),(10,aJ.aI (bC.one (aD 25 5 C)))] []
theorem ahK(h:af [.f A a false]):
 aY (aq Tryz.f176 0) (xj E i b c A d e f g a C) (.exit 0) (u0 E C):=
 h.aW [9,10] []
theorem ahL(h:af (GH A C b e f a c d E q r g i j k s l m t u [.b u false,.b (a==7) true,.r 270 [.agg [I g,I i]] [.agg [I n,I o],al v],.n v false,.l [] [21,11,10,18,13,14,9] [18,11] (aq Tryz.f176 0) (xj A a c d E l m n o 0 []) (.exit 0) (u0 A F)])):
 aw 176 [.agg (bt C b e),aM 4 A,.agg (bx f g i j k)] [aM 4 ([]++A),aM 5 F,al true]:=
 h.of
def xk(A:ah)(a b c d e:Int)(E:ah)(f g i:Int)(C:ah):aF:=bf 127 [(9,aJ.aI (bC.one (aD 22 4 ([]++A)))),(10,aJ.aI (bC.one (aD 25 5 C))),(11,aT 11),(13,a1 f),(14,a1 g),(18,aT 18),(21,a1 i)] [(18,[ay a,ay b]),(11,[ay c,ay d,ay e,aD 310003 1 E])]
theorem ahM(h:af (GL A e f C c d a b [])):
 aY (aq Tryz.f176 0) (xk E c d j g i A a b e C) .normal (xk E c d j g i A a b (e+1) (C++[(bx f c d a b)])):=
 h.aW [21,11,10,18,13,14,9] [18,11]
theorem ahN(h:af [.f A a false]):
 aY (aq Tryz.f176 0) (xk E f g i b c A d e a C) (.exit 0) (u0 E C):=
 h.aW [9,10] []
theorem ahO(h:af (GH A C b e f a c d E q r g i j k s l m t u [.b u false,.b (a==7) false,.l [] [21,11,10,18,13,14,9] [18,11] (aq Tryz.f176 0) (xk A g i a c d E l m 0 []) (.exit 0) (u0 A F)])):
 aw 176 [.agg (bt C b e),aM 4 A,.agg (bx f g i j k)] [aM 4 ([]++A),aM 5 F,al true]:=
 h.of
def GJ(A C:ah)(a b c d e f:Int)(E:ah)(q r:Bool)(g i j k:Int)(s:Bool)(m n:Int)(t u:Bool)(l:List O):List O:=OA A C a b c d e f E q r g i j k s m n t (.n t false::.r 268 [ao d] [al u]::l)
def GK(A C:ah)(a b c d e f:Int)(E:ah)(q r:Bool)(g i j k:Int)(s:Bool)(m n:Int)(t u:Bool)(F:ah)(v:Bool)(l:List O):List O:=GJ A C a b c d e f E q r g i j k s m n t u (.b u true::.r 269 [ao d,aM 4 A,.agg [I c,I g,I j,I k]] [aM 4 F,al v]::l)
theorem ahP(h:af (GK A C e f a d i j E q r g k b c s l m t u F v [.n v true])):
 aw 176 [.agg (bt C e f),aM 4 A,.agg (bx a g k b c)] [aM 4 F,aM 5 [],al true]:=
 h.of
theorem ahQ(h:af (GK A C f g b a j k E q r c i d e s l m t u F v [.n v false,.b (a==7) true,.r 270 [.agg [I c,I i]] [.agg [I n,I o],al w],.n w true])):
 aw 176 [.agg (bt C f g),aM 4 A,.agg (bx b c i d e)] [aM 4 F,aM 5 [],al true]:=
 h.of
theorem ag1(h:af (GK C E f j b a g i F q r c k d e s l m t u A v [.n v false,.b (a==7) true,.r 270 [.agg [I c,I k]] [.agg [I n,I o],al w],.n w false,.l [] [21,11,10,18,13,14,9] [18,11] (aq Tryz.f176 0) (xh a g i F l m A n o 0 []) (.exit 0) (uZ A G)])):
 aw 176 [.agg (bt E f j),aM 4 C,.agg (bx b c k d e)] [aM 4 A,aM 5 G,al true]:=
 h.of
theorem ag2(h:af (GK C E f j b a g i F q r c k d e s l m t u A v [.n v false,.b (a==7) false,.l [] [21,11,10,18,13,14,9] [18,11] (aq Tryz.f176 0) (xi c k a g i F l m A 0 []) (.exit 0) (uZ A G)])):
 aw 176 [.agg (bt E f j),aM 4 C,.agg (bx b c k d e)] [aM 4 A,aM 5 G,al true]:=
 h.of
theorem ag3(h:af (GJ A C b c d a j k E q r e f g i s l m t u [.b u false,.b (a==7) true,.r 270 [.agg [I e,I f]] [.agg [I n,I o],al v],.n v true])):
 aw 176 [.agg (bt C b c),aM 4 A,.agg (bx d e f g i)] [aM 4 ([]++A),aM 5 [],al true]:=
 h.of
theorem ag4(h:af (GJ A C b e f a c d E q r g i j k s l m t u [.b u false,.b (a==7) true,.r 270 [.agg [I g,I i]] [.agg [I n,I o],al v],.n v false,.l [] [21,11,10,18,13,14,9] [18,11] (aq Tryz.f176 0) (xj A a c d E l m n o 0 []) (.exit 0) (u0 A F)])):
 aw 176 [.agg (bt C b e),aM 4 A,.agg (bx f g i j k)] [aM 4 ([]++A),aM 5 F,al true]:=
 h.of
theorem ag5(h:af (GJ A C b e f a c d E q r g i j k s l m t u [.b u false,.b (a==7) false,.l [] [21,11,10,18,13,14,9] [18,11] (aq Tryz.f176 0) (xk A g i a c d E l m 0 []) (.exit 0) (u0 A F)])):
 aw 176 [.agg (bt C b e),aM 4 A,.agg (bx f g i j k)] [aM 4 ([]++A),aM 5 F,al true]:=
 h.of
