import Derived.Test.YtdchjefneblpgaaGreatGE
set_option linter.unusedVariables false
set_option linter.unusedSimpArgs false
namespace Go.Proofs.YtdchjefneblpgaaGreat
open Go.Sx Go.RowKit
variable {a b c d e f g i j k l m n o : Int} {A C E F G : ak} {q r s t u v w : Bool}
def WY(A:ak)(a b c d e f:Int)(C:ak)(q:Bool)(g i j k:Int)(r:Bool)(l:List O):List O:=.r 249 [.agg (bP A a b),ag c] [.agg (bF d e f C),al q]::.r 270 [.agg [I g,I i]] [.agg [I j,I k],al r]::l
def C9(A:ak)(a b c d e f:Int)(C:ak)(q:Bool)(g i j k:Int)(r s:Bool)(l:List O):List O:=WY A a b c d e f C q g i j k r (.b q true::.r 121 [.agg (bP A a b)] [al s]::l)
theorem abw(h:ah (C9 A a b c i m j C q d e k l r s [.b s true,.r 122 [.agg (bA c d e f g)] [al t],.b t true,.b (i==7) true,.b (decide ((C.length:Int)>0)) true])):
 aw 177 [.agg (bP A a b),.agg (bA c d e f g)] [.one (B !r)]:=
 h.of
theorem abx(h:ah (C9 A a b c i m j C q d e k l t r [.b r true,.r 122 [.agg (bA c d e f g)] [al s],.b s true,.b (i==7) true,.b (decide ((C.length:Int)>0)) false])):
 aw 177 [.agg (bP A a b),.agg (bA c d e f g)] [al false]:=
 h.of
theorem aby(h:ah (C9 A a b c i m j C q d e k l t r [.b r true,.r 122 [.agg (bA c d e f g)] [al s],.b s true,.b (i==7) false])):
 aw 177 [.agg (bP A a b),.agg (bA c d e f g)] [al false]:=
 h.of
theorem abz(h:ah (C9 A a b c l m i C q d e j k t r [.b r true,.r 122 [.agg (bA c d e f g)] [al s],.b s false])):
 aw 177 [.agg (bP A a b),.agg (bA c d e f g)] [al false]:=
 h.of
theorem abA(h:ah (C9 A a b c l m f C q d e g i s r [.b r false])):
 aw 177 [.agg (bP A a b),.agg (bA c d e j k)] [al false]:=
 h.of
theorem abB(h:ah (WY A a b c l m f C q d e g i r [.b q false])):
 aw 177 [.agg (bP A a b),.agg (bA c d e j k)] [al false]:=
 h.of
def WZ(A C:ak)(a b c d e f:Int)(E:ak)(q:Bool)(l:List O):List O:=.g ([]:ak) A 32::.h A::.r 249 [.agg (bP C a b),ag c] [.agg (bF d e f E),al q]::l
theorem abC(h:ah (WZ A C a b c k d e E q [.n q true])):
 aw 176 [.agg (bP C a b),aS 4 A,.agg (bA c f g i j)] [aS 4 ([]++A),aS 5 [],al false]:=
 h.of
def W0(A C:ak)(a b c d e f:Int)(E:ak)(q r:Bool)(l:List O):List O:=WZ A C a b c d e f E q (.n q false::.r 121 [.agg (bP C a b)] [al r]::l)
theorem abD(h:ah (W0 A C a b c k d e E q r [.n r true])):
 aw 176 [.agg (bP C a b),aS 4 A,.agg (bA c f g i j)] [aS 4 ([]++A),aS 5 [],al false]:=
 h.of
def Xg(A C:ak)(a b c d e f:Int)(E:ak)(q r:Bool)(g i j k:Int)(s:Bool)(l:List O):List O:=W0 A C a b c d e f E q r (.n r false::.r 122 [.agg (bA c g i j k)] [al s]::l)
theorem abE(h:ah (Xg A C a b c k i j E q r d e f g s [.n s true])):
 aw 176 [.agg (bP C a b),aS 4 A,.agg (bA c d e f g)] [aS 4 ([]++A),aS 5 [],al false]:=
 h.of
def N3(A C:ak)(a b c d e f:Int)(E:ak)(q r:Bool)(g i j k:Int)(s:Bool)(m n:Int)(t:Bool)(l:List O):List O:=Xg A C a b c d e f E q r g i j k s (.n s false::.r 267 [.agg (bF d e f E),ag j,ag k] [ag m,ag n,al t]::l)
theorem abF(h:ah (N3 A C a b c f g i E q r j k d e s l m t [.n t true,.b (f != 8) true])):
 aw 176 [.agg (bP C a b),aS 4 A,.agg (bA c j k d e)] [aS 4 ([]++A),aS 5 [],al true]:=
 h.of
def Hc(A C:ak)(a b c d e f:Int)(E:ak)(q r:Bool)(g i j k:Int)(s:Bool)(m n:Int)(t u:Bool)(l:List O):List O:=N3 A C a b c d e f E q r g i j k s m n t (.n t true::.b (d != 8) false::.r 268 [ag d] [al u]::l)
def Hd(A C:ak)(a b c d e f:Int)(E:ak)(q r:Bool)(g i j k:Int)(s:Bool)(m n:Int)(t u:Bool)(F:ak)(v:Bool)(l:List O):List O:=Hc A C a b c d e f E q r g i j k s m n t u (.b u true::.r 269 [ag d,aS 4 A,.agg [I c,I g,I j,I k]] [aS 4 F,al v]::l)
theorem abG(h:ah (Hd A C e f b a i j E q r g k c d s l m t u F v [.n v true])):
 aw 176 [.agg (bP C e f),aS 4 A,.agg (bA b g k c d)] [aS 4 F,aS 5 [],al true]:=
 h.of
theorem abH(h:ah (Hd A C f g b a j k E q r c i d e s l m t u F v [.n v false,.b (a==7) true,.r 270 [.agg [I c,I i]] [.agg [I n,I o],al w],.n w true])):
 aw 176 [.agg (bP C f g),aS 4 A,.agg (bA b c i d e)] [aS 4 F,aS 5 [],al true]:=
 h.of
def wZ(a b c:Int)(C:ak)(d e:Int)(E:ak)(f g i:Int)(A:ak):aG:=bp 127 [(9,aI.bd (bS.one (aV 840000 4 E))),(10,aI.bd (bS.one (aV 25 5 A))),(11,bE 11),(13,bf d),(14,bf e),(18,bE 18),(21,bf i)] [(18,[aM f,aM g]),(11,[aM a,aM b,aM c,aV 310003 1 C])]
def Ak(A:ak)(a b:Int)(C:ak)(c d e f:Int)(l:List O):List O:=.i A a [I b]::.g C [(bA b c d e f)] 40::.h [(bA b c d e f)]::.u a::l
theorem abI(h:ah (Ak A e f C c d a b [])):
 aY (av Tryz.f176 0) (wZ j g i A a b E c d e C) .normal (wZ j g i A a b E c d (e+1) (C++[(bA f c d a b)])):=
 h.aR [21,11,10,18,13,14,9] [18,11]
def vq(A C:ak):aG:=bp 127 [(9,aI.bd (bS.one (aV 840000 4 A))),(10,aI.bd (bS.one (aV 25 5 C)))] []
theorem abJ(h:ah [.f A a false]):
 aY (av Tryz.f176 0) (wZ i b c A d e C f g a E) (.exit 0) (vq C E):=
 h.aR [9,10] []
theorem abK(h:ah (Hd C E f j b a g i F q r c k d e s l m t u A v [.n v false,.b (a==7) true,.r 270 [.agg [I c,I k]] [.agg [I n,I o],al w],.n w false,.l [] [21,11,10,18,13,14,9] [18,11] (av Tryz.f176 0) (wZ a g i F l m A n o 0 []) (.exit 0) (vq A G)])):
 aw 176 [.agg (bP E f j),aS 4 C,.agg (bA b c k d e)] [aS 4 A,aS 5 G,al true]:=
 h.of
def w2(a b c d e:Int)(C:ak)(f g:Int)(E:ak)(i:Int)(A:ak):aG:=bp 127 [(9,aI.bd (bS.one (aV 840000 4 E))),(10,aI.bd (bS.one (aV 25 5 A))),(11,bE 11),(13,bf f),(14,bf g),(18,bE 18),(21,bf i)] [(18,[aM a,aM b]),(11,[aM c,aM d,aM e,aV 310003 1 C])]
theorem abL(h:ah (Ak A e f C c d a b [])):
 aY (av Tryz.f176 0) (w2 c d j g i A a b E e C) .normal (w2 c d j g i A a b E (e+1) (C++[(bA f c d a b)])):=
 h.aR [21,11,10,18,13,14,9] [18,11]
theorem abM(h:ah [.f A a false]):
 aY (av Tryz.f176 0) (w2 f g i b c A d e C a E) (.exit 0) (vq C E):=
 h.aR [9,10] []
theorem abb(h:ah (Hd C E f j b a g i F q r c k d e s l m t u A v [.n v false,.b (a==7) false,.l [] [21,11,10,18,13,14,9] [18,11] (av Tryz.f176 0) (w2 c k a g i F l m A 0 []) (.exit 0) (vq A G)])):
 aw 176 [.agg (bP E f j),aS 4 C,.agg (bA b c k d e)] [aS 4 A,aS 5 G,al true]:=
 h.of
theorem abd(h:ah (Hc A C b c d a j k E q r e f g i s l m t u [.b u false,.b (a==7) true,.r 270 [.agg [I e,I f]] [.agg [I n,I o],al v],.n v true])):
 aw 176 [.agg (bP C b c),aS 4 A,.agg (bA d e f g i)] [aS 4 ([]++A),aS 5 [],al true]:=
 h.of
def w3(A:ak)(a b c:Int)(E:ak)(d e f g i:Int)(C:ak):aG:=bp 127 [(9,aI.bd (bS.one (aV 22 4 ([]++A)))),(10,aI.bd (bS.one (aV 25 5 C))),(11,bE 11),(13,bf d),(14,bf e),(18,bE 18),(21,bf i)] [(18,[aM f,aM g]),(11,[aM a,aM b,aM c,aV 310003 1 E])]
theorem abe(h:ah (Ak A e f C c d a b [])):
 aY (av Tryz.f176 0) (w3 E j g i A a b c d e C) .normal (w3 E j g i A a b c d (e+1) (C++[(bA f c d a b)])):=
 h.aR [21,11,10,18,13,14,9] [18,11]
def vr(A C:ak):aG:=bp 127 [(9,aI.bd (bS.one (aV 22 4 ([]++A)))),(10,aI.bd (bS.one (aV 25 5 C)))] []
theorem abf(h:ah [.f A a false]):
 aY (av Tryz.f176 0) (w3 E i b c A d e f g a C) (.exit 0) (vr E C):=
 h.aR [9,10] []
theorem abg(h:ah (Hc A C b e f a c d E q r g i j k s l m t u [.b u false,.b (a==7) true,.r 270 [.agg [I g,I i]] [.agg [I n,I o],al v],.n v false,.l [] [21,11,10,18,13,14,9] [18,11] (av Tryz.f176 0) (w3 A a c d E l m n o 0 []) (.exit 0) (vr A F)])):
 aw 176 [.agg (bP C b e),aS 4 A,.agg (bA f g i j k)] [aS 4 ([]++A),aS 5 F,al true]:=
 h.of
def w4(A:ak)(a b c d e:Int)(E:ak)(f g i:Int)(C:ak):aG:=bp 127 [(9,aI.bd (bS.one (aV 22 4 ([]++A)))),(10,aI.bd (bS.one (aV 25 5 C))),(11,bE 11),(13,bf f),(14,bf g),(18,bE 18),(21,bf i)] [(18,[aM a,aM b]),(11,[aM c,aM d,aM e,aV 310003 1 E])]
theorem abh(h:ah (Ak A e f C c d a b [])):
 aY (av Tryz.f176 0) (w4 E c d j g i A a b e C) .normal (w4 E c d j g i A a b (e+1) (C++[(bA f c d a b)])):=
 h.aR [21,11,10,18,13,14,9] [18,11]
theorem abi(h:ah [.f A a false]):
 aY (av Tryz.f176 0) (w4 E f g i b c A d e a C) (.exit 0) (vr E C):=
 h.aR [9,10] []
theorem abj(h:ah (Hc A C b e f a c d E q r g i j k s l m t u [.b u false,.b (a==7) false,.l [] [21,11,10,18,13,14,9] [18,11] (av Tryz.f176 0) (w4 A g i a c d E l m 0 []) (.exit 0) (vr A F)])):
 aw 176 [.agg (bP C b e),aS 4 A,.agg (bA f g i j k)] [aS 4 ([]++A),aS 5 F,al true]:=
 h.of
def He(A C:ak)(a b c d e f:Int)(E:ak)(q r:Bool)(g i j k:Int)(s:Bool)(m n:Int)(t u:Bool)(l:List O):List O:=N3 A C a b c d e f E q r g i j k s m n t (.n t false::.r 268 [ag d] [al u]::l)
def Aj(A C:ak)(a b c d e f:Int)(E:ak)(q r:Bool)(g i j k:Int)(s:Bool)(m n:Int)(t u:Bool)(F:ak)(v:Bool)(l:List O):List O:=He A C a b c d e f E q r g i j k s m n t u (.b u true::.r 269 [ag d,aS 4 A,.agg [I c,I g,I j,I k]] [aS 4 F,al v]::l)
theorem abk(h:ah (Aj A C e f a d i j E q r g k b c s l m t u F v [.n v true])):
 aw 176 [.agg (bP C e f),aS 4 A,.agg (bA a g k b c)] [aS 4 F,aS 5 [],al true]:=
 h.of
theorem abl(h:ah (Aj A C f g b a j k E q r c i d e s l m t u F v [.n v false,.b (a==7) true,.r 270 [.agg [I c,I i]] [.agg [I n,I o],al w],.n w true])):
 aw 176 [.agg (bP C f g),aS 4 A,.agg (bA b c i d e)] [aS 4 F,aS 5 [],al true]:=
 h.of
theorem acQ(h:ah (Aj C E f j b a g i F q r c k d e s l m t u A v [.n v false,.b (a==7) true,.r 270 [.agg [I c,I k]] [.agg [I n,I o],al w],.n w false,.l [] [21,11,10,18,13,14,9] [18,11] (av Tryz.f176 0) (wZ a g i F l m A n o 0 []) (.exit 0) (vq A G)])):
 aw 176 [.agg (bP E f j),aS 4 C,.agg (bA b c k d e)] [aS 4 A,aS 5 G,al true]:=
 h.of
theorem acR(h:ah (Aj C E f j b a g i F q r c k d e s l m t u A v [.n v false,.b (a==7) false,.l [] [21,11,10,18,13,14,9] [18,11] (av Tryz.f176 0) (w2 c k a g i F l m A 0 []) (.exit 0) (vq A G)])):
 aw 176 [.agg (bP E f j),aS 4 C,.agg (bA b c k d e)] [aS 4 A,aS 5 G,al true]:=
 h.of
theorem acS(h:ah (He A C b c d a j k E q r e f g i s l m t u [.b u false,.b (a==7) true,.r 270 [.agg [I e,I f]] [.agg [I n,I o],al v],.n v true])):
 aw 176 [.agg (bP C b c),aS 4 A,.agg (bA d e f g i)] [aS 4 ([]++A),aS 5 [],al true]:=
 h.of
theorem acT(h:ah (He A C b e f a c d E q r g i j k s l m t u [.b u false,.b (a==7) true,.r 270 [.agg [I g,I i]] [.agg [I n,I o],al v],.n v false,.l [] [21,11,10,18,13,14,9] [18,11] (av Tryz.f176 0) (w3 A a c d E l m n o 0 []) (.exit 0) (vr A F)])):
 aw 176 [.agg (bP C b e),aS 4 A,.agg (bA f g i j k)] [aS 4 ([]++A),aS 5 F,al true]:=
 h.of
theorem acU(h:ah (He A C b e f a c d E q r g i j k s l m t u [.b u false,.b (a==7) false,.l [] [21,11,10,18,13,14,9] [18,11] (av Tryz.f176 0) (w4 A g i a c d E l m 0 []) (.exit 0) (vr A F)])):
 aw 176 [.agg (bP C b e),aS 4 A,.agg (bA f g i j k)] [aS 4 ([]++A),aS 5 F,al true]:=
 h.of
def N4(A:ak)(a b:Int)(q:Bool)(l:List O):List O:=.r 179 [.agg (bP A a b)] [al q]::l
theorem S0(h:ah (N4 A a b q [.n q true,.r 297 [aS 4 E] [aS 4 C]])):
 aw 232 [.agg (bP A a b),aS 4 E,.agg (bA c d e f g)] [aS 4 C,aS 5 [],al false]:=
 h.of
def N5(A:ak)(a b:Int)(q:Bool)(c d e f g:Int)(r:Bool)(l:List O):List O:=N4 A a b q (.n q false::.r 180 [.agg (bA c d e f g)] [al r]::l)
theorem S1(h:ah (N5 A a b r c d e f g q [.n q true,.r 297 [aS 4 E] [aS 4 C]])):
 aw 232 [.agg (bP A a b),aS 4 E,.agg (bA c d e f g)] [aS 4 C,aS 5 [],al false]:=
 h.of
def Da(A:ak)(a b:Int)(q:Bool)(c d e f g:Int)(r s:Bool)(l:List O):List O:=N5 A a b q c d e f g r (.n r false::.r 250 [.agg (bP A a b),ag c] [al s]::l)
theorem acV(h:ah (Da A a b s c d e f g q r [.n r true,.r 297 [aS 4 E] [aS 4 C]])):
 aw 232 [.agg (bP A a b),aS 4 E,.agg (bA c d e f g)] [aS 4 C,aS 5 [],al false]:=
 h.of
def Hj(A:ak)(a b:Int)(q:Bool)(c d e f g:Int)(r s:Bool)(i j k:Int)(C:ak)(l:List O):List O:=Da A a b q c d e f g r s (.n s false::.x A c (bF i j k C)::l)
def Dc(A:ak)(a b:Int)(q:Bool)(c d e f g:Int)(r s:Bool)(i j k:Int)(C:ak)(m n:Int)(t:Bool)(l:List O):List O:=Hj A a b q c d e f g r s i j k C (.r 298 [.agg (bF i j k C),ag f,ag g] [ag m,ag n,al t]::l)
theorem acW(h:ah (Dc A b d t a j k e f q r c g i C l m s [.n s true,.b (c != 8) true,.r 297 [aS 4 F] [aS 4 E]])):
 aw 232 [.agg (bP A b d),aS 4 F,.agg (bA a j k e f)] [aS 4 E,aS 5 [],al true]:=
 h.of
def N9(A:ak)(a b:Int)(q:Bool)(c d e f g:Int)(r s:Bool)(i j k:Int)(C:ak)(m n:Int)(t:Bool)(E F:ak)(u:Bool)(l:List O):List O:=Dc A a b q c d e f g r s i j k C m n t (.n t true::.b (i != 8) false::.r 299 [ag i,aS 4 E,.agg [I c,I d,I f,I g]] [aS 4 F,al u]::l)
theorem acX(h:ah (N9 A e f u a g k c d q r b i j C l m s F E t [.n t true])):
 aw 232 [.agg (bP A e f),aS 4 F,.agg (bA a g k c d)] [aS 4 E,aS 5 [],al true]:=
 h.of
def sx(A:ak)(a b:Int)(C:ak)(c d:Int)(q:Bool)(e:Int)(E:ak):aG:=bp 111 [(10,bf a),(11,bf b),(13,aI.bd (bS.one (aV 760000 4 C))),(14,bE 14),(15,.bd (.one (.cg q))),(16,aI.bd (bS.one (aV 107 5 E))),(93,eP 1 A),(94,bf (A.length:Int)),(95,bf e)] [(14,[aM c,aM d])]
theorem acY(h:ah [.i A e [I f],.b q true,.g C [(bA f c d a b)] 40,.h [(bA f c d a b)],.u e]):
 aY (av Tryz.f232 0) (sx A a b E c d q e C) .normal (sx A a b E c d q (e+1) (C++[(bA f c d a b)])):=
 h.aR [95,94,93,15,16,14,10,11,13] [14]
theorem acZ(h:ah [.i A a [I f],.b q false,.u a]):
 aY (av Tryz.f232 0) (sx A b c C d e q a E) .normal (sx A b c C d e q (a+1) E):=
 h.aR [95,94,93,15,16,14,10,11,13] [14]
def vt(A C:ak):aG:=bp 111 [(13,aI.bd (bS.one (aV 760000 4 A))),(16,aI.bd (bS.one (aV 107 5 C)))] []
theorem S2(h:ah [.f A a false]):
 aY (av Tryz.f232 0) (sx A b c C d e q a E) (.exit 0) (vt C E):=
 h.aR [13,16] []
theorem ac0(h:ah (N9 A f g v b c i d e q r a j k E l m s G C t [.n t false,.b (a==7) true,.r 300 [.agg [I c,I i]] [.agg [I n,I o],al u],.l [(16,107,5)] [95,94,93,15,16,14,10,11,13] [14] (av Tryz.f232 0) (sx E l m C n o u 0 []) (.exit 0) (vt C F)])):
 aw 232 [.agg (bP A f g),aS 4 G,.agg (bA b c i d e)] [aS 4 C,aS 5 F,al true]:=
 h.of
def xx(a b:Int)(A:ak)(c d:Int)(C:ak)(e:Int)(E:ak):aG:=bp 111 [(10,bf c),(11,bf d),(13,aI.bd (bS.one (aV 760000 4 C))),(14,bE 14),(15,.bd (.one (.cg true))),(16,aI.bd (bS.one (aV 107 5 E))),(93,eP 1 A),(94,bf (A.length:Int)),(95,bf e)] [(14,[aM a,aM b])]
theorem ac1(h:ah [.i A e [I f],.b true true,.g C [(bA f c d a b)] 40,.h [(bA f c d a b)],.u e]):
 aY (av Tryz.f232 0) (xx c d A a b E e C) .normal (xx c d A a b E (e+1) (C++[(bA f c d a b)])):=
 h.aR [95,94,93,15,16,14,10,11,13] [14]
theorem ac2(h:ah [.f A a false]):
 aY (av Tryz.f232 0) (xx d e A b c C a E) (.exit 0) (vt C E):=
 h.aR [13,16] []
theorem ac3(h:ah (N9 A f g u b c i d e q r a j k E l m s G C t [.n t false,.b (a==7) false,.l [(16,107,5)] [95,94,93,15,16,14,10,11,13] [14] (av Tryz.f232 0) (xx c i E l m C 0 []) (.exit 0) (vt C F)])):
 aw 232 [.agg (bP A f g),aS 4 G,.agg (bA b c i d e)] [aS 4 C,aS 5 F,al true]:=
 h.of
theorem ac4(h:ah (Dc A d f u a g k b c q r e i j C l m s [.n s false,.r 299 [ag e,aS 4 F,.agg [I a,I g,I b,I c]] [aS 4 E,al t],.n t true])):
 aw 232 [.agg (bP A d f),aS 4 F,.agg (bA a g k b c)] [aS 4 E,aS 5 [],al true]:=
 h.of
theorem ac5(h:ah (Dc A f g v a c i d e q r b j k E l m s [.n s false,.r 299 [ag b,aS 4 G,.agg [I a,I c,I d,I e]] [aS 4 C,al t],.n t false,.b (b==7) true,.r 300 [.agg [I c,I i]] [.agg [I n,I o],al u],.l [(16,107,5)] [95,94,93,15,16,14,10,11,13] [14] (av Tryz.f232 0) (sx E l m C n o u 0 []) (.exit 0) (vt C F)])):
 aw 232 [.agg (bP A f g),aS 4 G,.agg (bA a c i d e)] [aS 4 C,aS 5 F,al true]:=
 h.of
theorem ac6(h:ah (Dc A f g u a c i d e q r b j k E l m s [.n s false,.r 299 [ag b,aS 4 G,.agg [I a,I c,I d,I e]] [aS 4 C,al t],.n t false,.b (b==7) false,.l [(16,107,5)] [95,94,93,15,16,14,10,11,13] [14] (av Tryz.f232 0) (xx c i E l m C 0 []) (.exit 0) (vt C F)])):
 aw 232 [.agg (bP A f g),aS 4 G,.agg (bA a c i d e)] [aS 4 C,aS 5 F,al true]:=
 h.of
theorem ac7(h:ah (N4 A a b q [.n q true])):
 aw 265 [.agg (bP A a b),.agg (bA c d e f g)] [al false]:=
 h.of
theorem ac8(h:ah (N5 A a b q c d e f g r [.n r true])):
 aw 265 [.agg (bP A a b),.agg (bA c d e f g)] [al false]:=
 h.of
theorem ac9(h:ah (Da A a b r c d e f g s q [.n q true])):
 aw 265 [.agg (bP A a b),.agg (bA c d e f g)] [al false]:=
 h.of
theorem ada(h:ah (Hj A b c s a d e g i t q f j k C [.r 300 [.agg [I d,I e]] [.agg [I l,I m],al r],.b (f==7) true,.b (decide ((C.length:Int)>0)) true])):
 aw 265 [.agg (bP A b c),.agg (bA a d e g i)] [.one (B !r)]:=
 h.of
theorem adb(h:ah (Hj A b c r a d e g i s q f j k C [.r 300 [.agg [I d,I e]] [.agg [I l,I m],al t],.b (f==7) true,.b (decide ((C.length:Int)>0)) false])):
 aw 265 [.agg (bP A b c),.agg (bA a d e g i)] [al false]:=
 h.of
theorem ade(h:ah (Hj A b c r a d e g i s q f j k C [.r 300 [.agg [I d,I e]] [.agg [I l,I m],al t],.b (f==7) false])):
 aw 265 [.agg (bP A b c),.agg (bA a d e g i)] [al false]:=
 h.of
