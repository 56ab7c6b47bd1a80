import Derived.Test.YthfnndblgbjniaaGreatGE
namespace Go.Proofs.YthfnndblgbjniaaGreat
open Go.Sx Go.RowKit
variable {a b c d e f g i j k l m n o : Int} {A C E F G : af} {q r s t u v w : Bool}
def abR(A:af)(a b c d e f:Int)(C:af)(q:Bool)(g i j k:Int)(r:Bool)(l:List O):List O:=.r 196 [.agg (bz A a b),ae c] [.agg (br d e f C),ak q]::.r 200 [.agg [I g,I i]] [.agg [I j,I k],ak r]::l
def EA(A:af)(a b c d e f:Int)(C:af)(q:Bool)(g i j k:Int)(r s:Bool)(l:List O):List O:=abR A a b c d e f C q g i j k r (.b q true::.r 55 [.agg (bz A a b)] [ak s]::l)
theorem aqe(h:ad (EA A a b c i m j C q d e k l r s [.b s true,.r 56 [.agg (bi c d e f g)] [ak t],.b t true,.b (i==7) true,.b (decide ((C.length:Int)>0)) true])):
 ar 181 [.agg (bz A a b),.agg (bi c d e f g)] [.one (B !r)]:=
 h.of
theorem aqf(h:ad (EA A a b c i m j C q d e k l t r [.b r true,.r 56 [.agg (bi c d e f g)] [ak s],.b s true,.b (i==7) true,.b (decide ((C.length:Int)>0)) false])):
 ar 181 [.agg (bz A a b),.agg (bi c d e f g)] [ak false]:=
 h.of
theorem aqg(h:ad (EA A a b c i m j C q d e k l t r [.b r true,.r 56 [.agg (bi c d e f g)] [ak s],.b s true,.b (i==7) false])):
 ar 181 [.agg (bz A a b),.agg (bi c d e f g)] [ak false]:=
 h.of
theorem aqh(h:ad (EA A a b c l m i C q d e j k t r [.b r true,.r 56 [.agg (bi c d e f g)] [ak s],.b s false])):
 ar 181 [.agg (bz A a b),.agg (bi c d e f g)] [ak false]:=
 h.of
theorem aqi(h:ad (EA A a b c l m f C q d e g i s r [.b r false])):
 ar 181 [.agg (bz A a b),.agg (bi c d e j k)] [ak false]:=
 h.of
theorem aqj(h:ad (abR A a b c l m f C q d e g i r [.b q false])):
 ar 181 [.agg (bz A a b),.agg (bi c d e j k)] [ak false]:=
 h.of
def abS(A C:af)(a b c d e f:Int)(E:af)(q:Bool)(l:List O):List O:=.g ([]:af) A 32::.h A::.r 196 [.agg (bz C a b),ae c] [.agg (br d e f E),ak q]::l
theorem aqk(h:ad (abS A C a b c k d e E q [.n q true])):
 ar 180 [.agg (bz C a b),aP 4 A,.agg (bi c f g i j)] [aP 4 ([]++A),aP 5 [],ak false]:=
 h.of
def abT(A C:af)(a b c d e f:Int)(E:af)(q r:Bool)(l:List O):List O:=abS A C a b c d e f E q (.n q false::.r 55 [.agg (bz C a b)] [ak r]::l)
theorem aql(h:ad (abT A C a b c k d e E q r [.n r true])):
 ar 180 [.agg (bz C a b),aP 4 A,.agg (bi c f g i j)] [aP 4 ([]++A),aP 5 [],ak false]:=
 h.of
def abU(A C:af)(a b c d e f:Int)(E:af)(q r:Bool)(g i j k:Int)(s:Bool)(l:List O):List O:=abT A C a b c d e f E q r (.n r false::.r 56 [.agg (bi c g i j k)] [ak s]::l)
theorem aqm(h:ad (abU A C a b c k i j E q r d e f g s [.n s true])):
 ar 180 [.agg (bz C a b),aP 4 A,.agg (bi c d e f g)] [aP 4 ([]++A),aP 5 [],ak false]:=
 h.of
def Rg(A C:af)(a b c d e f:Int)(E:af)(q r:Bool)(g i j k:Int)(s:Bool)(m n:Int)(t:Bool)(l:List O):List O:=abU A C a b c d e f E q r g i j k s (.n s false::.r 197 [.agg (br d e f E),ae j,ae k] [ae m,ae n,ak t]::l)
theorem aqn(h:ad (Rg A C a b c f g i E q r j k d e s l m t [.n t true,.b (f != 8) true])):
 ar 180 [.agg (bz C a b),aP 4 A,.agg (bi c j k d e)] [aP 4 ([]++A),aP 5 [],ak true]:=
 h.of
def I5(A C:af)(a b c d e f:Int)(E:af)(q r:Bool)(g i j k:Int)(s:Bool)(m n:Int)(t u:Bool)(l:List O):List O:=Rg A C a b c d e f E q r g i j k s m n t (.n t true::.b (d != 8) false::.r 198 [ae d] [ak u]::l)
def I6(A C:af)(a b c d e f:Int)(E:af)(q r:Bool)(g i j k:Int)(s:Bool)(m n:Int)(t u:Bool)(F:af)(v:Bool)(l:List O):List O:=I5 A C a b c d e f E q r g i j k s m n t u (.b u true::.r 199 [ae d,aP 4 A,.agg [I c,I g,I j,I k]] [aP 4 F,ak v]::l)
theorem aqo(h:ad (I6 A C e f b a i j E q r g k c d s l m t u F v [.n v true])):
 ar 180 [.agg (bz C e f),aP 4 A,.agg (bi b g k c d)] [aP 4 F,aP 5 [],ak true]:=
 h.of
theorem aqp(h:ad (I6 A C f g b a j k E q r c i d e s l m t u F v [.n v false,.b (a==7) true,.r 200 [.agg [I c,I i]] [.agg [I n,I o],ak w],.n w true])):
 ar 180 [.agg (bz C f g),aP 4 A,.agg (bi b c i d e)] [aP 4 F,aP 5 [],ak true]:=
 h.of
def x1(a b c:Int)(C:af)(d e:Int)(E:af)(f g i:Int)(A:af):aD:=a' 127 [(9,aI.aF (bp.one (aB 840000 4 E))),(10,aI.aF (bp.one (aB 25 5 A))),(11,aS 11),(13,aT d),(14,aT e),(18,aS 18),(21,aT i)] [(18,[av f,av g]),(11,[av a,av b,av c,aB 310003 1 C])]
def I9(A:af)(a b:Int)(C:af)(c d e f:Int)(l:List O):List O:=.i A a [I b]::.g C [(bi b c d e f)] 40::.h [(bi b c d e f)]::.u a::l
theorem aqq(h:ad (I9 A e f C c d a b [])):
 aV (ap Tryz.f180 0) (x1 j g i A a b E c d e C) .normal (x1 j g i A a b E c d (e+1) (C++[(bi f c d a b)])):=
 h.aQ [21,11,10,18,13,14,9] [18,11]
def vU(A C:af):aD:=a' 127 [(9,aI.aF (bp.one (aB 840000 4 A))),(10,aI.aF (bp.one (aB 25 5 C)))] []
theorem apR(h:ad [.f A a false]):
 aV (ap Tryz.f180 0) (x1 i b c A d e C f g a E) (.exit 0) (vU C E):=
 h.aQ [9,10] []
theorem apS(h:ad (I6 C E f j b a g i F q r c k d e s l m t u A v [.n v false,.b (a==7) true,.r 200 [.agg [I c,I k]] [.agg [I n,I o],ak w],.n w false,.l [] [21,11,10,18,13,14,9] [18,11] (ap Tryz.f180 0) (x1 a g i F l m A n o 0 []) (.exit 0) (vU A G)])):
 ar 180 [.agg (bz E f j),aP 4 C,.agg (bi b c k d e)] [aP 4 A,aP 5 G,ak true]:=
 h.of
def x2(a b c d e:Int)(C:af)(f g:Int)(E:af)(i:Int)(A:af):aD:=a' 127 [(9,aI.aF (bp.one (aB 840000 4 E))),(10,aI.aF (bp.one (aB 25 5 A))),(11,aS 11),(13,aT f),(14,aT g),(18,aS 18),(21,aT i)] [(18,[av a,av b]),(11,[av c,av d,av e,aB 310003 1 C])]
theorem apT(h:ad (I9 A e f C c d a b [])):
 aV (ap Tryz.f180 0) (x2 c d j g i A a b E e C) .normal (x2 c d j g i A a b E (e+1) (C++[(bi f c d a b)])):=
 h.aQ [21,11,10,18,13,14,9] [18,11]
theorem apU(h:ad [.f A a false]):
 aV (ap Tryz.f180 0) (x2 f g i b c A d e C a E) (.exit 0) (vU C E):=
 h.aQ [9,10] []
theorem apV(h:ad (I6 C E f j b a g i F q r c k d e s l m t u A v [.n v false,.b (a==7) false,.l [] [21,11,10,18,13,14,9] [18,11] (ap Tryz.f180 0) (x2 c k a g i F l m A 0 []) (.exit 0) (vU A G)])):
 ar 180 [.agg (bz E f j),aP 4 C,.agg (bi b c k d e)] [aP 4 A,aP 5 G,ak true]:=
 h.of
theorem apW(h:ad (I5 A C b c d a j k E q r e f g i s l m t u [.b u false,.b (a==7) true,.r 200 [.agg [I e,I f]] [.agg [I n,I o],ak v],.n v true])):
 ar 180 [.agg (bz C b c),aP 4 A,.agg (bi d e f g i)] [aP 4 ([]++A),aP 5 [],ak true]:=
 h.of
def x3(A:af)(a b c:Int)(E:af)(d e f g i:Int)(C:af):aD:=a' 127 [(9,aI.aF (bp.one (aB 22 4 ([]++A)))),(10,aI.aF (bp.one (aB 25 5 C))),(11,aS 11),(13,aT d),(14,aT e),(18,aS 18),(21,aT i)] [(18,[av f,av g]),(11,[av a,av b,av c,aB 310003 1 E])]
theorem apX(h:ad (I9 A e f C c d a b [])):
 aV (ap Tryz.f180 0) (x3 E j g i A a b c d e C) .normal (x3 E j g i A a b c d (e+1) (C++[(bi f c d a b)])):=
 h.aQ [21,11,10,18,13,14,9] [18,11]
def vV(A C:af):aD:=a' 127 [(9,aI.aF (bp.one (aB 22 4 ([]++A)))),(10,aI.aF (bp.one (aB 25 5 C)))] []
theorem apY(h:ad [.f A a false]):
 aV (ap Tryz.f180 0) (x3 E i b c A d e f g a C) (.exit 0) (vV E C):=
 h.aQ [9,10] []
theorem apZ(h:ad (I5 A C b e f a c d E q r g i j k s l m t u [.b u false,.b (a==7) true,.r 200 [.agg [I g,I i]] [.agg [I n,I o],ak v],.n v false,.l [] [21,11,10,18,13,14,9] [18,11] (ap Tryz.f180 0) (x3 A a c d E l m n o 0 []) (.exit 0) (vV A F)])):
 ar 180 [.agg (bz C b e),aP 4 A,.agg (bi f g i j k)] [aP 4 ([]++A),aP 5 F,ak true]:=
 h.of
def x4(A:af)(a b c d e:Int)(E:af)(f g i:Int)(C:af):aD:=a' 127 [(9,aI.aF (bp.one (aB 22 4 ([]++A)))),(10,aI.aF (bp.one (aB 25 5 C))),(11,aS 11),(13,aT f),(14,aT g),(18,aS 18),(21,aT i)] [(18,[av a,av b]),(11,[av c,av d,av e,aB 310003 1 E])]
theorem ap0(h:ad (I9 A e f C c d a b [])):
 aV (ap Tryz.f180 0) (x4 E c d j g i A a b e C) .normal (x4 E c d j g i A a b (e+1) (C++[(bi f c d a b)])):=
 h.aQ [21,11,10,18,13,14,9] [18,11]
theorem aru(h:ad [.f A a false]):
 aV (ap Tryz.f180 0) (x4 E f g i b c A d e a C) (.exit 0) (vV E C):=
 h.aQ [9,10] []
theorem arv(h:ad (I5 A C b e f a c d E q r g i j k s l m t u [.b u false,.b (a==7) false,.l [] [21,11,10,18,13,14,9] [18,11] (ap Tryz.f180 0) (x4 A g i a c d E l m 0 []) (.exit 0) (vV A F)])):
 ar 180 [.agg (bz C b e),aP 4 A,.agg (bi f g i j k)] [aP 4 ([]++A),aP 5 F,ak true]:=
 h.of
def I7(A C:af)(a b c d e f:Int)(E:af)(q r:Bool)(g i j k:Int)(s:Bool)(m n:Int)(t u:Bool)(l:List O):List O:=Rg A C a b c d e f E q r g i j k s m n t (.n t false::.r 198 [ae d] [ak u]::l)
def I8(A C:af)(a b c d e f:Int)(E:af)(q r:Bool)(g i j k:Int)(s:Bool)(m n:Int)(t u:Bool)(F:af)(v:Bool)(l:List O):List O:=I7 A C a b c d e f E q r g i j k s m n t u (.b u true::.r 199 [ae d,aP 4 A,.agg [I c,I g,I j,I k]] [aP 4 F,ak v]::l)
theorem arw(h:ad (I8 A C e f a d i j E q r g k b c s l m t u F v [.n v true])):
 ar 180 [.agg (bz C e f),aP 4 A,.agg (bi a g k b c)] [aP 4 F,aP 5 [],ak true]:=
 h.of
theorem arx(h:ad (I8 A C f g b a j k E q r c i d e s l m t u F v [.n v false,.b (a==7) true,.r 200 [.agg [I c,I i]] [.agg [I n,I o],ak w],.n w true])):
 ar 180 [.agg (bz C f g),aP 4 A,.agg (bi b c i d e)] [aP 4 F,aP 5 [],ak true]:=
 h.of
theorem ary(h:ad (I8 C E f j b a g i F q r c k d e s l m t u A v [.n v false,.b (a==7) true,.r 200 [.agg [I c,I k]] [.agg [I n,I o],ak w],.n w false,.l [] [21,11,10,18,13,14,9] [18,11] (ap Tryz.f180 0) (x1 a g i F l m A n o 0 []) (.exit 0) (vU A G)])):
 ar 180 [.agg (bz E f j),aP 4 C,.agg (bi b c k d e)] [aP 4 A,aP 5 G,ak true]:=
 h.of
theorem arz(h:ad (I8 C E f j b a g i F q r c k d e s l m t u A v [.n v false,.b (a==7) false,.l [] [21,11,10,18,13,14,9] [18,11] (ap Tryz.f180 0) (x2 c k a g i F l m A 0 []) (.exit 0) (vU A G)])):
 ar 180 [.agg (bz E f j),aP 4 C,.agg (bi b c k d e)] [aP 4 A,aP 5 G,ak true]:=
 h.of
theorem arA(h:ad (I7 A C b c d a j k E q r e f g i s l m t u [.b u false,.b (a==7) true,.r 200 [.agg [I e,I f]] [.agg [I n,I o],ak v],.n v true])):
 ar 180 [.agg (bz C b c),aP 4 A,.agg (bi d e f g i)] [aP 4 ([]++A),aP 5 [],ak true]:=
 h.of
theorem arB(h:ad (I7 A C b e f a c d E q r g i j k s l m t u [.b u false,.b (a==7) true,.r 200 [.agg [I g,I i]] [.agg [I n,I o],ak v],.n v false,.l [] [21,11,10,18,13,14,9] [18,11] (ap Tryz.f180 0) (x3 A a c d E l m n o 0 []) (.exit 0) (vV A F)])):
 ar 180 [.agg (bz C b e),aP 4 A,.agg (bi f g i j k)] [aP 4 ([]++A),aP 5 F,ak true]:=
 h.of
theorem arC(h:ad (I7 A C b e f a c d E q r g i j k s l m t u [.b u false,.b (a==7) false,.l [] [21,11,10,18,13,14,9] [18,11] (ap Tryz.f180 0) (x4 A g i a c d E l m 0 []) (.exit 0) (vV A F)])):
 ar 180 [.agg (bz C b e),aP 4 A,.agg (bi f g i j k)] [aP 4 ([]++A),aP 5 F,ak true]:=
 h.of
def Q1(A:af)(a b:Int)(q:Bool)(l:List O):List O:=.r 69 [.agg (bz A a b)] [ak q]::l
theorem Xf(h:ad (Q1 A a b q [.n q true,.r 176 [aP 4 E] [aP 4 C]])):
 ar 171 [.agg (bz A a b),aP 4 E,.agg (bi c d e f g)] [aP 4 C,aP 5 [],ak false]:=
 h.of
def Q2(A:af)(a b:Int)(q:Bool)(c d e f g:Int)(r:Bool)(l:List O):List O:=Q1 A a b q (.n q false::.r 116 [.agg (bi c d e f g)] [ak r]::l)
theorem Xg(h:ad (Q2 A a b r c d e f g q [.n q true,.r 176 [aP 4 E] [aP 4 C]])):
 ar 171 [.agg (bz A a b),aP 4 E,.agg (bi c d e f g)] [aP 4 C,aP 5 [],ak false]:=
 h.of
def Q3(A:af)(a b:Int)(q:Bool)(c d e f g:Int)(r s:Bool)(l:List O):List O:=Q2 A a b q c d e f g r (.n r false::.r 117 [.agg (bz A a b),ae c] [ak s]::l)
theorem arD(h:ad (Q3 A a b s c d e f g q r [.n r true,.r 176 [aP 4 E] [aP 4 C]])):
 ar 171 [.agg (bz A a b),aP 4 E,.agg (bi c d e f g)] [aP 4 C,aP 5 [],ak false]:=
 h.of
def IX(A:af)(a b:Int)(q:Bool)(c d e f g:Int)(r s:Bool)(i j k:Int)(C:af)(l:List O):List O:=Q3 A a b q c d e f g r s (.n s false::.x A c (br i j k C)::l)
def Ex(A:af)(a b:Int)(q:Bool)(c d e f g:Int)(r s:Bool)(i j k:Int)(C:af)(m n:Int)(t:Bool)(l:List O):List O:=IX A a b q c d e f g r s i j k C (.r 192 [.agg (br i j k C),ae f,ae g] [ae m,ae n,ak t]::l)
theorem arE(h:ad (Ex A b d t a j k e f q r c g i C l m s [.n s true,.b (c != 8) true,.r 176 [aP 4 F] [aP 4 E]])):
 ar 171 [.agg (bz A b d),aP 4 F,.agg (bi a j k e f)] [aP 4 E,aP 5 [],ak true]:=
 h.of
def Q4(A:af)(a b:Int)(q:Bool)(c d e f g:Int)(r s:Bool)(i j k:Int)(C:af)(m n:Int)(t:Bool)(E F:af)(u:Bool)(l:List O):List O:=Ex A a b q c d e f g r s i j k C m n t (.n t true::.b (i != 8) false::.r 193 [ae i,aP 4 E,.agg [I c,I d,I f,I g]] [aP 4 F,ak u]::l)
theorem arF(h:ad (Q4 A e f u a g k c d q r b i j C l m s F E t [.n t true])):
 ar 171 [.agg (bz A e f),aP 4 F,.agg (bi a g k c d)] [aP 4 E,aP 5 [],ak true]:=
 h.of
def s6(A:af)(a b:Int)(C:af)(c d:Int)(q:Bool)(e:Int)(E:af):aD:=a' 111 [(10,aT a),(11,aT b),(13,aI.aF (bp.one (aB 760000 4 C))),(14,aS 14),(15,.aF (.one (.bg q))),(16,aI.aF (bp.one (aB 107 5 E))),(93,dW 1 A),(94,aT (A.length:Int)),(95,aT e)] [(14,[av c,av d])]
theorem arG(h:ad [.i A e [I f],.b q true,.g C [(bi f c d a b)] 40,.h [(bi f c d a b)],.u e]):
 aV (ap Tryz.f171 0) (s6 A a b E c d q e C) .normal (s6 A a b E c d q (e+1) (C++[(bi f c d a b)])):=
 h.aQ [95,94,93,15,16,14,10,11,13] [14]
theorem arH(h:ad [.i A a [I f],.b q false,.u a]):
 aV (ap Tryz.f171 0) (s6 A b c C d e q a E) .normal (s6 A b c C d e q (a+1) E):=
 h.aQ [95,94,93,15,16,14,10,11,13] [14]
def vW(A C:af):aD:=a' 111 [(13,aI.aF (bp.one (aB 760000 4 A))),(16,aI.aF (bp.one (aB 107 5 C)))] []
theorem Xh(h:ad [.f A a false]):
 aV (ap Tryz.f171 0) (s6 A b c C d e q a E) (.exit 0) (vW C E):=
 h.aQ [13,16] []
theorem arI(h:ad (Q4 A f g v b c i d e q r a j k E l m s G C t [.n t false,.b (a==7) true,.r 194 [.agg [I c,I i]] [.agg [I n,I o],ak u],.l [(16,107,5)] [95,94,93,15,16,14,10,11,13] [14] (ap Tryz.f171 0) (s6 E l m C n o u 0 []) (.exit 0) (vW C F)])):
 ar 171 [.agg (bz A f g),aP 4 G,.agg (bi b c i d e)] [aP 4 C,aP 5 F,ak true]:=
 h.of
def x5(a b:Int)(A:af)(c d:Int)(C:af)(e:Int)(E:af):aD:=a' 111 [(10,aT c),(11,aT d),(13,aI.aF (bp.one (aB 760000 4 C))),(14,aS 14),(15,.aF (.one (.bg true))),(16,aI.aF (bp.one (aB 107 5 E))),(93,dW 1 A),(94,aT (A.length:Int)),(95,aT e)] [(14,[av a,av b])]
theorem arJ(h:ad [.i A e [I f],.b true true,.g C [(bi f c d a b)] 40,.h [(bi f c d a b)],.u e]):
 aV (ap Tryz.f171 0) (x5 c d A a b E e C) .normal (x5 c d A a b E (e+1) (C++[(bi f c d a b)])):=
 h.aQ [95,94,93,15,16,14,10,11,13] [14]
theorem arK(h:ad [.f A a false]):
 aV (ap Tryz.f171 0) (x5 d e A b c C a E) (.exit 0) (vW C E):=
 h.aQ [13,16] []
theorem arL(h:ad (Q4 A f g u b c i d e q r a j k E l m s G C t [.n t false,.b (a==7) false,.l [(16,107,5)] [95,94,93,15,16,14,10,11,13] [14] (ap Tryz.f171 0) (x5 c i E l m C 0 []) (.exit 0) (vW C F)])):
 ar 171 [.agg (bz A f g),aP 4 G,.agg (bi b c i d e)] [aP 4 C,aP 5 F,ak true]:=
 h.of
theorem arM(h:ad (Ex A d f u a g k b c q r e i j C l m s [.n s false,.r 193 [ae e,aP 4 F,.agg [I a,I g,I b,I c]] [aP 4 E,ak t],.n t true])):
 ar 171 [.agg (bz A d f),aP 4 F,.agg (bi a g k b c)] [aP 4 E,aP 5 [],ak true]:=
 h.of
theorem arN(h:ad (Ex A f g v a c i d e q r b j k E l m s [.n s false,.r 193 [ae b,aP 4 G,.agg [I a,I c,I d,I e]] [aP 4 C,ak t],.n t false,.b (b==7) true,.r 194 [.agg [I c,I i]] [.agg [I n,I o],ak u],.l [(16,107,5)] [95,94,93,15,16,14,10,11,13] [14] (ap Tryz.f171 0) (s6 E l m C n o u 0 []) (.exit 0) (vW C F)])):
 ar 171 [.agg (bz A f g),aP 4 G,.agg (bi a c i d e)] [aP 4 C,aP 5 F,ak true]:=
 h.of
theorem arO(h:ad (Ex A f g u a c i d e q r b j k E l m s [.n s false,.r 193 [ae b,aP 4 G,.agg [I a,I c,I d,I e]] [aP 4 C,ak t],.n t false,.b (b==7) false,.l [(16,107,5)] [95,94,93,15,16,14,10,11,13] [14] (ap Tryz.f171 0) (x5 c i E l m C 0 []) (.exit 0) (vW C F)])):
 ar 171 [.agg (bz A f g),aP 4 G,.agg (bi a c i d e)] [aP 4 C,aP 5 F,ak true]:=
 h.of
theorem arP(h:ad (Q1 A a b q [.n q true])):
 ar 172 [.agg (bz A a b),.agg (bi c d e f g)] [ak false]:=
 h.of
theorem arQ(h:ad (Q2 A a b q c d e f g r [.n r true])):
 ar 172 [.agg (bz A a b),.agg (bi c d e f g)] [ak false]:=
 h.of
theorem arR(h:ad (Q3 A a b r c d e f g s q [.n q true])):
 ar 172 [.agg (bz A a b),.agg (bi c d e f g)] [ak false]:=
 h.of
theorem arS(h:ad (IX A b c s a d e g i t q f j k C [.r 194 [.agg [I d,I e]] [.agg [I l,I m],ak r],.b (f==7) true,.b (decide ((C.length:Int)>0)) true])):
 ar 172 [.agg (bz A b c),.agg (bi a d e g i)] [.one (B !r)]:=
 h.of
theorem arT(h:ad (IX A b c r a d e g i s q f j k C [.r 194 [.agg [I d,I e]] [.agg [I l,I m],ak t],.b (f==7) true,.b (decide ((C.length:Int)>0)) false])):
 ar 172 [.agg (bz A b c),.agg (bi a d e g i)] [ak false]:=
 h.of
theorem aq1(h:ad (IX A b c r a d e g i s q f j k C [.r 194 [.agg [I d,I e]] [.agg [I l,I m],ak t],.b (f==7) false])):
 ar 172 [.agg (bz A b c),.agg (bi a d e g i)] [ak false]:=
 h.of
