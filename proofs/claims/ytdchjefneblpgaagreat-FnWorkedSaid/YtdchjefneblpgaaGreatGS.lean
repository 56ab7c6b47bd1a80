import Derived.Test.YtdchjefneblpgaaGreatGE
namespace Go.Proofs.YtdchjefneblpgaaGreat
open Go.Sx Go.RowKit
variable {a b c d e f g i j k l m n o : Int} {A C E F G : ae} {q r s t u v w : Bool}
def U1(A:ae)(a b c d e f:Int)(C:ae)(q:Bool)(g i j k:Int)(r:Bool)(l:List O):List O:=.r 249 [.agg (bl A a b),af c] [.agg (bf d e f C),ah q]::.r 270 [.agg [I g,I i]] [.agg [I j,I k],ah r]::l
def AN(A:ae)(a b c d e f:Int)(C:ae)(q:Bool)(g i j k:Int)(r s:Bool)(l:List O):List O:=U1 A a b c d e f C q g i j k r (.b q true::.r 121 [.agg (bl A a b)] [ah s]::l)
theorem aao(h:ad (AN A a b c i m j C q d e k l r s [.b s true,.r 122 [.agg (bj c d e f g)] [ah t],.b t true,.b (i==7) true,.b (decide ((C.length:Int)>0)) true])):
ar 177 [.agg (bl A a b),.agg (bj c d e f g)] [.one (B !r)]:=
h.of
theorem aap(h:ad (AN A a b c i m j C q d e k l t r [.b r true,.r 122 [.agg (bj c d e f g)] [ah s],.b s true,.b (i==7) true,.b (decide ((C.length:Int)>0)) false])):
ar 177 [.agg (bl A a b),.agg (bj c d e f g)] [ah false]:=
h.of
theorem aaq(h:ad (AN A a b c i m j C q d e k l t r [.b r true,.r 122 [.agg (bj c d e f g)] [ah s],.b s true,.b (i==7) false])):
ar 177 [.agg (bl A a b),.agg (bj c d e f g)] [ah false]:=
h.of
theorem aar(h:ad (AN A a b c l m i C q d e j k t r [.b r true,.r 122 [.agg (bj c d e f g)] [ah s],.b s false])):
ar 177 [.agg (bl A a b),.agg (bj c d e f g)] [ah false]:=
h.of
theorem abU(h:ad (AN A a b c l m f C q d e g i s r [.b r false])):
ar 177 [.agg (bl A a b),.agg (bj c d e j k)] [ah false]:=
h.of
theorem abV(h:ad (U1 A a b c l m f C q d e g i r [.b q false])):
ar 177 [.agg (bl A a b),.agg (bj c d e j k)] [ah false]:=
h.of
def U2(A C:ae)(a b c d e f:Int)(E:ae)(q:Bool)(l:List O):List O:=.g ([]:ae) A 32::.h A::.r 249 [.agg (bl C a b),af c] [.agg (bf d e f E),ah q]::l
theorem abW(h:ad (U2 A C a b c k d e E q [.n q true])):
ar 176 [.agg (bl C a b),aP 4 A,.agg (bj c f g i j)] [aP 4 ([]++A),aP 5 [],ah false]:=
h.of
def U3(A C:ae)(a b c d e f:Int)(E:ae)(q r:Bool)(l:List O):List O:=U2 A C a b c d e f E q (.n q false::.r 121 [.agg (bl C a b)] [ah r]::l)
theorem abX(h:ad (U3 A C a b c k d e E q r [.n r true])):
ar 176 [.agg (bl C a b),aP 4 A,.agg (bj c f g i j)] [aP 4 ([]++A),aP 5 [],ah false]:=
h.of
def U4(A C:ae)(a b c d e f:Int)(E:ae)(q r:Bool)(g i j k:Int)(s:Bool)(l:List O):List O:=U3 A C a b c d e f E q r (.n r false::.r 122 [.agg (bj c g i j k)] [ah s]::l)
theorem abY(h:ad (U4 A C a b c k i j E q r d e f g s [.n s true])):
ar 176 [.agg (bl C a b),aP 4 A,.agg (bj c d e f g)] [aP 4 ([]++A),aP 5 [],ah false]:=
h.of
def LV(A C:ae)(a b c d e f:Int)(E:ae)(q r:Bool)(g i j k:Int)(s:Bool)(m n:Int)(t:Bool)(l:List O):List O:=U4 A C a b c d e f E q r g i j k s (.n s false::.r 267 [.agg (bf d e f E),af j,af k] [af m,af n,ah t]::l)
theorem abZ(h:ad (LV A C a b c f g i E q r j k d e s l m t [.n t true,.b (f != 8) true])):
ar 176 [.agg (bl C a b),aP 4 A,.agg (bj c j k d e)] [aP 4 ([]++A),aP 5 [],ah true]:=
h.of
def Er(A C:ae)(a b c d e f:Int)(E:ae)(q r:Bool)(g i j k:Int)(s:Bool)(m n:Int)(t u:Bool)(l:List O):List O:=LV A C a b c d e f E q r g i j k s m n t (.n t true::.b (d != 8) false::.r 268 [af d] [ah u]::l)
def Es(A C:ae)(a b c d e f:Int)(E:ae)(q r:Bool)(g i j k:Int)(s:Bool)(m n:Int)(t u:Bool)(F:ae)(v:Bool)(l:List O):List O:=Er A C a b c d e f E q r g i j k s m n t u (.b u true::.r 269 [af d,aP 4 A,.agg [I c,I g,I j,I k]] [aP 4 F,ah v]::l)
theorem ab0(h:ad (Es A C e f b a i j E q r g k c d s l m t u F v [.n v true])):
ar 176 [.agg (bl C e f),aP 4 A,.agg (bj b g k c d)] [aP 4 F,aP 5 [],ah true]:=
h.of
theorem ab1(h:ad (Es A C f g b a j k E q r c i d e s l m t u F v [.n v false,.b (a==7) true,.r 270 [.agg [I c,I i]] [.agg [I n,I o],ah w],.n w true])):
ar 176 [.agg (bl C f g),aP 4 A,.agg (bj b c i d e)] [aP 4 F,aP 5 [],ah true]:=
h.of
def uV(a b c:Int)(C:ae)(d e:Int)(E:ae)(f g i:Int)(A:ae):aD:=bd 127 [(9,aE.aF (bm.one (aA 840000 4 E))),(10,aE.aF (bm.one (aA 25 5 A))),(11,aQ 11),(13,aW d),(14,aW e),(18,aQ 18),(21,aW i)] [(18,[au f,au g]),(11,[au a,au b,au c,aA 310003 1 C])]
def Ev(A:ae)(a b:Int)(C:ae)(c d e f:Int)(l:List O):List O:=.i A a [I b]::.g C [(bj b c d e f)] 40::.h [(bj b c d e f)]::.u a::l
theorem ab2(h:ad (Ev A e f C c d a b [])):
aY (ao Tryz.f176 0) (uV j g i A a b E c d e C) .normal (uV j g i A a b E c d (e+1) (C++[(bj f c d a b)])):=
h.aV [21,11,10,18,13,14,9] [18,11]
def sN(A C:ae):aD:=bd 127 [(9,aE.aF (bm.one (aA 840000 4 A))),(10,aE.aF (bm.one (aA 25 5 C)))] []
theorem ab3(h:ad [.f A a false]):
aY (ao Tryz.f176 0) (uV i b c A d e C f g a E) (.exit 0) (sN C E):=
h.aV [9,10] []
theorem ab4(h:ad (Es C E f j b a g i F q r c k d e s l m t u A v [.n v false,.b (a==7) true,.r 270 [.agg [I c,I k]] [.agg [I n,I o],ah w],.n w false,.l [] [21,11,10,18,13,14,9] [18,11] (ao Tryz.f176 0) (uV a g i F l m A n o 0 []) (.exit 0) (sN A G)])):
ar 176 [.agg (bl E f j),aP 4 C,.agg (bj b c k d e)] [aP 4 A,aP 5 G,ah true]:=
h.of
def uW(a b c d e:Int)(C:ae)(f g:Int)(E:ae)(i:Int)(A:ae):aD:=bd 127 [(9,aE.aF (bm.one (aA 840000 4 E))),(10,aE.aF (bm.one (aA 25 5 A))),(11,aQ 11),(13,aW f),(14,aW g),(18,aQ 18),(21,aW i)] [(18,[au a,au b]),(11,[au c,au d,au e,aA 310003 1 C])]
theorem ab5(h:ad (Ev A e f C c d a b [])):
aY (ao Tryz.f176 0) (uW c d j g i A a b E e C) .normal (uW c d j g i A a b E (e+1) (C++[(bj f c d a b)])):=
h.aV [21,11,10,18,13,14,9] [18,11]
theorem ab6(h:ad [.f A a false]):
aY (ao Tryz.f176 0) (uW f g i b c A d e C a E) (.exit 0) (sN C E):=
h.aV [9,10] []
theorem ab7(h:ad (Es C E f j b a g i F q r c k d e s l m t u A v [.n v false,.b (a==7) false,.l [] [21,11,10,18,13,14,9] [18,11] (ao Tryz.f176 0) (uW c k a g i F l m A 0 []) (.exit 0) (sN A G)])):
ar 176 [.agg (bl E f j),aP 4 C,.agg (bj b c k d e)] [aP 4 A,aP 5 G,ah true]:=
h.of
theorem ab8(h:ad (Er A C b c d a j k E q r e f g i s l m t u [.b u false,.b (a==7) true,.r 270 [.agg [I e,I f]] [.agg [I n,I o],ah v],.n v true])):
ar 176 [.agg (bl C b c),aP 4 A,.agg (bj d e f g i)] [aP 4 ([]++A),aP 5 [],ah true]:=
h.of
def uX(A:ae)(a b c:Int)(E:ae)(d e f g i:Int)(C:ae):aD:=bd 127 [(9,aE.aF (bm.one (aA 22 4 ([]++A)))),(10,aE.aF (bm.one (aA 25 5 C))),(11,aQ 11),(13,aW d),(14,aW e),(18,aQ 18),(21,aW i)] [(18,[au f,au g]),(11,[au a,au b,au c,aA 310003 1 E])]
theorem ab9(h:ad (Ev A e f C c d a b [])):
aY (ao Tryz.f176 0) (uX E j g i A a b c d e C) .normal (uX E j g i A a b c d (e+1) (C++[(bj f c d a b)])):=
h.aV [21,11,10,18,13,14,9] [18,11]
def sO(A C:ae):aD:=bd 127 [(9,aE.aF (bm.one (aA 22 4 ([]++A)))),(10,aE.aF (bm.one (aA 25 5 C)))] []
theorem aca(h:ad [.f A a false]):
aY (ao Tryz.f176 0) (uX E i b c A d e f g a C) (.exit 0) (sO E C):=
h.aV [9,10] []
theorem acb(h:ad (Er A C b e f a c d E q r g i j k s l m t u [.b u false,.b (a==7) true,.r 270 [.agg [I g,I i]] [.agg [I n,I o],ah v],.n v false,.l [] [21,11,10,18,13,14,9] [18,11] (ao Tryz.f176 0) (uX A a c d E l m n o 0 []) (.exit 0) (sO A F)])):
ar 176 [.agg (bl C b e),aP 4 A,.agg (bj f g i j k)] [aP 4 ([]++A),aP 5 F,ah true]:=
h.of
def uY(A:ae)(a b c d e:Int)(E:ae)(f g i:Int)(C:ae):aD:=bd 127 [(9,aE.aF (bm.one (aA 22 4 ([]++A)))),(10,aE.aF (bm.one (aA 25 5 C))),(11,aQ 11),(13,aW f),(14,aW g),(18,aQ 18),(21,aW i)] [(18,[au a,au b]),(11,[au c,au d,au e,aA 310003 1 E])]
theorem acd(h:ad (Ev A e f C c d a b [])):
aY (ao Tryz.f176 0) (uY E c d j g i A a b e C) .normal (uY E c d j g i A a b (e+1) (C++[(bj f c d a b)])):=
h.aV [21,11,10,18,13,14,9] [18,11]
theorem ace(h:ad [.f A a false]):
aY (ao Tryz.f176 0) (uY E f g i b c A d e a C) (.exit 0) (sO E C):=
h.aV [9,10] []
theorem acf(h:ad (Er A C b e f a c d E q r g i j k s l m t u [.b u false,.b (a==7) false,.l [] [21,11,10,18,13,14,9] [18,11] (ao Tryz.f176 0) (uY A g i a c d E l m 0 []) (.exit 0) (sO A F)])):
ar 176 [.agg (bl C b e),aP 4 A,.agg (bj f g i j k)] [aP 4 ([]++A),aP 5 F,ah true]:=
h.of
def Et(A C:ae)(a b c d e f:Int)(E:ae)(q r:Bool)(g i j k:Int)(s:Bool)(m n:Int)(t u:Bool)(l:List O):List O:=LV A C a b c d e f E q r g i j k s m n t (.n t false::.r 268 [af d] [ah u]::l)
def Eu(A C:ae)(a b c d e f:Int)(E:ae)(q r:Bool)(g i j k:Int)(s:Bool)(m n:Int)(t u:Bool)(F:ae)(v:Bool)(l:List O):List O:=Et A C a b c d e f E q r g i j k s m n t u (.b u true::.r 269 [af d,aP 4 A,.agg [I c,I g,I j,I k]] [aP 4 F,ah v]::l)
theorem acg(h:ad (Eu A C e f a d i j E q r g k b c s l m t u F v [.n v true])):
ar 176 [.agg (bl C e f),aP 4 A,.agg (bj a g k b c)] [aP 4 F,aP 5 [],ah true]:=
h.of
theorem ach(h:ad (Eu A C f g b a j k E q r c i d e s l m t u F v [.n v false,.b (a==7) true,.r 270 [.agg [I c,I i]] [.agg [I n,I o],ah w],.n w true])):
ar 176 [.agg (bl C f g),aP 4 A,.agg (bj b c i d e)] [aP 4 F,aP 5 [],ah true]:=
h.of
theorem aci(h:ad (Eu C E f j b a g i F q r c k d e s l m t u A v [.n v false,.b (a==7) true,.r 270 [.agg [I c,I k]] [.agg [I n,I o],ah w],.n w false,.l [] [21,11,10,18,13,14,9] [18,11] (ao Tryz.f176 0) (uV a g i F l m A n o 0 []) (.exit 0) (sN A G)])):
ar 176 [.agg (bl E f j),aP 4 C,.agg (bj b c k d e)] [aP 4 A,aP 5 G,ah true]:=
h.of
theorem acj(h:ad (Eu C E f j b a g i F q r c k d e s l m t u A v [.n v false,.b (a==7) false,.l [] [21,11,10,18,13,14,9] [18,11] (ao Tryz.f176 0) (uW c k a g i F l m A 0 []) (.exit 0) (sN A G)])):
ar 176 [.agg (bl E f j),aP 4 C,.agg (bj b c k d e)] [aP 4 A,aP 5 G,ah true]:=
h.of
theorem ack(h:ad (Et A C b c d a j k E q r e f g i s l m t u [.b u false,.b (a==7) true,.r 270 [.agg [I e,I f]] [.agg [I n,I o],ah v],.n v true])):
ar 176 [.agg (bl C b c),aP 4 A,.agg (bj d e f g i)] [aP 4 ([]++A),aP 5 [],ah true]:=
h.of
theorem abu(h:ad (Et A C b e f a c d E q r g i j k s l m t u [.b u false,.b (a==7) true,.r 270 [.agg [I g,I i]] [.agg [I n,I o],ah v],.n v false,.l [] [21,11,10,18,13,14,9] [18,11] (ao Tryz.f176 0) (uX A a c d E l m n o 0 []) (.exit 0) (sO A F)])):
ar 176 [.agg (bl C b e),aP 4 A,.agg (bj f g i j k)] [aP 4 ([]++A),aP 5 F,ah true]:=
h.of
theorem abv(h:ad (Et A C b e f a c d E q r g i j k s l m t u [.b u false,.b (a==7) false,.l [] [21,11,10,18,13,14,9] [18,11] (ao Tryz.f176 0) (uY A g i a c d E l m 0 []) (.exit 0) (sO A F)])):
ar 176 [.agg (bl C b e),aP 4 A,.agg (bj f g i j k)] [aP 4 ([]++A),aP 5 F,ah true]:=
h.of
def LW(A:ae)(a b:Int)(q:Bool)(l:List O):List O:=.r 179 [.agg (bl A a b)] [ah q]::l
theorem Qn(h:ad (LW A a b q [.n q true,.r 297 [aP 4 E] [aP 4 C]])):
ar 232 [.agg (bl A a b),aP 4 E,.agg (bj c d e f g)] [aP 4 C,aP 5 [],ah false]:=
h.of
def LX(A:ae)(a b:Int)(q:Bool)(c d e f g:Int)(r:Bool)(l:List O):List O:=LW A a b q (.n q false::.r 180 [.agg (bj c d e f g)] [ah r]::l)
theorem Qo(h:ad (LX A a b r c d e f g q [.n q true,.r 297 [aP 4 E] [aP 4 C]])):
ar 232 [.agg (bl A a b),aP 4 E,.agg (bj c d e f g)] [aP 4 C,aP 5 [],ah false]:=
h.of
def LY(A:ae)(a b:Int)(q:Bool)(c d e f g:Int)(r s:Bool)(l:List O):List O:=LX A a b q c d e f g r (.n r false::.r 250 [.agg (bl A a b),af c] [ah s]::l)
theorem abw(h:ad (LY A a b s c d e f g q r [.n r true,.r 297 [aP 4 E] [aP 4 C]])):
ar 232 [.agg (bl A a b),aP 4 E,.agg (bj c d e f g)] [aP 4 C,aP 5 [],ah false]:=
h.of
def Ew(A:ae)(a b:Int)(q:Bool)(c d e f g:Int)(r s:Bool)(i j k:Int)(C:ae)(l:List O):List O:=LY A a b q c d e f g r s (.n s false::.x A c (bf i j k C)::l)
def AO(A:ae)(a b:Int)(q:Bool)(c d e f g:Int)(r s:Bool)(i j k:Int)(C:ae)(m n:Int)(t:Bool)(l:List O):List O:=Ew A a b q c d e f g r s i j k C (.r 298 [.agg (bf i j k C),af f,af g] [af m,af n,ah t]::l)
theorem abx(h:ad (AO A b d t a j k e f q r c g i C l m s [.n s true,.b (c != 8) true,.r 297 [aP 4 F] [aP 4 E]])):
ar 232 [.agg (bl A b d),aP 4 F,.agg (bj a j k e f)] [aP 4 E,aP 5 [],ah true]:=
h.of
def LZ(A:ae)(a b:Int)(q:Bool)(c d e f g:Int)(r s:Bool)(i j k:Int)(C:ae)(m n:Int)(t:Bool)(E F:ae)(u:Bool)(l:List O):List O:=AO A a b q c d e f g r s i j k C m n t (.n t true::.b (i != 8) false::.r 299 [af i,aP 4 E,.agg [I c,I d,I f,I g]] [aP 4 F,ah u]::l)
theorem aby(h:ad (LZ A e f u a g k c d q r b i j C l m s F E t [.n t true])):
ar 232 [.agg (bl A e f),aP 4 F,.agg (bj a g k c d)] [aP 4 E,aP 5 [],ah true]:=
h.of
def qo(A:ae)(a b:Int)(C:ae)(c d:Int)(q:Bool)(e:Int)(E:ae):aD:=bd 111 [(10,aW a),(11,aW b),(13,aE.aF (bm.one (aA 760000 4 C))),(14,aQ 14),(15,.aF (.one (.a' q))),(16,aE.aF (bm.one (aA 107 5 E))),(93,dj 1 A),(94,aW (A.length:Int)),(95,aW e)] [(14,[au c,au d])]
theorem abz(h:ad [.i A e [I f],.b q true,.g C [(bj f c d a b)] 40,.h [(bj f c d a b)],.u e]):
aY (ao Tryz.f232 0) (qo A a b E c d q e C) .normal (qo A a b E c d q (e+1) (C++[(bj f c d a b)])):=
h.aV [95,94,93,15,16,14,10,11,13] [14]
theorem abA(h:ad [.i A a [I f],.b q false,.u a]):
aY (ao Tryz.f232 0) (qo A b c C d e q a E) .normal (qo A b c C d e q (a+1) E):=
h.aV [95,94,93,15,16,14,10,11,13] [14]
def sP(A C:ae):aD:=bd 111 [(13,aE.aF (bm.one (aA 760000 4 A))),(16,aE.aF (bm.one (aA 107 5 C)))] []
theorem Qp(h:ad [.f A a false]):
aY (ao Tryz.f232 0) (qo A b c C d e q a E) (.exit 0) (sP C E):=
h.aV [13,16] []
theorem abB(h:ad (LZ A f g v b c i d e q r a j k E l m s G C t [.n t false,.b (a==7) true,.r 300 [.agg [I c,I i]] [.agg [I n,I o],ah u],.l [(16,107,5)] [95,94,93,15,16,14,10,11,13] [14] (ao Tryz.f232 0) (qo E l m C n o u 0 []) (.exit 0) (sP C F)])):
ar 232 [.agg (bl A f g),aP 4 G,.agg (bj b c i d e)] [aP 4 C,aP 5 F,ah true]:=
h.of
def uZ(a b:Int)(A:ae)(c d:Int)(C:ae)(e:Int)(E:ae):aD:=bd 111 [(10,aW c),(11,aW d),(13,aE.aF (bm.one (aA 760000 4 C))),(14,aQ 14),(15,.aF (.one (.a' true))),(16,aE.aF (bm.one (aA 107 5 E))),(93,dj 1 A),(94,aW (A.length:Int)),(95,aW e)] [(14,[au a,au b])]
theorem abC(h:ad [.i A e [I f],.b true true,.g C [(bj f c d a b)] 40,.h [(bj f c d a b)],.u e]):
aY (ao Tryz.f232 0) (uZ c d A a b E e C) .normal (uZ c d A a b E (e+1) (C++[(bj f c d a b)])):=
h.aV [95,94,93,15,16,14,10,11,13] [14]
theorem abD(h:ad [.f A a false]):
aY (ao Tryz.f232 0) (uZ d e A b c C a E) (.exit 0) (sP C E):=
h.aV [13,16] []
theorem abE(h:ad (LZ A f g u b c i d e q r a j k E l m s G C t [.n t false,.b (a==7) false,.l [(16,107,5)] [95,94,93,15,16,14,10,11,13] [14] (ao Tryz.f232 0) (uZ c i E l m C 0 []) (.exit 0) (sP C F)])):
ar 232 [.agg (bl A f g),aP 4 G,.agg (bj b c i d e)] [aP 4 C,aP 5 F,ah true]:=
h.of
theorem abF(h:ad (AO A d f u a g k b c q r e i j C l m s [.n s false,.r 299 [af e,aP 4 F,.agg [I a,I g,I b,I c]] [aP 4 E,ah t],.n t true])):
ar 232 [.agg (bl A d f),aP 4 F,.agg (bj a g k b c)] [aP 4 E,aP 5 [],ah true]:=
h.of
theorem abG(h:ad (AO A f g v a c i d e q r b j k E l m s [.n s false,.r 299 [af b,aP 4 G,.agg [I a,I c,I d,I e]] [aP 4 C,ah t],.n t false,.b (b==7) true,.r 300 [.agg [I c,I i]] [.agg [I n,I o],ah u],.l [(16,107,5)] [95,94,93,15,16,14,10,11,13] [14] (ao Tryz.f232 0) (qo E l m C n o u 0 []) (.exit 0) (sP C F)])):
ar 232 [.agg (bl A f g),aP 4 G,.agg (bj a c i d e)] [aP 4 C,aP 5 F,ah true]:=
h.of
theorem abH(h:ad (AO A f g u a c i d e q r b j k E l m s [.n s false,.r 299 [af b,aP 4 G,.agg [I a,I c,I d,I e]] [aP 4 C,ah t],.n t false,.b (b==7) false,.l [(16,107,5)] [95,94,93,15,16,14,10,11,13] [14] (ao Tryz.f232 0) (uZ c i E l m C 0 []) (.exit 0) (sP C F)])):
ar 232 [.agg (bl A f g),aP 4 G,.agg (bj a c i d e)] [aP 4 C,aP 5 F,ah true]:=
h.of
theorem abI(h:ad (LW A a b q [.n q true])):
ar 265 [.agg (bl A a b),.agg (bj c d e f g)] [ah false]:=
h.of
theorem abJ(h:ad (LX A a b q c d e f g r [.n r true])):
ar 265 [.agg (bl A a b),.agg (bj c d e f g)] [ah false]:=
h.of
theorem abK(h:ad (LY A a b r c d e f g s q [.n q true])):
ar 265 [.agg (bl A a b),.agg (bj c d e f g)] [ah false]:=
h.of
theorem abL(h:ad (Ew A b c s a d e g i t q f j k C [.r 300 [.agg [I d,I e]] [.agg [I l,I m],ah r],.b (f==7) true,.b (decide ((C.length:Int)>0)) true])):
ar 265 [.agg (bl A b c),.agg (bj a d e g i)] [.one (B !r)]:=
h.of
theorem abM(h:ad (Ew A b c r a d e g i s q f j k C [.r 300 [.agg [I d,I e]] [.agg [I l,I m],ah t],.b (f==7) true,.b (decide ((C.length:Int)>0)) false])):
ar 265 [.agg (bl A b c),.agg (bj a d e g i)] [ah false]:=
h.of
theorem abN(h:ad (Ew A b c r a d e g i s q f j k C [.r 300 [.agg [I d,I e]] [.agg [I l,I m],ah t],.b (f==7) false])):
ar 265 [.agg (bl A b c),.agg (bj a d e g i)] [ah false]:=
h.of
