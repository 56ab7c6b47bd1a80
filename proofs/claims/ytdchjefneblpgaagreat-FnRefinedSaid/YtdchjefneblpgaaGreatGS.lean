import Derived.Test.YtdchjefneblpgaaGreatGE
set_option linter.unusedVariables false
set_option linter.unusedSimpArgs false
namespace Go.Proofs.YtdchjefneblpgaaGreat
open Go.Sx Go.RowKit
variable {a b c d e f g i j k l m n o : Int} {A C E F G : ae} {q r s t u v w : Bool}
def Z1(A:ae)(a b c d e f:Int)(C:ae)(q:Bool)(g i j k:Int)(r:Bool)(l:List O):List O:=.r 249 [.agg (bA A a b),ag c] [.agg (bt d e f C),ai q]::.r 270 [.agg [I g,I i]] [.agg [I j,I k],ai r]::l
def Dm(A:ae)(a b c d e f:Int)(C:ae)(q:Bool)(g i j k:Int)(r s:Bool)(l:List O):List O:=Z1 A a b c d e f C q g i j k r (.b q true::.r 121 [.agg (bA A a b)] [ai s]::l)
theorem akD(h:ad (Dm A a b c i m j C q d e k l r s [.b s true,.r 122 [.agg (aS c d e f g)] [ai t],.b t true,.b (i==7) true,.b (decide ((C.length:Int)>0)) true])):
 al 177 [.agg (bA A a b),.agg (aS c d e f g)] [.one (B !r)]:=
 h.of
theorem akE(h:ad (Dm A a b c i m j C q d e k l t r [.b r true,.r 122 [.agg (aS c d e f g)] [ai s],.b s true,.b (i==7) true,.b (decide ((C.length:Int)>0)) false])):
 al 177 [.agg (bA A a b),.agg (aS c d e f g)] [ai false]:=
 h.of
theorem akF(h:ad (Dm A a b c i m j C q d e k l t r [.b r true,.r 122 [.agg (aS c d e f g)] [ai s],.b s true,.b (i==7) false])):
 al 177 [.agg (bA A a b),.agg (aS c d e f g)] [ai false]:=
 h.of
theorem akG(h:ad (Dm A a b c l m i C q d e j k t r [.b r true,.r 122 [.agg (aS c d e f g)] [ai s],.b s false])):
 al 177 [.agg (bA A a b),.agg (aS c d e f g)] [ai false]:=
 h.of
theorem akH(h:ad (Dm A a b c l m f C q d e g i s r [.b r false])):
 al 177 [.agg (bA A a b),.agg (aS c d e j k)] [ai false]:=
 h.of
theorem akI(h:ad (Z1 A a b c l m f C q d e g i r [.b q false])):
 al 177 [.agg (bA A a b),.agg (aS c d e j k)] [ai false]:=
 h.of
def Z2(A C:ae)(a b c d e f:Int)(E:ae)(q:Bool)(l:List O):List O:=.g ([]:ae) A 32::.h A::.r 249 [.agg (bA C a b),ag c] [.agg (bt d e f E),ai q]::l
theorem akJ(h:ad (Z2 A C a b c k d e E q [.n q true])):
 al 176 [.agg (bA C a b),aC 4 A,.agg (aS c f g i j)] [aC 4 ([]++A),aC 5 [],ai false]:=
 h.of
def Z3(A C:ae)(a b c d e f:Int)(E:ae)(q r:Bool)(l:List O):List O:=Z2 A C a b c d e f E q (.n q false::.r 121 [.agg (bA C a b)] [ai r]::l)
theorem akK(h:ad (Z3 A C a b c k d e E q r [.n r true])):
 al 176 [.agg (bA C a b),aC 4 A,.agg (aS c f g i j)] [aC 4 ([]++A),aC 5 [],ai false]:=
 h.of
def Z4(A C:ae)(a b c d e f:Int)(E:ae)(q r:Bool)(g i j k:Int)(s:Bool)(l:List O):List O:=Z3 A C a b c d e f E q r (.n r false::.r 122 [.agg (aS c g i j k)] [ai s]::l)
theorem akL(h:ad (Z4 A C a b c k i j E q r d e f g s [.n s true])):
 al 176 [.agg (bA C a b),aC 4 A,.agg (aS c d e f g)] [aC 4 ([]++A),aC 5 [],ai false]:=
 h.of
def PZ(A C:ae)(a b c d e f:Int)(E:ae)(q r:Bool)(g i j k:Int)(s:Bool)(m n:Int)(t:Bool)(l:List O):List O:=Z4 A C a b c d e f E q r g i j k s (.n s false::.r 267 [.agg (bt d e f E),ag j,ag k] [ag m,ag n,ai t]::l)
theorem akM(h:ad (PZ A C a b c f g i E q r j k d e s l m t [.n t true,.b (f != 8) true])):
 al 176 [.agg (bA C a b),aC 4 A,.agg (aS c j k d e)] [aC 4 ([]++A),aC 5 [],ai true]:=
 h.of
def Hz(A C:ae)(a b c d e f:Int)(E:ae)(q r:Bool)(g i j k:Int)(s:Bool)(m n:Int)(t u:Bool)(l:List O):List O:=PZ A C a b c d e f E q r g i j k s m n t (.n t true::.b (d != 8) false::.r 268 [ag d] [ai u]::l)
def HA(A C:ae)(a b c d e f:Int)(E:ae)(q r:Bool)(g i j k:Int)(s:Bool)(m n:Int)(t u:Bool)(F:ae)(v:Bool)(l:List O):List O:=Hz A C a b c d e f E q r g i j k s m n t u (.b u true::.r 269 [ag d,aC 4 A,.agg [I c,I g,I j,I k]] [aC 4 F,ai v]::l)
theorem akN(h:ad (HA A C e f b a i j E q r g k c d s l m t u F v [.n v true])):
 al 176 [.agg (bA C e f),aC 4 A,.agg (aS b g k c d)] [aC 4 F,aC 5 [],ai true]:=
 h.of
theorem akO(h:ad (HA A C f g b a j k E q r c i d e s l m t u F v [.n v false,.b (a==7) true,.r 270 [.agg [I c,I i]] [.agg [I n,I o],ai w],.n w true])):
 al 176 [.agg (bA C f g),aC 4 A,.agg (aS b c i d e)] [aC 4 F,aC 5 [],ai true]:=
 h.of
def xH(a b c:Int)(C:ae)(d e:Int)(E:ae)(f g i:Int)(A:ae):aJ:=bj 127 [(9,aL.aI (bn.one (aB 840000 4 E))),(10,aL.aI (bn.one (aB 25 5 A))),(11,aR 11),(13,a6 d),(14,a6 e),(18,aR 18),(21,a6 i)] [(18,[au f,au g]),(11,[au a,au b,au c,aB 310003 1 C])]
def Hs(A:ae)(a b:Int)(C:ae)(c d e f:Int)(l:List O):List O:=.i A a [I b]::.g C [(aS b c d e f)] 40::.h [(aS b c d e f)]::.u a::l
theorem akP(h:ad (Hs A e f C c d a b [])):
 a7 (ar Tryz.f176 0) (xH j g i A a b E c d e C) .normal (xH j g i A a b E c d (e+1) (C++[(aS f c d a b)])):=
 h.aY [21,11,10,18,13,14,9] [18,11]
def vH(A C:ae):aJ:=bj 127 [(9,aL.aI (bn.one (aB 840000 4 A))),(10,aL.aI (bn.one (aB 25 5 C)))] []
theorem akQ(h:ad [.f A a false]):
 a7 (ar Tryz.f176 0) (xH i b c A d e C f g a E) (.exit 0) (vH C E):=
 h.aY [9,10] []
theorem akR(h:ad (HA C E f j b a g i F q r c k d e s l m t u A v [.n v false,.b (a==7) true,.r 270 [.agg [I c,I k]] [.agg [I n,I o],ai w],.n w false,.l [] [21,11,10,18,13,14,9] [18,11] (ar Tryz.f176 0) (xH a g i F l m A n o 0 []) (.exit 0) (vH A G)])):
 al 176 [.agg (bA E f j),aC 4 C,.agg (aS b c k d e)] [aC 4 A,aC 5 G,ai true]:=
 h.of
def xI(a b c d e:Int)(C:ae)(f g:Int)(E:ae)(i:Int)(A:ae):aJ:=bj 127 [(9,aL.aI (bn.one (aB 840000 4 E))),(10,aL.aI (bn.one (aB 25 5 A))),(11,aR 11),(13,a6 f),(14,a6 g),(18,aR 18),(21,a6 i)] [(18,[au a,au b]),(11,[au c,au d,au e,aB 310003 1 C])]
theorem akS(h:ad (Hs A e f C c d a b [])):
 a7 (ar Tryz.f176 0) (xI c d j g i A a b E e C) .normal (xI c d j g i A a b E (e+1) (C++[(aS f c d a b)])):=
 h.aY [21,11,10,18,13,14,9] [18,11]
theorem akT(h:ad [.f A a false]):
 a7 (ar Tryz.f176 0) (xI f g i b c A d e C a E) (.exit 0) (vH C E):=
 h.aY [9,10] []
theorem akU(h:ad (HA C E f j b a g i F q r c k d e s l m t u A v [.n v false,.b (a==7) false,.l [] [21,11,10,18,13,14,9] [18,11] (ar Tryz.f176 0) (xI c k a g i F l m A 0 []) (.exit 0) (vH A G)])):
 al 176 [.agg (bA E f j),aC 4 C,.agg (aS b c k d e)] [aC 4 A,aC 5 G,ai true]:=
 h.of
theorem akV(h:ad (Hz A C b c d a j k E q r e f g i s l m t u [.b u false,.b (a==7) true,.r 270 [.agg [I e,I f]] [.agg [I n,I o],ai v],.n v true])):
 al 176 [.agg (bA C b c),aC 4 A,.agg (aS d e f g i)] [aC 4 ([]++A),aC 5 [],ai true]:=
 h.of
def xJ(A:ae)(a b c:Int)(E:ae)(d e f g i:Int)(C:ae):aJ:=bj 127 [(9,aL.aI (bn.one (aB 22 4 ([]++A)))),(10,aL.aI (bn.one (aB 25 5 C))),(11,aR 11),(13,a6 d),(14,a6 e),(18,aR 18),(21,a6 i)] [(18,[au f,au g]),(11,[au a,au b,au c,aB 310003 1 E])]
theorem akW(h:ad (Hs A e f C c d a b [])):
 a7 (ar Tryz.f176 0) (xJ E j g i A a b c d e C) .normal (xJ E j g i A a b c d (e+1) (C++[(aS f c d a b)])):=
 h.aY [21,11,10,18,13,14,9] [18,11]
def vI(A C:ae):aJ:=bj 127 [(9,aL.aI (bn.one (aB 22 4 ([]++A)))),(10,aL.aI (bn.one (aB 25 5 C)))] []
theorem akX(h:ad [.f A a false]):
 a7 (ar Tryz.f176 0) (xJ E i b c A d e f g a C) (.exit 0) (vI E C):=
 h.aY [9,10] []
theorem aj8(h:ad (Hz A C b e f a c d E q r g i j k s l m t u [.b u false,.b (a==7) true,.r 270 [.agg [I g,I i]] [.agg [I n,I o],ai v],.n v false,.l [] [21,11,10,18,13,14,9] [18,11] (ar Tryz.f176 0) (xJ A a c d E l m n o 0 []) (.exit 0) (vI A F)])):
 al 176 [.agg (bA C b e),aC 4 A,.agg (aS f g i j k)] [aC 4 ([]++A),aC 5 F,ai true]:=
 h.of
def xK(A:ae)(a b c d e:Int)(E:ae)(f g i:Int)(C:ae):aJ:=bj 127 [(9,aL.aI (bn.one (aB 22 4 ([]++A)))),(10,aL.aI (bn.one (aB 25 5 C))),(11,aR 11),(13,a6 f),(14,a6 g),(18,aR 18),(21,a6 i)] [(18,[au a,au b]),(11,[au c,au d,au e,aB 310003 1 E])]
theorem aj9(h:ad (Hs A e f C c d a b [])):
 a7 (ar Tryz.f176 0) (xK E c d j g i A a b e C) .normal (xK E c d j g i A a b (e+1) (C++[(aS f c d a b)])):=
 h.aY [21,11,10,18,13,14,9] [18,11]
theorem aka(h:ad [.f A a false]):
 a7 (ar Tryz.f176 0) (xK E f g i b c A d e a C) (.exit 0) (vI E C):=
 h.aY [9,10] []
theorem akb(h:ad (Hz A C b e f a c d E q r g i j k s l m t u [.b u false,.b (a==7) false,.l [] [21,11,10,18,13,14,9] [18,11] (ar Tryz.f176 0) (xK A g i a c d E l m 0 []) (.exit 0) (vI A F)])):
 al 176 [.agg (bA C b e),aC 4 A,.agg (aS f g i j k)] [aC 4 ([]++A),aC 5 F,ai true]:=
 h.of
def HB(A C:ae)(a b c d e f:Int)(E:ae)(q r:Bool)(g i j k:Int)(s:Bool)(m n:Int)(t u:Bool)(l:List O):List O:=PZ A C a b c d e f E q r g i j k s m n t (.n t false::.r 268 [ag d] [ai u]::l)
def Hr(A C:ae)(a b c d e f:Int)(E:ae)(q r:Bool)(g i j k:Int)(s:Bool)(m n:Int)(t u:Bool)(F:ae)(v:Bool)(l:List O):List O:=HB A C a b c d e f E q r g i j k s m n t u (.b u true::.r 269 [ag d,aC 4 A,.agg [I c,I g,I j,I k]] [aC 4 F,ai v]::l)
theorem akc(h:ad (Hr A C e f a d i j E q r g k b c s l m t u F v [.n v true])):
 al 176 [.agg (bA C e f),aC 4 A,.agg (aS a g k b c)] [aC 4 F,aC 5 [],ai true]:=
 h.of
theorem akd(h:ad (Hr A C f g b a j k E q r c i d e s l m t u F v [.n v false,.b (a==7) true,.r 270 [.agg [I c,I i]] [.agg [I n,I o],ai w],.n w true])):
 al 176 [.agg (bA C f g),aC 4 A,.agg (aS b c i d e)] [aC 4 F,aC 5 [],ai true]:=
 h.of
theorem ake(h:ad (Hr C E f j b a g i F q r c k d e s l m t u A v [.n v false,.b (a==7) true,.r 270 [.agg [I c,I k]] [.agg [I n,I o],ai w],.n w false,.l [] [21,11,10,18,13,14,9] [18,11] (ar Tryz.f176 0) (xH a g i F l m A n o 0 []) (.exit 0) (vH A G)])):
 al 176 [.agg (bA E f j),aC 4 C,.agg (aS b c k d e)] [aC 4 A,aC 5 G,ai true]:=
 h.of
theorem akf(h:ad (Hr C E f j b a g i F q r c k d e s l m t u A v [.n v false,.b (a==7) false,.l [] [21,11,10,18,13,14,9] [18,11] (ar Tryz.f176 0) (xI c k a g i F l m A 0 []) (.exit 0) (vH A G)])):
 al 176 [.agg (bA E f j),aC 4 C,.agg (aS b c k d e)] [aC 4 A,aC 5 G,ai true]:=
 h.of
theorem akg(h:ad (HB A C b c d a j k E q r e f g i s l m t u [.b u false,.b (a==7) true,.r 270 [.agg [I e,I f]] [.agg [I n,I o],ai v],.n v true])):
 al 176 [.agg (bA C b c),aC 4 A,.agg (aS d e f g i)] [aC 4 ([]++A),aC 5 [],ai true]:=
 h.of
theorem akh(h:ad (HB A C b e f a c d E q r g i j k s l m t u [.b u false,.b (a==7) true,.r 270 [.agg [I g,I i]] [.agg [I n,I o],ai v],.n v false,.l [] [21,11,10,18,13,14,9] [18,11] (ar Tryz.f176 0) (xJ A a c d E l m n o 0 []) (.exit 0) (vI A F)])):
 al 176 [.agg (bA C b e),aC 4 A,.agg (aS f g i j k)] [aC 4 ([]++A),aC 5 F,ai true]:=
 h.of
theorem aki(h:ad (HB A C b e f a c d E q r g i j k s l m t u [.b u false,.b (a==7) false,.l [] [21,11,10,18,13,14,9] [18,11] (ar Tryz.f176 0) (xK A g i a c d E l m 0 []) (.exit 0) (vI A F)])):
 al 176 [.agg (bA C b e),aC 4 A,.agg (aS f g i j k)] [aC 4 ([]++A),aC 5 F,ai true]:=
 h.of
def PG(A:ae)(a b:Int)(q:Bool)(l:List O):List O:=.r 179 [.agg (bA A a b)] [ai q]::l
theorem Wr(h:ad (PG A a b q [.n q true,.r 297 [aC 4 E] [aC 4 C]])):
 al 232 [.agg (bA A a b),aC 4 E,.agg (aS c d e f g)] [aC 4 C,aC 5 [],ai false]:=
 h.of
def PH(A:ae)(a b:Int)(q:Bool)(c d e f g:Int)(r:Bool)(l:List O):List O:=PG A a b q (.n q false::.r 180 [.agg (aS c d e f g)] [ai r]::l)
theorem Ws(h:ad (PH A a b r c d e f g q [.n q true,.r 297 [aC 4 E] [aC 4 C]])):
 al 232 [.agg (bA A a b),aC 4 E,.agg (aS c d e f g)] [aC 4 C,aC 5 [],ai false]:=
 h.of
def PI(A:ae)(a b:Int)(q:Bool)(c d e f g:Int)(r s:Bool)(l:List O):List O:=PH A a b q c d e f g r (.n r false::.r 250 [.agg (bA A a b),ag c] [ai s]::l)
theorem akj(h:ad (PI A a b s c d e f g q r [.n r true,.r 297 [aC 4 E] [aC 4 C]])):
 al 232 [.agg (bA A a b),aC 4 E,.agg (aS c d e f g)] [aC 4 C,aC 5 [],ai false]:=
 h.of
def Ht(A:ae)(a b:Int)(q:Bool)(c d e f g:Int)(r s:Bool)(i j k:Int)(C:ae)(l:List O):List O:=PI A a b q c d e f g r s (.n s false::.x A c (bt i j k C)::l)
def Dk(A:ae)(a b:Int)(q:Bool)(c d e f g:Int)(r s:Bool)(i j k:Int)(C:ae)(m n:Int)(t:Bool)(l:List O):List O:=Ht A a b q c d e f g r s i j k C (.r 298 [.agg (bt i j k C),ag f,ag g] [ag m,ag n,ai t]::l)
theorem akk(h:ad (Dk A b d t a j k e f q r c g i C l m s [.n s true,.b (c != 8) true,.r 297 [aC 4 F] [aC 4 E]])):
 al 232 [.agg (bA A b d),aC 4 F,.agg (aS a j k e f)] [aC 4 E,aC 5 [],ai true]:=
 h.of
def PJ(A:ae)(a b:Int)(q:Bool)(c d e f g:Int)(r s:Bool)(i j k:Int)(C:ae)(m n:Int)(t:Bool)(E F:ae)(u:Bool)(l:List O):List O:=Dk A a b q c d e f g r s i j k C m n t (.n t true::.b (i != 8) false::.r 299 [ag i,aC 4 E,.agg [I c,I d,I f,I g]] [aC 4 F,ai u]::l)
theorem akl(h:ad (PJ A e f u a g k c d q r b i j C l m s F E t [.n t true])):
 al 232 [.agg (bA A e f),aC 4 F,.agg (aS a g k c d)] [aC 4 E,aC 5 [],ai true]:=
 h.of
def sE(A:ae)(a b:Int)(C:ae)(c d:Int)(q:Bool)(e:Int)(E:ae):aJ:=bj 111 [(10,a6 a),(11,a6 b),(13,aL.aI (bn.one (aB 760000 4 C))),(14,aR 14),(15,.aI (.one (.bg q))),(16,aL.aI (bn.one (aB 107 5 E))),(93,dO 1 A),(94,a6 (A.length:Int)),(95,a6 e)] [(14,[au c,au d])]
theorem akm(h:ad [.i A e [I f],.b q true,.g C [(aS f c d a b)] 40,.h [(aS f c d a b)],.u e]):
 a7 (ar Tryz.f232 0) (sE A a b E c d q e C) .normal (sE A a b E c d q (e+1) (C++[(aS f c d a b)])):=
 h.aY [95,94,93,15,16,14,10,11,13] [14]
theorem akn(h:ad [.i A a [I f],.b q false,.u a]):
 a7 (ar Tryz.f232 0) (sE A b c C d e q a E) .normal (sE A b c C d e q (a+1) E):=
 h.aY [95,94,93,15,16,14,10,11,13] [14]
def vJ(A C:ae):aJ:=bj 111 [(13,aL.aI (bn.one (aB 760000 4 A))),(16,aL.aI (bn.one (aB 107 5 C)))] []
theorem Wt(h:ad [.f A a false]):
 a7 (ar Tryz.f232 0) (sE A b c C d e q a E) (.exit 0) (vJ C E):=
 h.aY [13,16] []
theorem ako(h:ad (PJ A f g v b c i d e q r a j k E l m s G C t [.n t false,.b (a==7) true,.r 300 [.agg [I c,I i]] [.agg [I n,I o],ai u],.l [(16,107,5)] [95,94,93,15,16,14,10,11,13] [14] (ar Tryz.f232 0) (sE E l m C n o u 0 []) (.exit 0) (vJ C F)])):
 al 232 [.agg (bA A f g),aC 4 G,.agg (aS b c i d e)] [aC 4 C,aC 5 F,ai true]:=
 h.of
def xL(a b:Int)(A:ae)(c d:Int)(C:ae)(e:Int)(E:ae):aJ:=bj 111 [(10,a6 c),(11,a6 d),(13,aL.aI (bn.one (aB 760000 4 C))),(14,aR 14),(15,.aI (.one (.bg true))),(16,aL.aI (bn.one (aB 107 5 E))),(93,dO 1 A),(94,a6 (A.length:Int)),(95,a6 e)] [(14,[au a,au b])]
theorem akp(h:ad [.i A e [I f],.b true true,.g C [(aS f c d a b)] 40,.h [(aS f c d a b)],.u e]):
 a7 (ar Tryz.f232 0) (xL c d A a b E e C) .normal (xL c d A a b E (e+1) (C++[(aS f c d a b)])):=
 h.aY [95,94,93,15,16,14,10,11,13] [14]
theorem akq(h:ad [.f A a false]):
 a7 (ar Tryz.f232 0) (xL d e A b c C a E) (.exit 0) (vJ C E):=
 h.aY [13,16] []
theorem akr(h:ad (PJ A f g u b c i d e q r a j k E l m s G C t [.n t false,.b (a==7) false,.l [(16,107,5)] [95,94,93,15,16,14,10,11,13] [14] (ar Tryz.f232 0) (xL c i E l m C 0 []) (.exit 0) (vJ C F)])):
 al 232 [.agg (bA A f g),aC 4 G,.agg (aS b c i d e)] [aC 4 C,aC 5 F,ai true]:=
 h.of
theorem aks(h:ad (Dk A d f u a g k b c q r e i j C l m s [.n s false,.r 299 [ag e,aC 4 F,.agg [I a,I g,I b,I c]] [aC 4 E,ai t],.n t true])):
 al 232 [.agg (bA A d f),aC 4 F,.agg (aS a g k b c)] [aC 4 E,aC 5 [],ai true]:=
 h.of
theorem akt(h:ad (Dk A f g v a c i d e q r b j k E l m s [.n s false,.r 299 [ag b,aC 4 G,.agg [I a,I c,I d,I e]] [aC 4 C,ai t],.n t false,.b (b==7) true,.r 300 [.agg [I c,I i]] [.agg [I n,I o],ai u],.l [(16,107,5)] [95,94,93,15,16,14,10,11,13] [14] (ar Tryz.f232 0) (sE E l m C n o u 0 []) (.exit 0) (vJ C F)])):
 al 232 [.agg (bA A f g),aC 4 G,.agg (aS a c i d e)] [aC 4 C,aC 5 F,ai true]:=
 h.of
theorem aku(h:ad (Dk A f g u a c i d e q r b j k E l m s [.n s false,.r 299 [ag b,aC 4 G,.agg [I a,I c,I d,I e]] [aC 4 C,ai t],.n t false,.b (b==7) false,.l [(16,107,5)] [95,94,93,15,16,14,10,11,13] [14] (ar Tryz.f232 0) (xL c i E l m C 0 []) (.exit 0) (vJ C F)])):
 al 232 [.agg (bA A f g),aC 4 G,.agg (aS a c i d e)] [aC 4 C,aC 5 F,ai true]:=
 h.of
theorem akv(h:ad (PG A a b q [.n q true])):
 al 265 [.agg (bA A a b),.agg (aS c d e f g)] [ai false]:=
 h.of
theorem akw(h:ad (PH A a b q c d e f g r [.n r true])):
 al 265 [.agg (bA A a b),.agg (aS c d e f g)] [ai false]:=
 h.of
theorem akx(h:ad (PI A a b r c d e f g s q [.n q true])):
 al 265 [.agg (bA A a b),.agg (aS c d e f g)] [ai false]:=
 h.of
theorem ajY(h:ad (Ht A b c s a d e g i t q f j k C [.r 300 [.agg [I d,I e]] [.agg [I l,I m],ai r],.b (f==7) true,.b (decide ((C.length:Int)>0)) true])):
 al 265 [.agg (bA A b c),.agg (aS a d e g i)] [.one (B !r)]:=
 h.of
theorem ajZ(h:ad (Ht A b c r a d e g i s q f j k C [.r 300 [.agg [I d,I e]] [.agg [I l,I m],ai t],.b (f==7) true,.b (decide ((C.length:Int)>0)) false])):
 al 265 [.agg (bA A b c),.agg (aS a d e g i)] [ai false]:=
 h.of
theorem aj0(h:ad (Ht A b c r a d e g i s q f j k C [.r 300 [.agg [I d,I e]] [.agg [I l,I m],ai t],.b (f==7) false])):
 al 265 [.agg (bA A b c),.agg (aS a d e g i)] [ai false]:=
 h.of
