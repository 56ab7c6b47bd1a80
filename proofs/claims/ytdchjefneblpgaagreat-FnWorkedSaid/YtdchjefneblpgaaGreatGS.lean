import Derived.Test.YtdchjefneblpgaaGreatGE
set_option linter.unusedVariables false
set_option linter.unusedSimpArgs false
namespace Go.Proofs.YtdchjefneblpgaaGreat
open Go.Sx Go.RowKit
variable {a b c d e f g i j k l m n o : Int} {A C E F G : ae} {q r s t u v w : Bool}
def UZ(A:ae)(a b c d e f:Int)(C:ae)(q:Bool)(g i j k:Int)(r:Bool)(l:List O):List O:=.r 249 [.agg (bk A a b),af c] [.agg (bf d e f C),ag q]::.r 270 [.agg [I g,I i]] [.agg [I j,I k],ag r]::l
def AL(A:ae)(a b c d e f:Int)(C:ae)(q:Bool)(g i j k:Int)(r s:Bool)(l:List O):List O:=UZ A a b c d e f C q g i j k r (.b q true::.r 121 [.agg (bk A a b)] [ag s]::l)
theorem aak(h:ad (AL A a b c i m j C q d e k l r s [.b s true,.r 122 [.agg (bj c d e f g)] [ag t],.b t true,.b (i==7) true,.b (decide ((C.length:Int)>0)) true])):
 ar 177 [.agg (bk A a b),.agg (bj c d e f g)] [.one (B !r)]:=
 h.of
theorem aal(h:ad (AL A a b c i m j C q d e k l t r [.b r true,.r 122 [.agg (bj c d e f g)] [ag s],.b s true,.b (i==7) true,.b (decide ((C.length:Int)>0)) false])):
 ar 177 [.agg (bk A a b),.agg (bj c d e f g)] [ag false]:=
 h.of
theorem aam(h:ad (AL A a b c i m j C q d e k l t r [.b r true,.r 122 [.agg (bj c d e f g)] [ag s],.b s true,.b (i==7) false])):
 ar 177 [.agg (bk A a b),.agg (bj c d e f g)] [ag false]:=
 h.of
theorem aan(h:ad (AL A a b c l m i C q d e j k t r [.b r true,.r 122 [.agg (bj c d e f g)] [ag s],.b s false])):
 ar 177 [.agg (bk A a b),.agg (bj c d e f g)] [ag false]:=
 h.of
theorem abQ(h:ad (AL A a b c l m f C q d e g i s r [.b r false])):
 ar 177 [.agg (bk A a b),.agg (bj c d e j k)] [ag false]:=
 h.of
theorem abR(h:ad (UZ A a b c l m f C q d e g i r [.b q false])):
 ar 177 [.agg (bk A a b),.agg (bj c d e j k)] [ag false]:=
 h.of
def U0(A C:ae)(a b c d e f:Int)(E:ae)(q:Bool)(l:List O):List O:=.g ([]:ae) A 32::.h A::.r 249 [.agg (bk C a b),af c] [.agg (bf d e f E),ag q]::l
theorem abS(h:ad (U0 A C a b c k d e E q [.n q true])):
 ar 176 [.agg (bk C a b),aP 4 A,.agg (bj c f g i j)] [aP 4 ([]++A),aP 5 [],ag false]:=
 h.of
def U1(A C:ae)(a b c d e f:Int)(E:ae)(q r:Bool)(l:List O):List O:=U0 A C a b c d e f E q (.n q false::.r 121 [.agg (bk C a b)] [ag r]::l)
theorem abT(h:ad (U1 A C a b c k d e E q r [.n r true])):
 ar 176 [.agg (bk C a b),aP 4 A,.agg (bj c f g i j)] [aP 4 ([]++A),aP 5 [],ag false]:=
 h.of
def U2(A C:ae)(a b c d e f:Int)(E:ae)(q r:Bool)(g i j k:Int)(s:Bool)(l:List O):List O:=U1 A C a b c d e f E q r (.n r false::.r 122 [.agg (bj c g i j k)] [ag s]::l)
theorem abU(h:ad (U2 A C a b c k i j E q r d e f g s [.n s true])):
 ar 176 [.agg (bk C a b),aP 4 A,.agg (bj c d e f g)] [aP 4 ([]++A),aP 5 [],ag false]:=
 h.of
def LU(A C:ae)(a b c d e f:Int)(E:ae)(q r:Bool)(g i j k:Int)(s:Bool)(m n:Int)(t:Bool)(l:List O):List O:=U2 A C a b c d e f E q r g i j k s (.n s false::.r 267 [.agg (bf d e f E),af j,af k] [af m,af n,ag t]::l)
theorem abV(h:ad (LU A C a b c f g i E q r j k d e s l m t [.n t true,.b (f != 8) true])):
 ar 176 [.agg (bk C a b),aP 4 A,.agg (bj c j k d e)] [aP 4 ([]++A),aP 5 [],ag true]:=
 h.of
def Eo(A C:ae)(a b c d e f:Int)(E:ae)(q r:Bool)(g i j k:Int)(s:Bool)(m n:Int)(t u:Bool)(l:List O):List O:=LU A C a b c d e f E q r g i j k s m n t (.n t true::.b (d != 8) false::.r 268 [af d] [ag u]::l)
def Ep(A C:ae)(a b c d e f:Int)(E:ae)(q r:Bool)(g i j k:Int)(s:Bool)(m n:Int)(t u:Bool)(F:ae)(v:Bool)(l:List O):List O:=Eo A C a b c d e f E q r g i j k s m n t u (.b u true::.r 269 [af d,aP 4 A,.agg [I c,I g,I j,I k]] [aP 4 F,ag v]::l)
theorem abW(h:ad (Ep A C e f b a i j E q r g k c d s l m t u F v [.n v true])):
 ar 176 [.agg (bk C e f),aP 4 A,.agg (bj b g k c d)] [aP 4 F,aP 5 [],ag true]:=
 h.of
theorem abX(h:ad (Ep A C f g b a j k E q r c i d e s l m t u F v [.n v false,.b (a==7) true,.r 270 [.agg [I c,I i]] [.agg [I n,I o],ag w],.n w true])):
 ar 176 [.agg (bk C f g),aP 4 A,.agg (bj b c i d e)] [aP 4 F,aP 5 [],ag true]:=
 h.of
def uS(a b c:Int)(C:ae)(d e:Int)(E:ae)(f g i:Int)(A:ae):aD:=bd 127 [(9,aE.aF (bm.one (aA 840000 4 E))),(10,aE.aF (bm.one (aA 25 5 A))),(11,aQ 11),(13,aW d),(14,aW e),(18,aQ 18),(21,aW i)] [(18,[au f,au g]),(11,[au a,au b,au c,aA 310003 1 C])]
def Et(A:ae)(a b:Int)(C:ae)(c d e f:Int)(l:List O):List O:=.i A a [I b]::.g C [(bj b c d e f)] 40::.h [(bj b c d e f)]::.u a::l
theorem abY(h:ad (Et A e f C c d a b [])):
 aX (ao Tryz.f176 0) (uS j g i A a b E c d e C) .normal (uS j g i A a b E c d (e+1) (C++[(bj f c d a b)])):=
 h.aV [21,11,10,18,13,14,9] [18,11]
def sM(A C:ae):aD:=bd 127 [(9,aE.aF (bm.one (aA 840000 4 A))),(10,aE.aF (bm.one (aA 25 5 C)))] []
theorem abZ(h:ad [.f A a false]):
 aX (ao Tryz.f176 0) (uS i b c A d e C f g a E) (.exit 0) (sM C E):=
 h.aV [9,10] []
theorem ab0(h:ad (Ep C E f j b a g i F q r c k d e s l m t u A v [.n v false,.b (a==7) true,.r 270 [.agg [I c,I k]] [.agg [I n,I o],ag w],.n w false,.l [] [21,11,10,18,13,14,9] [18,11] (ao Tryz.f176 0) (uS a g i F l m A n o 0 []) (.exit 0) (sM A G)])):
 ar 176 [.agg (bk E f j),aP 4 C,.agg (bj b c k d e)] [aP 4 A,aP 5 G,ag true]:=
 h.of
def uT(a b c d e:Int)(C:ae)(f g:Int)(E:ae)(i:Int)(A:ae):aD:=bd 127 [(9,aE.aF (bm.one (aA 840000 4 E))),(10,aE.aF (bm.one (aA 25 5 A))),(11,aQ 11),(13,aW f),(14,aW g),(18,aQ 18),(21,aW i)] [(18,[au a,au b]),(11,[au c,au d,au e,aA 310003 1 C])]
theorem ab1(h:ad (Et A e f C c d a b [])):
 aX (ao Tryz.f176 0) (uT c d j g i A a b E e C) .normal (uT c d j g i A a b E (e+1) (C++[(bj f c d a b)])):=
 h.aV [21,11,10,18,13,14,9] [18,11]
theorem ab2(h:ad [.f A a false]):
 aX (ao Tryz.f176 0) (uT f g i b c A d e C a E) (.exit 0) (sM C E):=
 h.aV [9,10] []
theorem ab3(h:ad (Ep C E f j b a g i F q r c k d e s l m t u A v [.n v false,.b (a==7) false,.l [] [21,11,10,18,13,14,9] [18,11] (ao Tryz.f176 0) (uT c k a g i F l m A 0 []) (.exit 0) (sM A G)])):
 ar 176 [.agg (bk E f j),aP 4 C,.agg (bj b c k d e)] [aP 4 A,aP 5 G,ag true]:=
 h.of
theorem ab4(h:ad (Eo A C b c d a j k E q r e f g i s l m t u [.b u false,.b (a==7) true,.r 270 [.agg [I e,I f]] [.agg [I n,I o],ag v],.n v true])):
 ar 176 [.agg (bk C b c),aP 4 A,.agg (bj d e f g i)] [aP 4 ([]++A),aP 5 [],ag true]:=
 h.of
def uU(A:ae)(a b c:Int)(E:ae)(d e f g i:Int)(C:ae):aD:=bd 127 [(9,aE.aF (bm.one (aA 22 4 ([]++A)))),(10,aE.aF (bm.one (aA 25 5 C))),(11,aQ 11),(13,aW d),(14,aW e),(18,aQ 18),(21,aW i)] [(18,[au f,au g]),(11,[au a,au b,au c,aA 310003 1 E])]
theorem ab5(h:ad (Et A e f C c d a b [])):
 aX (ao Tryz.f176 0) (uU E j g i A a b c d e C) .normal (uU E j g i A a b c d (e+1) (C++[(bj f c d a b)])):=
 h.aV [21,11,10,18,13,14,9] [18,11]
def sN(A C:ae):aD:=bd 127 [(9,aE.aF (bm.one (aA 22 4 ([]++A)))),(10,aE.aF (bm.one (aA 25 5 C)))] []
theorem ab6(h:ad [.f A a false]):
 aX (ao Tryz.f176 0) (uU E i b c A d e f g a C) (.exit 0) (sN E C):=
 h.aV [9,10] []
theorem ab7(h:ad (Eo A C b e f a c d E q r g i j k s l m t u [.b u false,.b (a==7) true,.r 270 [.agg [I g,I i]] [.agg [I n,I o],ag v],.n v false,.l [] [21,11,10,18,13,14,9] [18,11] (ao Tryz.f176 0) (uU A a c d E l m n o 0 []) (.exit 0) (sN A F)])):
 ar 176 [.agg (bk C b e),aP 4 A,.agg (bj f g i j k)] [aP 4 ([]++A),aP 5 F,ag true]:=
 h.of
def uV(A:ae)(a b c d e:Int)(E:ae)(f g i:Int)(C:ae):aD:=bd 127 [(9,aE.aF (bm.one (aA 22 4 ([]++A)))),(10,aE.aF (bm.one (aA 25 5 C))),(11,aQ 11),(13,aW f),(14,aW g),(18,aQ 18),(21,aW i)] [(18,[au a,au b]),(11,[au c,au d,au e,aA 310003 1 E])]
theorem ab8(h:ad (Et A e f C c d a b [])):
 aX (ao Tryz.f176 0) (uV E c d j g i A a b e C) .normal (uV E c d j g i A a b (e+1) (C++[(bj f c d a b)])):=
 h.aV [21,11,10,18,13,14,9] [18,11]
theorem ab9(h:ad [.f A a false]):
 aX (ao Tryz.f176 0) (uV E f g i b c A d e a C) (.exit 0) (sN E C):=
 h.aV [9,10] []
theorem aca(h:ad (Eo A C b e f a c d E q r g i j k s l m t u [.b u false,.b (a==7) false,.l [] [21,11,10,18,13,14,9] [18,11] (ao Tryz.f176 0) (uV A g i a c d E l m 0 []) (.exit 0) (sN A F)])):
 ar 176 [.agg (bk C b e),aP 4 A,.agg (bj f g i j k)] [aP 4 ([]++A),aP 5 F,ag true]:=
 h.of
def Er(A C:ae)(a b c d e f:Int)(E:ae)(q r:Bool)(g i j k:Int)(s:Bool)(m n:Int)(t u:Bool)(l:List O):List O:=LU A C a b c d e f E q r g i j k s m n t (.n t false::.r 268 [af d] [ag u]::l)
def Es(A C:ae)(a b c d e f:Int)(E:ae)(q r:Bool)(g i j k:Int)(s:Bool)(m n:Int)(t u:Bool)(F:ae)(v:Bool)(l:List O):List O:=Er A C a b c d e f E q r g i j k s m n t u (.b u true::.r 269 [af d,aP 4 A,.agg [I c,I g,I j,I k]] [aP 4 F,ag v]::l)
theorem acb(h:ad (Es A C e f a d i j E q r g k b c s l m t u F v [.n v true])):
 ar 176 [.agg (bk C e f),aP 4 A,.agg (bj a g k b c)] [aP 4 F,aP 5 [],ag true]:=
 h.of
theorem acd(h:ad (Es A C f g b a j k E q r c i d e s l m t u F v [.n v false,.b (a==7) true,.r 270 [.agg [I c,I i]] [.agg [I n,I o],ag w],.n w true])):
 ar 176 [.agg (bk C f g),aP 4 A,.agg (bj b c i d e)] [aP 4 F,aP 5 [],ag true]:=
 h.of
theorem ace(h:ad (Es C E f j b a g i F q r c k d e s l m t u A v [.n v false,.b (a==7) true,.r 270 [.agg [I c,I k]] [.agg [I n,I o],ag w],.n w false,.l [] [21,11,10,18,13,14,9] [18,11] (ao Tryz.f176 0) (uS a g i F l m A n o 0 []) (.exit 0) (sM A G)])):
 ar 176 [.agg (bk E f j),aP 4 C,.agg (bj b c k d e)] [aP 4 A,aP 5 G,ag true]:=
 h.of
theorem acf(h:ad (Es C E f j b a g i F q r c k d e s l m t u A v [.n v false,.b (a==7) false,.l [] [21,11,10,18,13,14,9] [18,11] (ao Tryz.f176 0) (uT c k a g i F l m A 0 []) (.exit 0) (sM A G)])):
 ar 176 [.agg (bk E f j),aP 4 C,.agg (bj b c k d e)] [aP 4 A,aP 5 G,ag true]:=
 h.of
theorem acg(h:ad (Er A C b c d a j k E q r e f g i s l m t u [.b u false,.b (a==7) true,.r 270 [.agg [I e,I f]] [.agg [I n,I o],ag v],.n v true])):
 ar 176 [.agg (bk C b c),aP 4 A,.agg (bj d e f g i)] [aP 4 ([]++A),aP 5 [],ag true]:=
 h.of
theorem abp(h:ad (Er A C b e f a c d E q r g i j k s l m t u [.b u false,.b (a==7) true,.r 270 [.agg [I g,I i]] [.agg [I n,I o],ag v],.n v false,.l [] [21,11,10,18,13,14,9] [18,11] (ao Tryz.f176 0) (uU A a c d E l m n o 0 []) (.exit 0) (sN A F)])):
 ar 176 [.agg (bk C b e),aP 4 A,.agg (bj f g i j k)] [aP 4 ([]++A),aP 5 F,ag true]:=
 h.of
theorem abq(h:ad (Er A C b e f a c d E q r g i j k s l m t u [.b u false,.b (a==7) false,.l [] [21,11,10,18,13,14,9] [18,11] (ao Tryz.f176 0) (uV A g i a c d E l m 0 []) (.exit 0) (sN A F)])):
 ar 176 [.agg (bk C b e),aP 4 A,.agg (bj f g i j k)] [aP 4 ([]++A),aP 5 F,ag true]:=
 h.of
def LV(A:ae)(a b:Int)(q:Bool)(l:List O):List O:=.r 179 [.agg (bk A a b)] [ag q]::l
theorem Ql(h:ad (LV A a b q [.n q true,.r 297 [aP 4 E] [aP 4 C]])):
 ar 232 [.agg (bk A a b),aP 4 E,.agg (bj c d e f g)] [aP 4 C,aP 5 [],ag false]:=
 h.of
def LW(A:ae)(a b:Int)(q:Bool)(c d e f g:Int)(r:Bool)(l:List O):List O:=LV A a b q (.n q false::.r 180 [.agg (bj c d e f g)] [ag r]::l)
theorem Qm(h:ad (LW A a b r c d e f g q [.n q true,.r 297 [aP 4 E] [aP 4 C]])):
 ar 232 [.agg (bk A a b),aP 4 E,.agg (bj c d e f g)] [aP 4 C,aP 5 [],ag false]:=
 h.of
def LX(A:ae)(a b:Int)(q:Bool)(c d e f g:Int)(r s:Bool)(l:List O):List O:=LW A a b q c d e f g r (.n r false::.r 250 [.agg (bk A a b),af c] [ag s]::l)
theorem abr(h:ad (LX A a b s c d e f g q r [.n r true,.r 297 [aP 4 E] [aP 4 C]])):
 ar 232 [.agg (bk A a b),aP 4 E,.agg (bj c d e f g)] [aP 4 C,aP 5 [],ag false]:=
 h.of
def Eu(A:ae)(a b:Int)(q:Bool)(c d e f g:Int)(r s:Bool)(i j k:Int)(C:ae)(l:List O):List O:=LX A a b q c d e f g r s (.n s false::.x A c (bf i j k C)::l)
def AM(A:ae)(a b:Int)(q:Bool)(c d e f g:Int)(r s:Bool)(i j k:Int)(C:ae)(m n:Int)(t:Bool)(l:List O):List O:=Eu A a b q c d e f g r s i j k C (.r 298 [.agg (bf i j k C),af f,af g] [af m,af n,ag t]::l)
theorem abt(h:ad (AM A b d t a j k e f q r c g i C l m s [.n s true,.b (c != 8) true,.r 297 [aP 4 F] [aP 4 E]])):
 ar 232 [.agg (bk A b d),aP 4 F,.agg (bj a j k e f)] [aP 4 E,aP 5 [],ag true]:=
 h.of
def LY(A:ae)(a b:Int)(q:Bool)(c d e f g:Int)(r s:Bool)(i j k:Int)(C:ae)(m n:Int)(t:Bool)(E F:ae)(u:Bool)(l:List O):List O:=AM A a b q c d e f g r s i j k C m n t (.n t true::.b (i != 8) false::.r 299 [af i,aP 4 E,.agg [I c,I d,I f,I g]] [aP 4 F,ag u]::l)
theorem abu(h:ad (LY A e f u a g k c d q r b i j C l m s F E t [.n t true])):
 ar 232 [.agg (bk A e f),aP 4 F,.agg (bj a g k c d)] [aP 4 E,aP 5 [],ag true]:=
 h.of
def qo(A:ae)(a b:Int)(C:ae)(c d:Int)(q:Bool)(e:Int)(E:ae):aD:=bd 111 [(10,aW a),(11,aW b),(13,aE.aF (bm.one (aA 760000 4 C))),(14,aQ 14),(15,.aF (.one (.a' q))),(16,aE.aF (bm.one (aA 107 5 E))),(93,dj 1 A),(94,aW (A.length:Int)),(95,aW e)] [(14,[au c,au d])]
theorem abv(h:ad [.i A e [I f],.b q true,.g C [(bj f c d a b)] 40,.h [(bj f c d a b)],.u e]):
 aX (ao Tryz.f232 0) (qo A a b E c d q e C) .normal (qo A a b E c d q (e+1) (C++[(bj f c d a b)])):=
 h.aV [95,94,93,15,16,14,10,11,13] [14]
theorem abw(h:ad [.i A a [I f],.b q false,.u a]):
 aX (ao Tryz.f232 0) (qo A b c C d e q a E) .normal (qo A b c C d e q (a+1) E):=
 h.aV [95,94,93,15,16,14,10,11,13] [14]
def sO(A C:ae):aD:=bd 111 [(13,aE.aF (bm.one (aA 760000 4 A))),(16,aE.aF (bm.one (aA 107 5 C)))] []
theorem Qn(h:ad [.f A a false]):
 aX (ao Tryz.f232 0) (qo A b c C d e q a E) (.exit 0) (sO C E):=
 h.aV [13,16] []
theorem abx(h:ad (LY A f g v b c i d e q r a j k E l m s G C t [.n t false,.b (a==7) true,.r 300 [.agg [I c,I i]] [.agg [I n,I o],ag u],.l [(16,107,5)] [95,94,93,15,16,14,10,11,13] [14] (ao Tryz.f232 0) (qo E l m C n o u 0 []) (.exit 0) (sO C F)])):
 ar 232 [.agg (bk A f g),aP 4 G,.agg (bj b c i d e)] [aP 4 C,aP 5 F,ag true]:=
 h.of
def uW(a b:Int)(A:ae)(c d:Int)(C:ae)(e:Int)(E:ae):aD:=bd 111 [(10,aW c),(11,aW d),(13,aE.aF (bm.one (aA 760000 4 C))),(14,aQ 14),(15,.aF (.one (.a' true))),(16,aE.aF (bm.one (aA 107 5 E))),(93,dj 1 A),(94,aW (A.length:Int)),(95,aW e)] [(14,[au a,au b])]
theorem aby(h:ad [.i A e [I f],.b true true,.g C [(bj f c d a b)] 40,.h [(bj f c d a b)],.u e]):
 aX (ao Tryz.f232 0) (uW c d A a b E e C) .normal (uW c d A a b E (e+1) (C++[(bj f c d a b)])):=
 h.aV [95,94,93,15,16,14,10,11,13] [14]
theorem abz(h:ad [.f A a false]):
 aX (ao Tryz.f232 0) (uW d e A b c C a E) (.exit 0) (sO C E):=
 h.aV [13,16] []
theorem abA(h:ad (LY A f g u b c i d e q r a j k E l m s G C t [.n t false,.b (a==7) false,.l [(16,107,5)] [95,94,93,15,16,14,10,11,13] [14] (ao Tryz.f232 0) (uW c i E l m C 0 []) (.exit 0) (sO C F)])):
 ar 232 [.agg (bk A f g),aP 4 G,.agg (bj b c i d e)] [aP 4 C,aP 5 F,ag true]:=
 h.of
theorem abB(h:ad (AM A d f u a g k b c q r e i j C l m s [.n s false,.r 299 [af e,aP 4 F,.agg [I a,I g,I b,I c]] [aP 4 E,ag t],.n t true])):
 ar 232 [.agg (bk A d f),aP 4 F,.agg (bj a g k b c)] [aP 4 E,aP 5 [],ag true]:=
 h.of
theorem abC(h:ad (AM A f g v a c i d e q r b j k E l m s [.n s false,.r 299 [af b,aP 4 G,.agg [I a,I c,I d,I e]] [aP 4 C,ag t],.n t false,.b (b==7) true,.r 300 [.agg [I c,I i]] [.agg [I n,I o],ag u],.l [(16,107,5)] [95,94,93,15,16,14,10,11,13] [14] (ao Tryz.f232 0) (qo E l m C n o u 0 []) (.exit 0) (sO C F)])):
 ar 232 [.agg (bk A f g),aP 4 G,.agg (bj a c i d e)] [aP 4 C,aP 5 F,ag true]:=
 h.of
theorem abD(h:ad (AM A f g u a c i d e q r b j k E l m s [.n s false,.r 299 [af b,aP 4 G,.agg [I a,I c,I d,I e]] [aP 4 C,ag t],.n t false,.b (b==7) false,.l [(16,107,5)] [95,94,93,15,16,14,10,11,13] [14] (ao Tryz.f232 0) (uW c i E l m C 0 []) (.exit 0) (sO C F)])):
 ar 232 [.agg (bk A f g),aP 4 G,.agg (bj a c i d e)] [aP 4 C,aP 5 F,ag true]:=
 h.of
theorem abE(h:ad (LV A a b q [.n q true])):
 ar 265 [.agg (bk A a b),.agg (bj c d e f g)] [ag false]:=
 h.of
theorem abF(h:ad (LW A a b q c d e f g r [.n r true])):
 ar 265 [.agg (bk A a b),.agg (bj c d e f g)] [ag false]:=
 h.of
theorem abG(h:ad (LX A a b r c d e f g s q [.n q true])):
 ar 265 [.agg (bk A a b),.agg (bj c d e f g)] [ag false]:=
 h.of
theorem abH(h:ad (Eu A b c s a d e g i t q f j k C [.r 300 [.agg [I d,I e]] [.agg [I l,I m],ag r],.b (f==7) true,.b (decide ((C.length:Int)>0)) true])):
 ar 265 [.agg (bk A b c),.agg (bj a d e g i)] [.one (B !r)]:=
 h.of
theorem abI(h:ad (Eu A b c r a d e g i s q f j k C [.r 300 [.agg [I d,I e]] [.agg [I l,I m],ag t],.b (f==7) true,.b (decide ((C.length:Int)>0)) false])):
 ar 265 [.agg (bk A b c),.agg (bj a d e g i)] [ag false]:=
 h.of
theorem abJ(h:ad (Eu A b c r a d e g i s q f j k C [.r 300 [.agg [I d,I e]] [.agg [I l,I m],ag t],.b (f==7) false])):
 ar 265 [.agg (bk A b c),.agg (bj a d e g i)] [ag false]:=
 h.of
