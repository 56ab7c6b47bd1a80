import Derived.Test.YtdchjefneblpgaaGE
set_option linter.unusedVariables false
set_option linter.unusedSimpArgs false
namespace Go.Proofs.Ytdchjefneblpgaa
open Go.Sx Go.RowKit Go.Proofs.Try
variable {a b c d e f g i j k l m n o p a0 cm dH d0 : Int} {A C E F G H kl : aE} {q r s t u v w : Bool}
def Oo(A:aE)(a b c d e f:Int)(C:aE)(q:Bool)(g i j k:Int)(r:Bool)(l:List O):List O:=.r 39 [.agg (bj A a b),ao c] [.agg (aX d e f C),au q]::.r 59 [.agg [I g,I i]] [.agg [I j,I k],au r]::l
def xm(A:aE)(a b c d e f:Int)(C:aE)(q:Bool)(g i j k:Int)(r s:Bool)(l:List O):List O:=Oo A a b c d e f C q g i j k r (.b q true::.r 33 [.agg (bj A a b)] [au s]::l)
theorem X7(h:al (xm A a b c i m j C q d e k l r s [.b s true,.r 34 [.agg (bx c d e f g)] [au t],.b t true,.b (i==7) true,.b (decide ((C.length:Int)>0)) true])):
 aA 35 [.agg (bj A a b),.agg (bx c d e f g)] [.one (B !r)]:=
 h.of
theorem X8(h:al (xm A a b c i m j C q d e k l t r [.b r true,.r 34 [.agg (bx c d e f g)] [au s],.b s true,.b (i==7) true,.b (decide ((C.length:Int)>0)) false])):
 aA 35 [.agg (bj A a b),.agg (bx c d e f g)] [au false]:=
 h.of
theorem X9(h:al (xm A a b c i m j C q d e k l t r [.b r true,.r 34 [.agg (bx c d e f g)] [au s],.b s true,.b (i==7) false])):
 aA 35 [.agg (bj A a b),.agg (bx c d e f g)] [au false]:=
 h.of
theorem X'(h:al (xm A a b c l m i C q d e j k t r [.b r true,.r 34 [.agg (bx c d e f g)] [au s],.b s false])):
 aA 35 [.agg (bj A a b),.agg (bx c d e f g)] [au false]:=
 h.of
theorem Ya(h:al (xm A a b c l m f C q d e g i s r [.b r false])):
 aA 35 [.agg (bj A a b),.agg (bx c d e j k)] [au false]:=
 h.of
theorem Yb(h:al (Oo A a b c l m f C q d e g i r [.b q false])):
 aA 35 [.agg (bj A a b),.agg (bx c d e j k)] [au false]:=
 h.of
def Oq(A C:aE)(a b c d e f:Int)(E:aE)(q:Bool)(l:List O):List O:=.g ([]:aE) A 32::.h A::.r 39 [.agg (bj C a b),ao c] [.agg (aX d e f E),au q]::l
theorem Yc(h:al (Oq A C a b c k d e E q [.n q true])):
 aA 36 [.agg (bj C a b),aB 4 A,.agg (bx c f g i j)] [aB 4 ([]++A),aB 5 [],au false]:=
 h.of
def Al(A C:aE)(a b c d e f:Int)(E:aE)(q r:Bool)(l:List O):List O:=Oq A C a b c d e f E q (.n q false::.r 33 [.agg (bj C a b)] [au r]::l)
theorem Yd(h:al (Al A C a b c k d e E q r [.n r true])):
 aA 36 [.agg (bj C a b),aB 4 A,.agg (bx c f g i j)] [aB 4 ([]++A),aB 5 [],au false]:=
 h.of
def Am(A C:aE)(a b c d e f:Int)(E:aE)(q r:Bool)(g i j k:Int)(s:Bool)(l:List O):List O:=Al A C a b c d e f E q r (.n r false::.r 34 [.agg (bx c g i j k)] [au s]::l)
theorem Ye(h:al (Am A C a b c k i j E q r d e f g s [.n s true])):
 aA 36 [.agg (bj C a b),aB 4 A,.agg (bx c d e f g)] [aB 4 ([]++A),aB 5 [],au false]:=
 h.of
def GC(A C:aE)(a b c d e f:Int)(E:aE)(q r:Bool)(g i j k:Int)(s:Bool)(m n:Int)(t:Bool)(l:List O):List O:=Am A C a b c d e f E q r g i j k s (.n s false::.r 60 [.agg (aX d e f E),ao j,ao k] [ao m,ao n,au t]::l)
theorem Yf(h:al (GC A C a b c f g i E q r j k d e s l m t [.n t true,.b (f != 8) true])):
 aA 36 [.agg (bj C a b),aB 4 A,.agg (bx c j k d e)] [aB 4 ([]++A),aB 5 [],au true]:=
 h.of
def An(A C:aE)(a b c d e f:Int)(E:aE)(q r:Bool)(g i j k:Int)(s:Bool)(m n:Int)(t u:Bool)(l:List O):List O:=GC A C a b c d e f E q r g i j k s m n t (.n t true::.b (d != 8) false::.r 61 [ao d] [au u]::l)
def uK(A C:aE)(a b c d e f:Int)(E:aE)(q r:Bool)(g i j k:Int)(s:Bool)(m n:Int)(t u:Bool)(F:aE)(v:Bool)(l:List O):List O:=An A C a b c d e f E q r g i j k s m n t u (.b u true::.r 62 [ao d,aB 4 A,.agg [I c,I g,I j,I k]] [aB 4 F,au v]::l)
theorem ZF(h:al (uK A C e f b a i j E q r g k c d s l m t u F v [.n v true])):
 aA 36 [.agg (bj C e f),aB 4 A,.agg (bx b g k c d)] [aB 4 F,aB 5 [],au true]:=
 h.of
theorem ZG(h:al (uK A C f g b a j k E q r c i d e s l m t u F v [.n v false,.b (a==7) true,.r 59 [.agg [I c,I i]] [.agg [I n,I o],au w],.n w true])):
 aA 36 [.agg (bj C f g),aB 4 A,.agg (bx b c i d e)] [aB 4 F,aB 5 [],au true]:=
 h.of
def sc(a b c:Int)(C:aE)(d e:Int)(E:aE)(f g i:Int)(A:aE):aG:=bR 127 [(9,az.aN (bi.one (bU 840000 4 E))),(10,az.aN (bi.one (bU 25 5 A))),(11,bC 11),(13,bB d),(14,bB e),(18,bC 18),(21,bB i)] [(18,[aS f,aS g]),(11,[aS a,aS b,aS c,bU 310003 1 C])]
def Aq(A:aE)(a b:Int)(C:aE)(c d e f:Int)(l:List O):List O:=.i A a [I b]::.g C [(bx b c d e f)] 40::.h [(bx b c d e f)]::.u a::l
theorem ZH(h:al (Aq A e f C c d a b [])):
 bp (aF f36 0) (sc j g i A a b E c d e C) .normal (sc j g i A a b E c d (e+1) (C++[(bx f c d a b)])):=
 h.bu [21,11,10,18,13,14,9] [18,11]
def qE(A C:aE):aG:=bR 127 [(9,az.aN (bi.one (bU 840000 4 A))),(10,az.aN (bi.one (bU 25 5 C)))] []
theorem ZI(h:al [.f A a false]):
 bp (aF f36 0) (sc i b c A d e C f g a E) (.exit 0) (qE C E):=
 h.bu [9,10] []
theorem ZJ(h:al (uK C E f j b a g i F q r c k d e s l m t u A v [.n v false,.b (a==7) true,.r 59 [.agg [I c,I k]] [.agg [I n,I o],au w],.n w false,.l [] [21,11,10,18,13,14,9] [18,11] (aF f36 0) (sc a g i F l m A n o 0 []) (.exit 0) (qE A G)])):
 aA 36 [.agg (bj E f j),aB 4 C,.agg (bx b c k d e)] [aB 4 A,aB 5 G,au true]:=
 h.of
def sd(a b c d e:Int)(C:aE)(f g:Int)(E:aE)(i:Int)(A:aE):aG:=bR 127 [(9,az.aN (bi.one (bU 840000 4 E))),(10,az.aN (bi.one (bU 25 5 A))),(11,bC 11),(13,bB f),(14,bB g),(18,bC 18),(21,bB i)] [(18,[aS a,aS b]),(11,[aS c,aS d,aS e,bU 310003 1 C])]
theorem ZK(h:al (Aq A e f C c d a b [])):
 bp (aF f36 0) (sd c d j g i A a b E e C) .normal (sd c d j g i A a b E (e+1) (C++[(bx f c d a b)])):=
 h.bu [21,11,10,18,13,14,9] [18,11]
theorem ZL(h:al [.f A a false]):
 bp (aF f36 0) (sd f g i b c A d e C a E) (.exit 0) (qE C E):=
 h.bu [9,10] []
theorem ZM(h:al (uK C E f j b a g i F q r c k d e s l m t u A v [.n v false,.b (a==7) false,.l [] [21,11,10,18,13,14,9] [18,11] (aF f36 0) (sd c k a g i F l m A 0 []) (.exit 0) (qE A G)])):
 aA 36 [.agg (bj E f j),aB 4 C,.agg (bx b c k d e)] [aB 4 A,aB 5 G,au true]:=
 h.of
theorem ZN(h:al (An A C b c d a j k E q r e f g i s l m t u [.b u false,.b (a==7) true,.r 59 [.agg [I e,I f]] [.agg [I n,I o],au v],.n v true])):
 aA 36 [.agg (bj C b c),aB 4 A,.agg (bx d e f g i)] [aB 4 ([]++A),aB 5 [],au true]:=
 h.of
def se(A:aE)(a b c:Int)(E:aE)(d e f g i:Int)(C:aE):aG:=bR 127 [(9,az.aN (bi.one (bU 22 4 ([]++A)))),(10,az.aN (bi.one (bU 25 5 C))),(11,bC 11),(13,bB d),(14,bB e),(18,bC 18),(21,bB i)] [(18,[aS f,aS g]),(11,[aS a,aS b,aS c,bU 310003 1 E])]
theorem ZO(h:al (Aq A e f C c d a b [])):
 bp (aF f36 0) (se E j g i A a b c d e C) .normal (se E j g i A a b c d (e+1) (C++[(bx f c d a b)])):=
 h.bu [21,11,10,18,13,14,9] [18,11]
def qF(A C:aE):aG:=bR 127 [(9,az.aN (bi.one (bU 22 4 ([]++A)))),(10,az.aN (bi.one (bU 25 5 C)))] []
theorem ZP(h:al [.f A a false]):
 bp (aF f36 0) (se E i b c A d e f g a C) (.exit 0) (qF E C):=
 h.bu [9,10] []
theorem ZQ(h:al (An A C b e f a c d E q r g i j k s l m t u [.b u false,.b (a==7) true,.r 59 [.agg [I g,I i]] [.agg [I n,I o],au v],.n v false,.l [] [21,11,10,18,13,14,9] [18,11] (aF f36 0) (se A a c d E l m n o 0 []) (.exit 0) (qF A F)])):
 aA 36 [.agg (bj C b e),aB 4 A,.agg (bx f g i j k)] [aB 4 ([]++A),aB 5 F,au true]:=
 h.of
def sf(A:aE)(a b c d e:Int)(E:aE)(f g i:Int)(C:aE):aG:=bR 127 [(9,az.aN (bi.one (bU 22 4 ([]++A)))),(10,az.aN (bi.one (bU 25 5 C))),(11,bC 11),(13,bB f),(14,bB g),(18,bC 18),(21,bB i)] [(18,[aS a,aS b]),(11,[aS c,aS d,aS e,bU 310003 1 E])]
theorem ZR(h:al (Aq A e f C c d a b [])):
 bp (aF f36 0) (sf E c d j g i A a b e C) .normal (sf E c d j g i A a b (e+1) (C++[(bx f c d a b)])):=
 h.bu [21,11,10,18,13,14,9] [18,11]
theorem ZS(h:al [.f A a false]):
 bp (aF f36 0) (sf E f g i b c A d e a C) (.exit 0) (qF E C):=
 h.bu [9,10] []
theorem ZT(h:al (An A C b e f a c d E q r g i j k s l m t u [.b u false,.b (a==7) false,.l [] [21,11,10,18,13,14,9] [18,11] (aF f36 0) (sf A g i a c d E l m 0 []) (.exit 0) (qF A F)])):
 aA 36 [.agg (bj C b e),aB 4 A,.agg (bx f g i j k)] [aB 4 ([]++A),aB 5 F,au true]:=
 h.of
def Ao(A C:aE)(a b c d e f:Int)(E:aE)(q r:Bool)(g i j k:Int)(s:Bool)(m n:Int)(t u:Bool)(l:List O):List O:=GC A C a b c d e f E q r g i j k s m n t (.n t false::.r 61 [ao d] [au u]::l)
def Ap(A C:aE)(a b c d e f:Int)(E:aE)(q r:Bool)(g i j k:Int)(s:Bool)(m n:Int)(t u:Bool)(F:aE)(v:Bool)(l:List O):List O:=Ao A C a b c d e f E q r g i j k s m n t u (.b u true::.r 62 [ao d,aB 4 A,.agg [I c,I g,I j,I k]] [aB 4 F,au v]::l)
theorem ZU(h:al (Ap A C e f a d i j E q r g k b c s l m t u F v [.n v true])):
 aA 36 [.agg (bj C e f),aB 4 A,.agg (bx a g k b c)] [aB 4 F,aB 5 [],au true]:=
 h.of
theorem ZV(h:al (Ap A C f g b a j k E q r c i d e s l m t u F v [.n v false,.b (a==7) true,.r 59 [.agg [I c,I i]] [.agg [I n,I o],au w],.n w true])):
 aA 36 [.agg (bj C f g),aB 4 A,.agg (bx b c i d e)] [aB 4 F,aB 5 [],au true]:=
 h.of
theorem ZW(h:al (Ap C E f j b a g i F q r c k d e s l m t u A v [.n v false,.b (a==7) true,.r 59 [.agg [I c,I k]] [.agg [I n,I o],au w],.n w false,.l [] [21,11,10,18,13,14,9] [18,11] (aF f36 0) (sc a g i F l m A n o 0 []) (.exit 0) (qE A G)])):
 aA 36 [.agg (bj E f j),aB 4 C,.agg (bx b c k d e)] [aB 4 A,aB 5 G,au true]:=
 h.of
theorem ZX(h:al (Ap C E f j b a g i F q r c k d e s l m t u A v [.n v false,.b (a==7) false,.l [] [21,11,10,18,13,14,9] [18,11] (aF f36 0) (sd c k a g i F l m A 0 []) (.exit 0) (qE A G)])):
 aA 36 [.agg (bj E f j),aB 4 C,.agg (bx b c k d e)] [aB 4 A,aB 5 G,au true]:=
 h.of
theorem ZY(h:al (Ao A C b c d a j k E q r e f g i s l m t u [.b u false,.b (a==7) true,.r 59 [.agg [I e,I f]] [.agg [I n,I o],au v],.n v true])):
 aA 36 [.agg (bj C b c),aB 4 A,.agg (bx d e f g i)] [aB 4 ([]++A),aB 5 [],au true]:=
 h.of
theorem ZZ(h:al (Ao A C b e f a c d E q r g i j k s l m t u [.b u false,.b (a==7) true,.r 59 [.agg [I g,I i]] [.agg [I n,I o],au v],.n v false,.l [] [21,11,10,18,13,14,9] [18,11] (aF f36 0) (se A a c d E l m n o 0 []) (.exit 0) (qF A F)])):
 aA 36 [.agg (bj C b e),aB 4 A,.agg (bx f g i j k)] [aB 4 ([]++A),aB 5 F,au true]:=
 h.of
theorem Z0(h:al (Ao A C b e f a c d E q r g i j k s l m t u [.b u false,.b (a==7) false,.l [] [21,11,10,18,13,14,9] [18,11] (aF f36 0) (sf A g i a c d E l m 0 []) (.exit 0) (qF A F)])):
 aA 36 [.agg (bj C b e),aB 4 A,.agg (bx f g i j k)] [aB 4 ([]++A),aB 5 F,au true]:=
 h.of
def Ar(A:aE)(a b:Int)(q:Bool)(l:List O):List O:=.r 29 [.agg (bj A a b)] [au q]::l
theorem K5(h:al (Ar A a b q [.n q true,.r 53 [aB 4 E] [aB 4 C]])):
 aA 32 [.agg (bj A a b),aB 4 E,.agg (bx c d e f g)] [aB 4 C,aB 5 [],au false]:=
 h.of
def Ot(A:aE)(a b:Int)(q:Bool)(l:List O):List O:=Ar A a b q (.n q false::l)
def GD(A:aE)(a b:Int)(q:Bool)(c d e f g:Int)(r:Bool)(l:List O):List O:=Ot A a b q (.r 31 [.agg (bx c d e f g)] [au r]::l)
theorem K6(h:al (GD A a b r c d e f g q [.n q true,.r 53 [aB 4 E] [aB 4 C]])):
 aA 32 [.agg (bj A a b),aB 4 E,.agg (bx c d e f g)] [aB 4 C,aB 5 [],au false]:=
 h.of
def GF(A:aE)(a b:Int)(q:Bool)(c d e f g:Int)(r s:Bool)(l:List O):List O:=GD A a b q c d e f g r (.n r false::.r 37 [.agg (bj A a b),ao c] [au s]::l)
theorem Z1(h:al (GF A a b s c d e f g q r [.n r true,.r 53 [aB 4 E] [aB 4 C]])):
 aA 32 [.agg (bj A a b),aB 4 E,.agg (bx c d e f g)] [aB 4 C,aB 5 [],au false]:=
 h.of
def As(A:aE)(a b:Int)(q:Bool)(c d e f g:Int)(r s:Bool)(i j k:Int)(C:aE)(l:List O):List O:=GF A a b q c d e f g r s (.n s false::.x A c (aX i j k C)::l)
def xn(A:aE)(a b:Int)(q:Bool)(c d e f g:Int)(r s:Bool)(i j k:Int)(C:aE)(m n:Int)(t:Bool)(l:List O):List O:=As A a b q c d e f g r s i j k C (.r 54 [.agg (aX i j k C),ao f,ao g] [ao m,ao n,au t]::l)
theorem Z2(h:al (xn A b d t a j k e f q r c g i C l m s [.n s true,.b (c != 8) true,.r 53 [aB 4 F] [aB 4 E]])):
 aA 32 [.agg (bj A b d),aB 4 F,.agg (bx a j k e f)] [aB 4 E,aB 5 [],au true]:=
 h.of
def GG(A:aE)(a b:Int)(q:Bool)(c d e f g:Int)(r s:Bool)(i j k:Int)(C:aE)(m n:Int)(t:Bool)(E F:aE)(u:Bool)(l:List O):List O:=xn A a b q c d e f g r s i j k C m n t (.n t true::.b (i != 8) false::.r 55 [ao i,aB 4 E,.agg [I c,I d,I f,I g]] [aB 4 F,au u]::l)
theorem Z3(h:al (GG A e f u a g k c d q r b i j C l m s F E t [.n t true])):
 aA 32 [.agg (bj A e f),aB 4 F,.agg (bx a g k c d)] [aB 4 E,aB 5 [],au true]:=
 h.of
def oI(A:aE)(a b:Int)(C:aE)(c d:Int)(q:Bool)(e:Int)(E:aE):aG:=bR 111 [(10,bB a),(11,bB b),(13,az.aN (bi.one (bU 760000 4 C))),(14,bC 14),(15,.aN (.one (.bP q))),(16,az.aN (bi.one (bU 107 5 E))),(93,eB 1 A),(94,bB (A.length:Int)),(95,bB e)] [(14,[aS c,aS d])]
theorem Z4(h:al [.i A e [I f],.b q true,.g C [(bx f c d a b)] 40,.h [(bx f c d a b)],.u e]):
 bp (aF f32 0) (oI A a b E c d q e C) .normal (oI A a b E c d q (e+1) (C++[(bx f c d a b)])):=
 h.bu [95,94,93,15,16,14,10,11,13] [14]
theorem Zf(h:al [.i A a [I f],.b q false,.u a]):
 bp (aF f32 0) (oI A b c C d e q a E) .normal (oI A b c C d e q (a+1) E):=
 h.bu [95,94,93,15,16,14,10,11,13] [14]
def qG(A C:aE):aG:=bR 111 [(13,az.aN (bi.one (bU 760000 4 A))),(16,az.aN (bi.one (bU 107 5 C)))] []
theorem K7(h:al [.f A a false]):
 bp (aF f32 0) (oI A b c C d e q a E) (.exit 0) (qG C E):=
 h.bu [13,16] []
theorem Zg(h:al (GG A f g v b c i d e q r a j k E l m s G C t [.n t false,.b (a==7) true,.r 38 [.agg [I c,I i]] [.agg [I n,I o],au u],.l [(16,107,5)] [95,94,93,15,16,14,10,11,13] [14] (aF f32 0) (oI E l m C n o u 0 []) (.exit 0) (qG C F)])):
 aA 32 [.agg (bj A f g),aB 4 G,.agg (bx b c i d e)] [aB 4 C,aB 5 F,au true]:=
 h.of
def sg(a b:Int)(A:aE)(c d:Int)(C:aE)(e:Int)(E:aE):aG:=bR 111 [(10,bB c),(11,bB d),(13,az.aN (bi.one (bU 760000 4 C))),(14,bC 14),(15,.aN (.one (.bP true))),(16,az.aN (bi.one (bU 107 5 E))),(93,eB 1 A),(94,bB (A.length:Int)),(95,bB e)] [(14,[aS a,aS b])]
theorem Zh(h:al [.i A e [I f],.b true true,.g C [(bx f c d a b)] 40,.h [(bx f c d a b)],.u e]):
 bp (aF f32 0) (sg c d A a b E e C) .normal (sg c d A a b E (e+1) (C++[(bx f c d a b)])):=
 h.bu [95,94,93,15,16,14,10,11,13] [14]
theorem Zi(h:al [.f A a false]):
 bp (aF f32 0) (sg d e A b c C a E) (.exit 0) (qG C E):=
 h.bu [13,16] []
theorem Zj(h:al (GG A f g u b c i d e q r a j k E l m s G C t [.n t false,.b (a==7) false,.l [(16,107,5)] [95,94,93,15,16,14,10,11,13] [14] (aF f32 0) (sg c i E l m C 0 []) (.exit 0) (qG C F)])):
 aA 32 [.agg (bj A f g),aB 4 G,.agg (bx b c i d e)] [aB 4 C,aB 5 F,au true]:=
 h.of
theorem Zk(h:al (xn A d f u a g k b c q r e i j C l m s [.n s false,.r 55 [ao e,aB 4 F,.agg [I a,I g,I b,I c]] [aB 4 E,au t],.n t true])):
 aA 32 [.agg (bj A d f),aB 4 F,.agg (bx a g k b c)] [aB 4 E,aB 5 [],au true]:=
 h.of
theorem Zl(h:al (xn A f g v a c i d e q r b j k E l m s [.n s false,.r 55 [ao b,aB 4 G,.agg [I a,I c,I d,I e]] [aB 4 C,au t],.n t false,.b (b==7) true,.r 38 [.agg [I c,I i]] [.agg [I n,I o],au u],.l [(16,107,5)] [95,94,93,15,16,14,10,11,13] [14] (aF f32 0) (oI E l m C n o u 0 []) (.exit 0) (qG C F)])):
 aA 32 [.agg (bj A f g),aB 4 G,.agg (bx a c i d e)] [aB 4 C,aB 5 F,au true]:=
 h.of
theorem Zm(h:al (xn A f g u a c i d e q r b j k E l m s [.n s false,.r 55 [ao b,aB 4 G,.agg [I a,I c,I d,I e]] [aB 4 C,au t],.n t false,.b (b==7) false,.l [(16,107,5)] [95,94,93,15,16,14,10,11,13] [14] (aF f32 0) (sg c i E l m C 0 []) (.exit 0) (qG C F)])):
 aA 32 [.agg (bj A f g),aB 4 G,.agg (bx a c i d e)] [aB 4 C,aB 5 F,au true]:=
 h.of
theorem Zn(h:al (Ar A a b q [.n q true])):
 aA 22 [.agg (bj A a b),.agg (bx c d e f g)] [au false]:=
 h.of
theorem Zo(h:al (GD A a b q c d e f g r [.n r true])):
 aA 22 [.agg (bj A a b),.agg (bx c d e f g)] [au false]:=
 h.of
theorem Zp(h:al (GF A a b r c d e f g s q [.n q true])):
 aA 22 [.agg (bj A a b),.agg (bx c d e f g)] [au false]:=
 h.of
theorem Zq(h:al (As A b c s a d e g i t q f j k C [.r 38 [.agg [I d,I e]] [.agg [I l,I m],au r],.b (f==7) true,.b (decide ((C.length:Int)>0)) true])):
 aA 22 [.agg (bj A b c),.agg (bx a d e g i)] [.one (B !r)]:=
 h.of
theorem Zr(h:al (As A b c r a d e g i s q f j k C [.r 38 [.agg [I d,I e]] [.agg [I l,I m],au t],.b (f==7) true,.b (decide ((C.length:Int)>0)) false])):
 aA 22 [.agg (bj A b c),.agg (bx a d e g i)] [au false]:=
 h.of
theorem Zs(h:al (As A b c r a d e g i s q f j k C [.r 38 [.agg [I d,I e]] [.agg [I l,I m],au t],.b (f==7) false])):
 aA 22 [.agg (bj A b c),.agg (bx a d e g i)] [au false]:=
 h.of
theorem Zt(h:al [.r 33 [.agg (bj A a b)] [au q],.n q true]):
 aA 20 [.agg (bj A a b),aB 5 C,ao c] [aB 4 [],ao 0,au false,au false]:=
 h.of
def nL(A:aE)(a b:Int)(C E:aE)(c d:Int):aG:=bR 93 [(1,eB 5 A),(2,bB a),(3,bC 3),(10,az.aN (bi.one (bU 19 4 []))),(11,az.aN (bi.one (bU 24 5 C))),(12,bB b)] [(3,[.aa .free 4 E,aS c,aS d])]
theorem Zu(h:al [.i A a (bx o g p a0 cm),.b (g==e) true,.x A a (bx i j k l m),.r 34 [.agg (bx i j k l m)] [au q],.b q true,.x A a (bx dH b d0 c d),.g C [(bx 0 b 0 c d)] 40,.h [(bx 0 b 0 c d)],.u a]):
 bp (aF f20 0) (nL A e a C E n f) .normal (nL A e (a+1) (C++[(bx 0 b 0 c d)]) E n f):=
 h.bu [12,1,2,11,10,3] [3]
theorem Zv(h:al [.i A a (bx l d m n o),.b (d==b) true,.x A a (bx e f g i j),.r 34 [.agg (bx e f g i j)] [au q],.b q false,.u a]):
 bp (aF f20 0) (nL A b a C E k c) .normal (nL A b (a+1) C E k c):=
 h.bu [12,1,2,11,10,3] [3]
theorem Zw(h:al [.i A a (bx f d g i j),.b (d==b) false,.u a]):
 bp (aF f20 0) (nL A b a C E e c) .normal (nL A b (a+1) C E e c):=
 h.bu [12,1,2,11,10,3] [3]
def yF(A C:aE)(a b:Int):aG:=bR 93 [(3,bC 3),(10,az.aN (bi.one (bU 19 4 []))),(11,az.aN (bi.one (bU 24 5 A)))] [(3,[.aa .free 4 C,aS a,aS b])]
theorem Zx(h:al [.f A b false]):
 bp (aF f20 0) (nL A d b C E c a) (.exit 0) (yF C E c a):=
 h.bu [11,10,3] [3]
def kO(A:aE)(a b:Int)(C:aE)(c:Int)(E:aE)(q:Bool):aG:=bR 93 [(3,bC 3),(10,az.aN (bi.one (bU 10 4 E))),(11,az.aN (bi.one (bU 24 5 C))),(14,.aN (.one (.bP q))),(15,bB c)] [(3,[.aa .free 4 A,aS a,aS b])]
def D2(A:aE)(a:Int)(q r:Bool):aG:=bR 93 [(6,az.aN (bi.one (bU 10 4 A))),(7,bB a),(8,.aN (.one (.bP q))),(9,.aN (.one (.bP r)))] []
def xo(A:aE)(l:List O):List O:=.b (decide ((A.length:Int)>0)) true::l
theorem Zy(h:al (xo A [.b (decide (a>=20000)) true])):
 bp (aF f20 1) (kO E b c A a C q) .ret (D2 C a false q):=
 h.bu [6,7,8,9] []
theorem Zz(h:al (xo A [.b (decide (a>=20000)) false,.b q true,.p ((0:Int)<=0),.p (0<(A.length:Int)),.e A 0 (bx d e f g i),.r 36 [.agg (bj E b c),aB 4 F,.agg (bx d e f g i)] [aB 4 G,aB 5 C,au r],.a .own,.p ((0:Int)<=(some (1:Int)).getD 0),.p ((some (1:Int)).getD 0<=none.getD (A.length:Int)),.p (none.getD (A.length:Int)<=(A.length:Int)),.g (List.take (A.length-1) (List.drop 1 A)) C 40,.h C,.u a])):
 bp (aF f20 1) (kO E b c A a F q) .normal (kO E b c (List.take (A.length-1) (List.drop 1 A)++C) (a+1) G true):=
 h.yt [(10,10,4)] [11,15,10,14,3] [3]
theorem ZA(h:al (xo A [.b (decide (a>=20000)) false,.b q false,.p ((0:Int)<=0),.p (0<(A.length:Int)),.e A 0 (bx d e f g i),.r 35 [.agg (bj E b c),.agg (bx d e f g i)] [au r],.p ((0:Int)<=0),.p (0<(A.length:Int)),.e A 0 (bx j k l m n),.r 36 [.agg (bj E b c),aB 4 F,.agg (bx j k l m n)] [aB 4 G,aB 5 C,au s],.a .own,.p ((0:Int)<=(some (1:Int)).getD 0),.p ((some (1:Int)).getD 0<=none.getD (A.length:Int)),.p (none.getD (A.length:Int)<=(A.length:Int)),.g (List.take (A.length-1) (List.drop 1 A)) C 40,.h C,.u a])):
 bp (aF f20 1) (kO E b c A a F q) .normal (kO E b c (List.take (A.length-1) (List.drop 1 A)++C) (a+1) G r):=
 h.yt [(10,10,4)] [11,15,10,14,3] [3]
def Fo(A:aE)(a:Int)(q:Bool):aG:=bR 93 [(10,az.aN (bi.one (bU 10 4 A))),(14,.aN (.one (.bP q))),(15,bB a)] []
theorem K8(h:al [.b (decide ((A.length:Int)>0)) false]):
 bp (aF f20 1) (kO E b c A a C q) (.exit 2) (Fo C a q):=
 h.bu [10,15,14] []
theorem ZB(h:al [.r 33 [.agg (bj A a b)] [au s],.n s false,.l [] [12,1,2,11,10,3] [3] (aF f20 0) (nL E d 0 [] A a b) (.exit 0) (yF F G e f),.l [(10,10,4)] [11,15,10,14,3] [3] (aF f20 1) (kO G e f F 0 [] false) .ret (D2 C c q r)]):
 aA 20 [.agg (bj A a b),aB 5 E,ao d] [aB 4 C,ao c,au q,au r]:=
 h.of
theorem ZC(h:al [.r 33 [.agg (bj A a b)] [au r],.n r false,.l [] [12,1,2,11,10,3] [3] (aF f20 0) (nL E d 0 [] A a b) (.exit 0) (yF F G e f),.l [(10,10,4)] [11,15,10,14,3] [3] (aF f20 1) (kO G e f F 0 [] false) (.exit 2) (Fo C c q)]):
 aA 20 [.agg (bj A a b),aB 5 E,ao d] [aB 4 C,ao c,au true,au q]:=
 h.of
theorem ZD(h:al [.r 20 [.agg (bj A a b),aB 5 C,ao c] [aB 4 E,ao d,au q,au r]]):
 aA 7 [.agg (bj A a b),aB 5 C,ao c] [aB 4 E,ao d,au q]:=
 h.of
theorem ZE(h:al [.r 20 [.agg (bj A a b),aB 5 C,ao c] [aB 4 E,ao d,au q,au r],.r 24 [.agg (bj A a b),aB 4 E] [aB 4 F]]):
 aA 13 [.agg (bj A a b),aB 5 C,ao c] [aB 4 F]:=
 h.of
theorem Y6{A:aE}{a b:Int}{C:aE}{c:Int}{g5:Nat}{gd:List D}{q:Bool}(h:al (Ar A a b q [.n q true])):
 aA 18 [.agg (bj A a b),aB 5 C,ao c,.one (.da g5 gd)] [aB 4 [],ao 0,au false]:=
 h.of
def qH(g0:Nat)(cf:List D)(A:aE)(a:Int)(C E:aE)(b c:Int):aG:=bR 74 [(3,.aN (.one (.fd (D.da g0 cf)))),(4,bC 4),(11,az.aN (bi.one (bU 38 5 C))),(24,az.aN (bi.one (bU 250000 5 A))),(25,bB (A.length:Int)),(26,bB a)] [(4,[.aa .free 4 E,aS b,aS c])]
theorem Y7{g5:Nat}{gd:List D}{C:aE}{d:Int}{A E:aE}{e f g a i b c:Int}{q:Bool}(h:al [.i C d (bx g a i b c),.r 31 [.agg (bx g a i b c)] [au q],.b q true,.g A [(bx 0 a 0 b c)] 40,.h [(bx 0 a 0 b c)],.u d]):
 bp (aF f18 0) (qH g5 gd C d A E e f) .normal (qH g5 gd C (d+1) (A++[(bx 0 a 0 b c)]) E e f):=
 h.bu [26,25,24,11,3,4] [4]
theorem Y8{g5:Nat}{gd:List D}{A:aE}{a:Int}{C E:aE}{b c d e f g i:Int}{q:Bool}(h:al [.i A a (bx d e f g i),.r 31 [.agg (bx d e f g i)] [au q],.b q false,.u a]):
 bp (aF f18 0) (qH g5 gd A a C E b c) .normal (qH g5 gd A (a+1) C E b c):=
 h.bu [26,25,24,11,3,4] [4]
def Fp(g0:Nat)(cf:List D)(A C:aE)(a b:Int):aG:=bR 74 [(3,.aN (.one (.fd (D.da g0 cf)))),(4,bC 4),(11,az.aN (bi.one (bU 38 5 A)))] [(4,[.aa .free 4 C,aS a,aS b])]
theorem Y9{g5:Nat}{gd:List D}{E:aE}{c:Int}{A C:aE}{a b:Int}(h:al [.f E c false]):
 bp (aF f18 0) (qH g5 gd E c A C a b) (.exit 0) (Fp g5 gd A C a b):=
 h.bu [11,3,4] [4]
def sh(g0:Nat)(cf:List D)(A:aE)(a b:Int)(C:aE)(c:Int)(E:aE):aG:=bR 74 [(3,.aN (.one (.fd (D.da g0 cf)))),(4,bC 4),(11,az.aN (bi.one (bU 38 5 C))),(14,az.aN (bi.one (bU 590000 4 E))),(15,bB c)] [(4,[.aa .free 4 A,aS a,aS b])]
theorem Y'{g5:Nat}{gd:List D}{E:aE}{b c:Int}{A:aE}{a:Int}{F:aE}{d e f g i j k l m n:Int}{G C:aE}{q:Bool}(h:al (xo A [.b (decide (a<20000)) true,.p ((0:Int)<=0),.p (0<(A.length:Int)),.e A 0 (bx d e f g i),.p (hM prog g5=true),.r g5 ([.agg (bx d e f g i)]++List.map .one gd) [],.p ((0:Int)<=0),.p (0<(A.length:Int)),.e A 0 (bx j k l m n),.r 32 [.agg (bj E b c),aB 4 F,.agg (bx j k l m n)] [aB 4 G,aB 5 C,au q],.a .own,.p ((0:Int)<=(some (1:Int)).getD 0),.p ((some (1:Int)).getD 0<=none.getD (A.length:Int)),.p (none.getD (A.length:Int)<=(A.length:Int)),.g (List.take (A.length-1) (List.drop 1 A)) C 40,.h C,.u a])):
 bp (aF f18 1) (sh g5 gd E b c A a F) .normal (sh g5 gd E b c (List.take (A.length-1) (List.drop 1 A)++C) (a+1) G):=
 h.bu [11,15,3,4,14] [4]
def yG(A:aE)(a:Int)(C:aE):aG:=bR 74 [(11,az.aN (bi.one (bU 38 5 C))),(14,az.aN (bi.one (bU 590000 4 A))),(15,bB a)] []
theorem Za{g5:Nat}{gd:List D}{E:aE}{b c:Int}{A:aE}{a:Int}{C:aE}(h:al (xo A [.b (decide (a<20000)) false])):
 bp (aF f18 1) (sh g5 gd E b c A a C) (.exit 2) (yG C a A):=
 h.bu [14,15,11] []
theorem K9{g5:Nat}{gd:List D}{E:aE}{b c:Int}{A:aE}{a:Int}{C:aE}(h:al [.b (decide ((A.length:Int)>0)) false]):
 bp (aF f18 1) (sh g5 gd E b c A a C) (.exit 2) (yG C a A):=
 h.bu [14,15,11] []
theorem Zb{A:aE}{a b:Int}{G:aE}{f:Int}{g5:Nat}{gd:List D}{q:Bool}{H kl C:aE}{c d:Int}{E:aE}{e:Int}{F:aE}(h:al (Ot A a b q [.r 30 [aB 5 G,ao f] [aB 5 H],.l [(11,38,5)] [26,25,24,11,3,4] [4] (aF f18 0) (qH g5 gd H 0 [] A a b) (.exit 0) (Fp g5 gd kl C c d),.l [(14,590000,4)] [11,15,3,4,14] [4] (aF f18 1) (sh g5 gd C c d kl 0 []) (.exit 2) (yG E e F)])):
 aA 18 [.agg (bj A a b),aB 5 G,ao f,.one (.da g5 gd)] [aB 4 E,ao e,au ((F.length:Int)==0)]:=
 h.of
theorem Zc(h:al []):
 aA 19 [.agg (bx a b c d e)] []:=
 h.of
theorem Zd(h:al [.r 18 [.agg (bj A a b),aB 5 C,ao c,.one (.da 19 [])] [aB 4 E,ao d,au q]]):
 aA 6 [.agg (bj A a b),aB 5 C,ao c] [aB 4 E,ao d,au q]:=
 h.of
theorem Ze(h:al [.r 6 [.agg (bj A a b),aB 5 C,ao c] [aB 4 E,ao d,au q]]):
 aA 9 [.agg (bj A a b),aB 5 C,ao c] [ao d]:=
 h.of
theorem aaF(h:al [.r 6 [.agg (bj A a b),aB 5 C,ao c] [aB 4 E,ao d,au q],.r 23 [.agg (bj A a b),aB 4 E] [aB 4 F]]):
 aA 12 [.agg (bj A a b),aB 5 C,ao c] [aB 4 F]:=
 h.of
