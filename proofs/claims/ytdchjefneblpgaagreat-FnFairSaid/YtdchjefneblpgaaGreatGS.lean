import Derived.Test.YtdchjefneblpgaaGreatGE
set_option linter.unusedVariables false
set_option linter.unusedSimpArgs false
namespace Go.Proofs.YtdchjefneblpgaaGreat
open Go.Sx Go.RowKit
variable {a b c d e f g i j k l m n o : Int} {A C E F G : ag} {q r s t u v w : Bool}
def aaG(A:ag)(a b c d e f:Int)(C:ag)(q:Bool)(g i j k:Int)(r:Bool)(l:List O):List O:=.r 249 [.agg (br A a b),ae c] [.agg (bp d e f C),aj q]::.r 270 [.agg [I g,I i]] [.agg [I j,I k],aj r]::l
def Ee(A:ag)(a b c d e f:Int)(C:ag)(q:Bool)(g i j k:Int)(r s:Bool)(l:List O):List O:=aaG A a b c d e f C q g i j k r (.b q true::.r 121 [.agg (br A a b)] [aj s]::l)
theorem aoN(h:ad (Ee A a b c i m j C q d e k l r s [.b s true,.r 122 [.agg (bh c d e f g)] [aj t],.b t true,.b (i==7) true,.b (decide ((C.length:Int)>0)) true])):
 aq 177 [.agg (br A a b),.agg (bh c d e f g)] [.one (B !r)]:=
 h.of
theorem aoO(h:ad (Ee A a b c i m j C q d e k l t r [.b r true,.r 122 [.agg (bh c d e f g)] [aj s],.b s true,.b (i==7) true,.b (decide ((C.length:Int)>0)) false])):
 aq 177 [.agg (br A a b),.agg (bh c d e f g)] [aj false]:=
 h.of
theorem aoP(h:ad (Ee A a b c i m j C q d e k l t r [.b r true,.r 122 [.agg (bh c d e f g)] [aj s],.b s true,.b (i==7) false])):
 aq 177 [.agg (br A a b),.agg (bh c d e f g)] [aj false]:=
 h.of
theorem aoQ(h:ad (Ee A a b c l m i C q d e j k t r [.b r true,.r 122 [.agg (bh c d e f g)] [aj s],.b s false])):
 aq 177 [.agg (br A a b),.agg (bh c d e f g)] [aj false]:=
 h.of
theorem aoR(h:ad (Ee A a b c l m f C q d e g i s r [.b r false])):
 aq 177 [.agg (br A a b),.agg (bh c d e j k)] [aj false]:=
 h.of
theorem aoS(h:ad (aaG A a b c l m f C q d e g i r [.b q false])):
 aq 177 [.agg (br A a b),.agg (bh c d e j k)] [aj false]:=
 h.of
def aaH(A C:ag)(a b c d e f:Int)(E:ag)(q:Bool)(l:List O):List O:=.g ([]:ag) A 32::.h A::.r 249 [.agg (br C a b),ae c] [.agg (bp d e f E),aj q]::l
theorem aoT(h:ad (aaH A C a b c k d e E q [.n q true])):
 aq 176 [.agg (br C a b),aO 4 A,.agg (bh c f g i j)] [aO 4 ([]++A),aO 5 [],aj false]:=
 h.of
def aaI(A C:ag)(a b c d e f:Int)(E:ag)(q r:Bool)(l:List O):List O:=aaH A C a b c d e f E q (.n q false::.r 121 [.agg (br C a b)] [aj r]::l)
theorem aoU(h:ad (aaI A C a b c k d e E q r [.n r true])):
 aq 176 [.agg (br C a b),aO 4 A,.agg (bh c f g i j)] [aO 4 ([]++A),aO 5 [],aj false]:=
 h.of
def aaJ(A C:ag)(a b c d e f:Int)(E:ag)(q r:Bool)(g i j k:Int)(s:Bool)(l:List O):List O:=aaI A C a b c d e f E q r (.n r false::.r 122 [.agg (bh c g i j k)] [aj s]::l)
theorem aoV(h:ad (aaJ A C a b c k i j E q r d e f g s [.n s true])):
 aq 176 [.agg (br C a b),aO 4 A,.agg (bh c d e f g)] [aO 4 ([]++A),aO 5 [],aj false]:=
 h.of
def Qg(A C:ag)(a b c d e f:Int)(E:ag)(q r:Bool)(g i j k:Int)(s:Bool)(m n:Int)(t:Bool)(l:List O):List O:=aaJ A C a b c d e f E q r g i j k s (.n s false::.r 267 [.agg (bp d e f E),ae j,ae k] [ae m,ae n,aj t]::l)
theorem aoW(h:ad (Qg A C a b c f g i E q r j k d e s l m t [.n t true,.b (f != 8) true])):
 aq 176 [.agg (br C a b),aO 4 A,.agg (bh c j k d e)] [aO 4 ([]++A),aO 5 [],aj true]:=
 h.of
def Iu(A C:ag)(a b c d e f:Int)(E:ag)(q r:Bool)(g i j k:Int)(s:Bool)(m n:Int)(t u:Bool)(l:List O):List O:=Qg A C a b c d e f E q r g i j k s m n t (.n t true::.b (d != 8) false::.r 268 [ae d] [aj u]::l)
def Iv(A C:ag)(a b c d e f:Int)(E:ag)(q r:Bool)(g i j k:Int)(s:Bool)(m n:Int)(t u:Bool)(F:ag)(v:Bool)(l:List O):List O:=Iu A C a b c d e f E q r g i j k s m n t u (.b u true::.r 269 [ae d,aO 4 A,.agg [I c,I g,I j,I k]] [aO 4 F,aj v]::l)
theorem aoX(h:ad (Iv A C e f b a i j E q r g k c d s l m t u F v [.n v true])):
 aq 176 [.agg (br C e f),aO 4 A,.agg (bh b g k c d)] [aO 4 F,aO 5 [],aj true]:=
 h.of
theorem aoY(h:ad (Iv A C f g b a j k E q r c i d e s l m t u F v [.n v false,.b (a==7) true,.r 270 [.agg [I c,I i]] [.agg [I n,I o],aj w],.n w true])):
 aq 176 [.agg (br C f g),aO 4 A,.agg (bh b c i d e)] [aO 4 F,aO 5 [],aj true]:=
 h.of
def yi(a b c:Int)(C:ag)(d e:Int)(E:ag)(f g i:Int)(A:ag):aC:=bb 127 [(9,aI.aG (bl.one (aB 840000 4 E))),(10,aI.aG (bl.one (aB 25 5 A))),(11,aR 11),(13,aU d),(14,aU e),(18,aR 18),(21,aU i)] [(18,[au f,au g]),(11,[au a,au b,au c,aB 310003 1 C])]
def Iy(A:ag)(a b:Int)(C:ag)(c d e f:Int)(l:List O):List O:=.i A a [I b]::.g C [(bh b c d e f)] 40::.h [(bh b c d e f)]::.u a::l
theorem aoZ(h:ad (Iy A e f C c d a b [])):
 aV (ap Tryz.f176 0) (yi j g i A a b E c d e C) .normal (yi j g i A a b E c d (e+1) (C++[(bh f c d a b)])):=
 h.aS [21,11,10,18,13,14,9] [18,11]
def vX(A C:ag):aC:=bb 127 [(9,aI.aG (bl.one (aB 840000 4 A))),(10,aI.aG (bl.one (aB 25 5 C)))] []
theorem aoq(h:ad [.f A a false]):
 aV (ap Tryz.f176 0) (yi i b c A d e C f g a E) (.exit 0) (vX C E):=
 h.aS [9,10] []
theorem aor(h:ad (Iv C E f j b a g i F q r c k d e s l m t u A v [.n v false,.b (a==7) true,.r 270 [.agg [I c,I k]] [.agg [I n,I o],aj w],.n w false,.l [] [21,11,10,18,13,14,9] [18,11] (ap Tryz.f176 0) (yi a g i F l m A n o 0 []) (.exit 0) (vX A G)])):
 aq 176 [.agg (br E f j),aO 4 C,.agg (bh b c k d e)] [aO 4 A,aO 5 G,aj true]:=
 h.of
def yj(a b c d e:Int)(C:ag)(f g:Int)(E:ag)(i:Int)(A:ag):aC:=bb 127 [(9,aI.aG (bl.one (aB 840000 4 E))),(10,aI.aG (bl.one (aB 25 5 A))),(11,aR 11),(13,aU f),(14,aU g),(18,aR 18),(21,aU i)] [(18,[au a,au b]),(11,[au c,au d,au e,aB 310003 1 C])]
theorem aos(h:ad (Iy A e f C c d a b [])):
 aV (ap Tryz.f176 0) (yj c d j g i A a b E e C) .normal (yj c d j g i A a b E (e+1) (C++[(bh f c d a b)])):=
 h.aS [21,11,10,18,13,14,9] [18,11]
theorem aot(h:ad [.f A a false]):
 aV (ap Tryz.f176 0) (yj f g i b c A d e C a E) (.exit 0) (vX C E):=
 h.aS [9,10] []
theorem aou(h:ad (Iv C E f j b a g i F q r c k d e s l m t u A v [.n v false,.b (a==7) false,.l [] [21,11,10,18,13,14,9] [18,11] (ap Tryz.f176 0) (yj c k a g i F l m A 0 []) (.exit 0) (vX A G)])):
 aq 176 [.agg (br E f j),aO 4 C,.agg (bh b c k d e)] [aO 4 A,aO 5 G,aj true]:=
 h.of
theorem aov(h:ad (Iu A C b c d a j k E q r e f g i s l m t u [.b u false,.b (a==7) true,.r 270 [.agg [I e,I f]] [.agg [I n,I o],aj v],.n v true])):
 aq 176 [.agg (br C b c),aO 4 A,.agg (bh d e f g i)] [aO 4 ([]++A),aO 5 [],aj true]:=
 h.of
def yk(A:ag)(a b c:Int)(E:ag)(d e f g i:Int)(C:ag):aC:=bb 127 [(9,aI.aG (bl.one (aB 22 4 ([]++A)))),(10,aI.aG (bl.one (aB 25 5 C))),(11,aR 11),(13,aU d),(14,aU e),(18,aR 18),(21,aU i)] [(18,[au f,au g]),(11,[au a,au b,au c,aB 310003 1 E])]
theorem aow(h:ad (Iy A e f C c d a b [])):
 aV (ap Tryz.f176 0) (yk E j g i A a b c d e C) .normal (yk E j g i A a b c d (e+1) (C++[(bh f c d a b)])):=
 h.aS [21,11,10,18,13,14,9] [18,11]
def vY(A C:ag):aC:=bb 127 [(9,aI.aG (bl.one (aB 22 4 ([]++A)))),(10,aI.aG (bl.one (aB 25 5 C)))] []
theorem aox(h:ad [.f A a false]):
 aV (ap Tryz.f176 0) (yk E i b c A d e f g a C) (.exit 0) (vY E C):=
 h.aS [9,10] []
theorem aoy(h:ad (Iu A C b e f a c d E q r g i j k s l m t u [.b u false,.b (a==7) true,.r 270 [.agg [I g,I i]] [.agg [I n,I o],aj v],.n v false,.l [] [21,11,10,18,13,14,9] [18,11] (ap Tryz.f176 0) (yk A a c d E l m n o 0 []) (.exit 0) (vY A F)])):
 aq 176 [.agg (br C b e),aO 4 A,.agg (bh f g i j k)] [aO 4 ([]++A),aO 5 F,aj true]:=
 h.of
def yl(A:ag)(a b c d e:Int)(E:ag)(f g i:Int)(C:ag):aC:=bb 127 [(9,aI.aG (bl.one (aB 22 4 ([]++A)))),(10,aI.aG (bl.one (aB 25 5 C))),(11,aR 11),(13,aU f),(14,aU g),(18,aR 18),(21,aU i)] [(18,[au a,au b]),(11,[au c,au d,au e,aB 310003 1 E])]
theorem aoz(h:ad (Iy A e f C c d a b [])):
 aV (ap Tryz.f176 0) (yl E c d j g i A a b e C) .normal (yl E c d j g i A a b (e+1) (C++[(bh f c d a b)])):=
 h.aS [21,11,10,18,13,14,9] [18,11]
theorem ap1(h:ad [.f A a false]):
 aV (ap Tryz.f176 0) (yl E f g i b c A d e a C) (.exit 0) (vY E C):=
 h.aS [9,10] []
theorem ap2(h:ad (Iu A C b e f a c d E q r g i j k s l m t u [.b u false,.b (a==7) false,.l [] [21,11,10,18,13,14,9] [18,11] (ap Tryz.f176 0) (yl A g i a c d E l m 0 []) (.exit 0) (vY A F)])):
 aq 176 [.agg (br C b e),aO 4 A,.agg (bh f g i j k)] [aO 4 ([]++A),aO 5 F,aj true]:=
 h.of
def Iw(A C:ag)(a b c d e f:Int)(E:ag)(q r:Bool)(g i j k:Int)(s:Bool)(m n:Int)(t u:Bool)(l:List O):List O:=Qg A C a b c d e f E q r g i j k s m n t (.n t false::.r 268 [ae d] [aj u]::l)
def Ix(A C:ag)(a b c d e f:Int)(E:ag)(q r:Bool)(g i j k:Int)(s:Bool)(m n:Int)(t u:Bool)(F:ag)(v:Bool)(l:List O):List O:=Iw A C a b c d e f E q r g i j k s m n t u (.b u true::.r 269 [ae d,aO 4 A,.agg [I c,I g,I j,I k]] [aO 4 F,aj v]::l)
theorem ap3(h:ad (Ix A C e f a d i j E q r g k b c s l m t u F v [.n v true])):
 aq 176 [.agg (br C e f),aO 4 A,.agg (bh a g k b c)] [aO 4 F,aO 5 [],aj true]:=
 h.of
theorem ap4(h:ad (Ix A C f g b a j k E q r c i d e s l m t u F v [.n v false,.b (a==7) true,.r 270 [.agg [I c,I i]] [.agg [I n,I o],aj w],.n w true])):
 aq 176 [.agg (br C f g),aO 4 A,.agg (bh b c i d e)] [aO 4 F,aO 5 [],aj true]:=
 h.of
theorem ap5(h:ad (Ix C E f j b a g i F q r c k d e s l m t u A v [.n v false,.b (a==7) true,.r 270 [.agg [I c,I k]] [.agg [I n,I o],aj w],.n w false,.l [] [21,11,10,18,13,14,9] [18,11] (ap Tryz.f176 0) (yi a g i F l m A n o 0 []) (.exit 0) (vX A G)])):
 aq 176 [.agg (br E f j),aO 4 C,.agg (bh b c k d e)] [aO 4 A,aO 5 G,aj true]:=
 h.of
theorem ap6(h:ad (Ix C E f j b a g i F q r c k d e s l m t u A v [.n v false,.b (a==7) false,.l [] [21,11,10,18,13,14,9] [18,11] (ap Tryz.f176 0) (yj c k a g i F l m A 0 []) (.exit 0) (vX A G)])):
 aq 176 [.agg (br E f j),aO 4 C,.agg (bh b c k d e)] [aO 4 A,aO 5 G,aj true]:=
 h.of
theorem ap7(h:ad (Iw A C b c d a j k E q r e f g i s l m t u [.b u false,.b (a==7) true,.r 270 [.agg [I e,I f]] [.agg [I n,I o],aj v],.n v true])):
 aq 176 [.agg (br C b c),aO 4 A,.agg (bh d e f g i)] [aO 4 ([]++A),aO 5 [],aj true]:=
 h.of
theorem ap8(h:ad (Iw A C b e f a c d E q r g i j k s l m t u [.b u false,.b (a==7) true,.r 270 [.agg [I g,I i]] [.agg [I n,I o],aj v],.n v false,.l [] [21,11,10,18,13,14,9] [18,11] (ap Tryz.f176 0) (yk A a c d E l m n o 0 []) (.exit 0) (vY A F)])):
 aq 176 [.agg (br C b e),aO 4 A,.agg (bh f g i j k)] [aO 4 ([]++A),aO 5 F,aj true]:=
 h.of
theorem ap9(h:ad (Iw A C b e f a c d E q r g i j k s l m t u [.b u false,.b (a==7) false,.l [] [21,11,10,18,13,14,9] [18,11] (ap Tryz.f176 0) (yl A g i a c d E l m 0 []) (.exit 0) (vY A F)])):
 aq 176 [.agg (br C b e),aO 4 A,.agg (bh f g i j k)] [aO 4 ([]++A),aO 5 F,aj true]:=
 h.of
def Qh(A:ag)(a b:Int)(q:Bool)(l:List O):List O:=.r 179 [.agg (br A a b)] [aj q]::l
theorem W0(h:ad (Qh A a b q [.n q true,.r 297 [aO 4 E] [aO 4 C]])):
 aq 232 [.agg (br A a b),aO 4 E,.agg (bh c d e f g)] [aO 4 C,aO 5 [],aj false]:=
 h.of
def P4(A:ag)(a b:Int)(q:Bool)(c d e f g:Int)(r:Bool)(l:List O):List O:=Qh A a b q (.n q false::.r 180 [.agg (bh c d e f g)] [aj r]::l)
theorem W1(h:ad (P4 A a b r c d e f g q [.n q true,.r 297 [aO 4 E] [aO 4 C]])):
 aq 232 [.agg (br A a b),aO 4 E,.agg (bh c d e f g)] [aO 4 C,aO 5 [],aj false]:=
 h.of
def P5(A:ag)(a b:Int)(q:Bool)(c d e f g:Int)(r s:Bool)(l:List O):List O:=P4 A a b q c d e f g r (.n r false::.r 250 [.agg (br A a b),ae c] [aj s]::l)
theorem aqa(h:ad (P5 A a b s c d e f g q r [.n r true,.r 297 [aO 4 E] [aO 4 C]])):
 aq 232 [.agg (br A a b),aO 4 E,.agg (bh c d e f g)] [aO 4 C,aO 5 [],aj false]:=
 h.of
def Ip(A:ag)(a b:Int)(q:Bool)(c d e f g:Int)(r s:Bool)(i j k:Int)(C:ag)(l:List O):List O:=P5 A a b q c d e f g r s (.n s false::.x A c (bp i j k C)::l)
def Eb(A:ag)(a b:Int)(q:Bool)(c d e f g:Int)(r s:Bool)(i j k:Int)(C:ag)(m n:Int)(t:Bool)(l:List O):List O:=Ip A a b q c d e f g r s i j k C (.r 298 [.agg (bp i j k C),ae f,ae g] [ae m,ae n,aj t]::l)
theorem aqb(h:ad (Eb A b d t a j k e f q r c g i C l m s [.n s true,.b (c != 8) true,.r 297 [aO 4 F] [aO 4 E]])):
 aq 232 [.agg (br A b d),aO 4 F,.agg (bh a j k e f)] [aO 4 E,aO 5 [],aj true]:=
 h.of
def P6(A:ag)(a b:Int)(q:Bool)(c d e f g:Int)(r s:Bool)(i j k:Int)(C:ag)(m n:Int)(t:Bool)(E F:ag)(u:Bool)(l:List O):List O:=Eb A a b q c d e f g r s i j k C m n t (.n t true::.b (i != 8) false::.r 299 [ae i,aO 4 E,.agg [I c,I d,I f,I g]] [aO 4 F,aj u]::l)
theorem aqc(h:ad (P6 A e f u a g k c d q r b i j C l m s F E t [.n t true])):
 aq 232 [.agg (br A e f),aO 4 F,.agg (bh a g k c d)] [aO 4 E,aO 5 [],aj true]:=
 h.of
def s3(A:ag)(a b:Int)(C:ag)(c d:Int)(q:Bool)(e:Int)(E:ag):aC:=bb 111 [(10,aU a),(11,aU b),(13,aI.aG (bl.one (aB 760000 4 C))),(14,aR 14),(15,.aG (.one (.bg q))),(16,aI.aG (bl.one (aB 107 5 E))),(93,dB 1 A),(94,aU (A.length:Int)),(95,aU e)] [(14,[au c,au d])]
theorem aqd(h:ad [.i A e [I f],.b q true,.g C [(bh f c d a b)] 40,.h [(bh f c d a b)],.u e]):
 aV (ap Tryz.f232 0) (s3 A a b E c d q e C) .normal (s3 A a b E c d q (e+1) (C++[(bh f c d a b)])):=
 h.aS [95,94,93,15,16,14,10,11,13] [14]
theorem aqe(h:ad [.i A a [I f],.b q false,.u a]):
 aV (ap Tryz.f232 0) (s3 A b c C d e q a E) .normal (s3 A b c C d e q (a+1) E):=
 h.aS [95,94,93,15,16,14,10,11,13] [14]
def vZ(A C:ag):aC:=bb 111 [(13,aI.aG (bl.one (aB 760000 4 A))),(16,aI.aG (bl.one (aB 107 5 C)))] []
theorem W2(h:ad [.f A a false]):
 aV (ap Tryz.f232 0) (s3 A b c C d e q a E) (.exit 0) (vZ C E):=
 h.aS [13,16] []
theorem aqf(h:ad (P6 A f g v b c i d e q r a j k E l m s G C t [.n t false,.b (a==7) true,.r 300 [.agg [I c,I i]] [.agg [I n,I o],aj u],.l [(16,107,5)] [95,94,93,15,16,14,10,11,13] [14] (ap Tryz.f232 0) (s3 E l m C n o u 0 []) (.exit 0) (vZ C F)])):
 aq 232 [.agg (br A f g),aO 4 G,.agg (bh b c i d e)] [aO 4 C,aO 5 F,aj true]:=
 h.of
def xD(a b:Int)(A:ag)(c d:Int)(C:ag)(e:Int)(E:ag):aC:=bb 111 [(10,aU c),(11,aU d),(13,aI.aG (bl.one (aB 760000 4 C))),(14,aR 14),(15,.aG (.one (.bg true))),(16,aI.aG (bl.one (aB 107 5 E))),(93,dB 1 A),(94,aU (A.length:Int)),(95,aU e)] [(14,[au a,au b])]
theorem aqg(h:ad [.i A e [I f],.b true true,.g C [(bh f c d a b)] 40,.h [(bh f c d a b)],.u e]):
 aV (ap Tryz.f232 0) (xD c d A a b E e C) .normal (xD c d A a b E (e+1) (C++[(bh f c d a b)])):=
 h.aS [95,94,93,15,16,14,10,11,13] [14]
theorem aqh(h:ad [.f A a false]):
 aV (ap Tryz.f232 0) (xD d e A b c C a E) (.exit 0) (vZ C E):=
 h.aS [13,16] []
theorem aqi(h:ad (P6 A f g u b c i d e q r a j k E l m s G C t [.n t false,.b (a==7) false,.l [(16,107,5)] [95,94,93,15,16,14,10,11,13] [14] (ap Tryz.f232 0) (xD c i E l m C 0 []) (.exit 0) (vZ C F)])):
 aq 232 [.agg (br A f g),aO 4 G,.agg (bh b c i d e)] [aO 4 C,aO 5 F,aj true]:=
 h.of
theorem aqj(h:ad (Eb A d f u a g k b c q r e i j C l m s [.n s false,.r 299 [ae e,aO 4 F,.agg [I a,I g,I b,I c]] [aO 4 E,aj t],.n t true])):
 aq 232 [.agg (br A d f),aO 4 F,.agg (bh a g k b c)] [aO 4 E,aO 5 [],aj true]:=
 h.of
theorem aqk(h:ad (Eb A f g v a c i d e q r b j k E l m s [.n s false,.r 299 [ae b,aO 4 G,.agg [I a,I c,I d,I e]] [aO 4 C,aj t],.n t false,.b (b==7) true,.r 300 [.agg [I c,I i]] [.agg [I n,I o],aj u],.l [(16,107,5)] [95,94,93,15,16,14,10,11,13] [14] (ap Tryz.f232 0) (s3 E l m C n o u 0 []) (.exit 0) (vZ C F)])):
 aq 232 [.agg (br A f g),aO 4 G,.agg (bh a c i d e)] [aO 4 C,aO 5 F,aj true]:=
 h.of
theorem aql(h:ad (Eb A f g u a c i d e q r b j k E l m s [.n s false,.r 299 [ae b,aO 4 G,.agg [I a,I c,I d,I e]] [aO 4 C,aj t],.n t false,.b (b==7) false,.l [(16,107,5)] [95,94,93,15,16,14,10,11,13] [14] (ap Tryz.f232 0) (xD c i E l m C 0 []) (.exit 0) (vZ C F)])):
 aq 232 [.agg (br A f g),aO 4 G,.agg (bh a c i d e)] [aO 4 C,aO 5 F,aj true]:=
 h.of
theorem aqm(h:ad (Qh A a b q [.n q true])):
 aq 265 [.agg (br A a b),.agg (bh c d e f g)] [aj false]:=
 h.of
theorem aqn(h:ad (P4 A a b q c d e f g r [.n r true])):
 aq 265 [.agg (br A a b),.agg (bh c d e f g)] [aj false]:=
 h.of
theorem aqo(h:ad (P5 A a b r c d e f g s q [.n q true])):
 aq 265 [.agg (br A a b),.agg (bh c d e f g)] [aj false]:=
 h.of
theorem aqp(h:ad (Ip A b c s a d e g i t q f j k C [.r 300 [.agg [I d,I e]] [.agg [I l,I m],aj r],.b (f==7) true,.b (decide ((C.length:Int)>0)) true])):
 aq 265 [.agg (br A b c),.agg (bh a d e g i)] [.one (B !r)]:=
 h.of
theorem aqq(h:ad (Ip A b c r a d e g i s q f j k C [.r 300 [.agg [I d,I e]] [.agg [I l,I m],aj t],.b (f==7) true,.b (decide ((C.length:Int)>0)) false])):
 aq 265 [.agg (br A b c),.agg (bh a d e g i)] [aj false]:=
 h.of
theorem apB(h:ad (Ip A b c r a d e g i s q f j k C [.r 300 [.agg [I d,I e]] [.agg [I l,I m],aj t],.b (f==7) false])):
 aq 265 [.agg (br A b c),.agg (bh a d e g i)] [aj false]:=
 h.of
