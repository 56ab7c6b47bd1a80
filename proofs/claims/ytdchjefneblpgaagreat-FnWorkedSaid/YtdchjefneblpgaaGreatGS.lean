import Derived.Test.YtdchjefneblpgaaGreatGE
namespace Go.Proofs.YtdchjefneblpgaaGreat
open Go.Sx Go.RowKit
variable {a b c d e f g i j k l m n o : Int} {A C E F G : ae} {q r s t u v w : Bool}
def Vs(A:ae)(a b c d e f:Int)(C:ae)(q:Bool)(g i j k:Int)(r:Bool)(l:List O):List O:=.r 249 [.agg (bq A a b),af c] [.agg (bj d e f C),ak q]::.r 270 [.agg [I g,I i]] [.agg [I j,I k],ak r]::l
def Be(A:ae)(a b c d e f:Int)(C:ae)(q:Bool)(g i j k:Int)(r s:Bool)(l:List O):List O:=Vs A a b c d e f C q g i j k r (.b q true::.r 121 [.agg (bq A a b)] [ak s]::l)
theorem acy(h:ad (Be A a b c i m j C q d e k l r s [.b s true,.r 122 [.agg (bn c d e f g)] [ak t],.b t true,.b (i==7) true,.b (decide ((C.length:Int)>0)) true])):
av 177 [.agg (bq A a b),.agg (bn c d e f g)] [.one (B !r)]:=
h.of
theorem acz(h:ad (Be A a b c i m j C q d e k l t r [.b r true,.r 122 [.agg (bn c d e f g)] [ak s],.b s true,.b (i==7) true,.b (decide ((C.length:Int)>0)) false])):
av 177 [.agg (bq A a b),.agg (bn c d e f g)] [ak false]:=
h.of
theorem acA(h:ad (Be A a b c i m j C q d e k l t r [.b r true,.r 122 [.agg (bn c d e f g)] [ak s],.b s true,.b (i==7) false])):
av 177 [.agg (bq A a b),.agg (bn c d e f g)] [ak false]:=
h.of
theorem acB(h:ad (Be A a b c l m i C q d e j k t r [.b r true,.r 122 [.agg (bn c d e f g)] [ak s],.b s false])):
av 177 [.agg (bq A a b),.agg (bn c d e f g)] [ak false]:=
h.of
theorem acC(h:ad (Be A a b c l m f C q d e g i s r [.b r false])):
av 177 [.agg (bq A a b),.agg (bn c d e j k)] [ak false]:=
h.of
theorem acD(h:ad (Vs A a b c l m f C q d e g i r [.b q false])):
av 177 [.agg (bq A a b),.agg (bn c d e j k)] [ak false]:=
h.of
def Vt(A C:ae)(a b c d e f:Int)(E:ae)(q:Bool)(l:List O):List O:=.g ([]:ae) A 32::.h A::.r 249 [.agg (bq C a b),af c] [.agg (bj d e f E),ak q]::l
theorem acE(h:ad (Vt A C a b c k d e E q [.n q true])):
av 176 [.agg (bq C a b),aP 4 A,.agg (bn c f g i j)] [aP 4 ([]++A),aP 5 [],ak false]:=
h.of
def Vu(A C:ae)(a b c d e f:Int)(E:ae)(q r:Bool)(l:List O):List O:=Vt A C a b c d e f E q (.n q false::.r 121 [.agg (bq C a b)] [ak r]::l)
theorem acF(h:ad (Vu A C a b c k d e E q r [.n r true])):
av 176 [.agg (bq C a b),aP 4 A,.agg (bn c f g i j)] [aP 4 ([]++A),aP 5 [],ak false]:=
h.of
def Vv(A C:ae)(a b c d e f:Int)(E:ae)(q r:Bool)(g i j k:Int)(s:Bool)(l:List O):List O:=Vu A C a b c d e f E q r (.n r false::.r 122 [.agg (bn c g i j k)] [ak s]::l)
theorem acG(h:ad (Vv A C a b c k i j E q r d e f g s [.n s true])):
av 176 [.agg (bq C a b),aP 4 A,.agg (bn c d e f g)] [aP 4 ([]++A),aP 5 [],ak false]:=
h.of
def Mn(A C:ae)(a b c d e f:Int)(E:ae)(q r:Bool)(g i j k:Int)(s:Bool)(m n:Int)(t:Bool)(l:List O):List O:=Vv A C a b c d e f E q r g i j k s (.n s false::.r 267 [.agg (bj d e f E),af j,af k] [af m,af n,ak t]::l)
theorem acH(h:ad (Mn A C a b c f g i E q r j k d e s l m t [.n t true,.b (f != 8) true])):
av 176 [.agg (bq C a b),aP 4 A,.agg (bn c j k d e)] [aP 4 ([]++A),aP 5 [],ak true]:=
h.of
def ES(A C:ae)(a b c d e f:Int)(E:ae)(q r:Bool)(g i j k:Int)(s:Bool)(m n:Int)(t u:Bool)(l:List O):List O:=Mn A C a b c d e f E q r g i j k s m n t (.n t true::.b (d != 8) false::.r 268 [af d] [ak u]::l)
def ET(A C:ae)(a b c d e f:Int)(E:ae)(q r:Bool)(g i j k:Int)(s:Bool)(m n:Int)(t u:Bool)(F:ae)(v:Bool)(l:List O):List O:=ES A C a b c d e f E q r g i j k s m n t u (.b u true::.r 269 [af d,aP 4 A,.agg [I c,I g,I j,I k]] [aP 4 F,ak v]::l)
theorem acI(h:ad (ET A C e f b a i j E q r g k c d s l m t u F v [.n v true])):
av 176 [.agg (bq C e f),aP 4 A,.agg (bn b g k c d)] [aP 4 F,aP 5 [],ak true]:=
h.of
theorem acJ(h:ad (ET A C f g b a j k E q r c i d e s l m t u F v [.n v false,.b (a==7) true,.r 270 [.agg [I c,I i]] [.agg [I n,I o],ak w],.n w true])):
av 176 [.agg (bq C f g),aP 4 A,.agg (bn b c i d e)] [aP 4 F,aP 5 [],ak true]:=
h.of
def vj(a b c:Int)(C:ae)(d e:Int)(E:ae)(f g i:Int)(A:ae):aI:=bg 127 [(9,aJ.aK (bu.one (aC 840000 4 E))),(10,aJ.aK (bu.one (aC 25 5 A))),(11,aQ 11),(13,aY d),(14,aY e),(18,aQ 18),(21,aY i)] [(18,[ax f,ax g]),(11,[ax a,ax b,ax c,aC 310003 1 C])]
def EW(A:ae)(a b:Int)(C:ae)(c d e f:Int)(l:List O):List O:=.i A a [I b]::.g C [(bn b c d e f)] 40::.h [(bn b c d e f)]::.u a::l
theorem acK(h:ad (EW A e f C c d a b [])):
a7 (aq Tryz.f176 0) (vj j g i A a b E c d e C) .normal (vj j g i A a b E c d (e+1) (C++[(bn f c d a b)])):=
h.aX [21,11,10,18,13,14,9] [18,11]
def s8(A C:ae):aI:=bg 127 [(9,aJ.aK (bu.one (aC 840000 4 A))),(10,aJ.aK (bu.one (aC 25 5 C)))] []
theorem acL(h:ad [.f A a false]):
a7 (aq Tryz.f176 0) (vj i b c A d e C f g a E) (.exit 0) (s8 C E):=
h.aX [9,10] []
theorem acM(h:ad (ET C E f j b a g i F q r c k d e s l m t u A v [.n v false,.b (a==7) true,.r 270 [.agg [I c,I k]] [.agg [I n,I o],ak w],.n w false,.l [] [21,11,10,18,13,14,9] [18,11] (aq Tryz.f176 0) (vj a g i F l m A n o 0 []) (.exit 0) (s8 A G)])):
av 176 [.agg (bq E f j),aP 4 C,.agg (bn b c k d e)] [aP 4 A,aP 5 G,ak true]:=
h.of
def vk(a b c d e:Int)(C:ae)(f g:Int)(E:ae)(i:Int)(A:ae):aI:=bg 127 [(9,aJ.aK (bu.one (aC 840000 4 E))),(10,aJ.aK (bu.one (aC 25 5 A))),(11,aQ 11),(13,aY f),(14,aY g),(18,aQ 18),(21,aY i)] [(18,[ax a,ax b]),(11,[ax c,ax d,ax e,aC 310003 1 C])]
theorem acN(h:ad (EW A e f C c d a b [])):
a7 (aq Tryz.f176 0) (vk c d j g i A a b E e C) .normal (vk c d j g i A a b E (e+1) (C++[(bn f c d a b)])):=
h.aX [21,11,10,18,13,14,9] [18,11]
theorem acO(h:ad [.f A a false]):
a7 (aq Tryz.f176 0) (vk f g i b c A d e C a E) (.exit 0) (s8 C E):=
h.aX [9,10] []
theorem acP(h:ad (ET C E f j b a g i F q r c k d e s l m t u A v [.n v false,.b (a==7) false,.l [] [21,11,10,18,13,14,9] [18,11] (aq Tryz.f176 0) (vk c k a g i F l m A 0 []) (.exit 0) (s8 A G)])):
av 176 [.agg (bq E f j),aP 4 C,.agg (bn b c k d e)] [aP 4 A,aP 5 G,ak true]:=
h.of
theorem acQ(h:ad (ES A C b c d a j k E q r e f g i s l m t u [.b u false,.b (a==7) true,.r 270 [.agg [I e,I f]] [.agg [I n,I o],ak v],.n v true])):
av 176 [.agg (bq C b c),aP 4 A,.agg (bn d e f g i)] [aP 4 ([]++A),aP 5 [],ak true]:=
h.of
def vl(A:ae)(a b c:Int)(E:ae)(d e f g i:Int)(C:ae):aI:=bg 127 [(9,aJ.aK (bu.one (aC 22 4 ([]++A)))),(10,aJ.aK (bu.one (aC 25 5 C))),(11,aQ 11),(13,aY d),(14,aY e),(18,aQ 18),(21,aY i)] [(18,[ax f,ax g]),(11,[ax a,ax b,ax c,aC 310003 1 E])]
theorem acR(h:ad (EW A e f C c d a b [])):
a7 (aq Tryz.f176 0) (vl E j g i A a b c d e C) .normal (vl E j g i A a b c d (e+1) (C++[(bn f c d a b)])):=
h.aX [21,11,10,18,13,14,9] [18,11]
def s9(A C:ae):aI:=bg 127 [(9,aJ.aK (bu.one (aC 22 4 ([]++A)))),(10,aJ.aK (bu.one (aC 25 5 C)))] []
theorem acS(h:ad [.f A a false]):
a7 (aq Tryz.f176 0) (vl E i b c A d e f g a C) (.exit 0) (s9 E C):=
h.aX [9,10] []
theorem acT(h:ad (ES A C b e f a c d E q r g i j k s l m t u [.b u false,.b (a==7) true,.r 270 [.agg [I g,I i]] [.agg [I n,I o],ak v],.n v false,.l [] [21,11,10,18,13,14,9] [18,11] (aq Tryz.f176 0) (vl A a c d E l m n o 0 []) (.exit 0) (s9 A F)])):
av 176 [.agg (bq C b e),aP 4 A,.agg (bn f g i j k)] [aP 4 ([]++A),aP 5 F,ak true]:=
h.of
def vm(A:ae)(a b c d e:Int)(E:ae)(f g i:Int)(C:ae):aI:=bg 127 [(9,aJ.aK (bu.one (aC 22 4 ([]++A)))),(10,aJ.aK (bu.one (aC 25 5 C))),(11,aQ 11),(13,aY f),(14,aY g),(18,aQ 18),(21,aY i)] [(18,[ax a,ax b]),(11,[ax c,ax d,ax e,aC 310003 1 E])]
theorem acU(h:ad (EW A e f C c d a b [])):
a7 (aq Tryz.f176 0) (vm E c d j g i A a b e C) .normal (vm E c d j g i A a b (e+1) (C++[(bn f c d a b)])):=
h.aX [21,11,10,18,13,14,9] [18,11]
theorem acV(h:ad [.f A a false]):
a7 (aq Tryz.f176 0) (vm E f g i b c A d e a C) (.exit 0) (s9 E C):=
h.aX [9,10] []
theorem acW(h:ad (ES A C b e f a c d E q r g i j k s l m t u [.b u false,.b (a==7) false,.l [] [21,11,10,18,13,14,9] [18,11] (aq Tryz.f176 0) (vm A g i a c d E l m 0 []) (.exit 0) (s9 A F)])):
av 176 [.agg (bq C b e),aP 4 A,.agg (bn f g i j k)] [aP 4 ([]++A),aP 5 F,ak true]:=
h.of
def EU(A C:ae)(a b c d e f:Int)(E:ae)(q r:Bool)(g i j k:Int)(s:Bool)(m n:Int)(t u:Bool)(l:List O):List O:=Mn A C a b c d e f E q r g i j k s m n t (.n t false::.r 268 [af d] [ak u]::l)
def EV(A C:ae)(a b c d e f:Int)(E:ae)(q r:Bool)(g i j k:Int)(s:Bool)(m n:Int)(t u:Bool)(F:ae)(v:Bool)(l:List O):List O:=EU A C a b c d e f E q r g i j k s m n t u (.b u true::.r 269 [af d,aP 4 A,.agg [I c,I g,I j,I k]] [aP 4 F,ak v]::l)
theorem ab4(h:ad (EV A C e f a d i j E q r g k b c s l m t u F v [.n v true])):
av 176 [.agg (bq C e f),aP 4 A,.agg (bn a g k b c)] [aP 4 F,aP 5 [],ak true]:=
h.of
theorem ab5(h:ad (EV A C f g b a j k E q r c i d e s l m t u F v [.n v false,.b (a==7) true,.r 270 [.agg [I c,I i]] [.agg [I n,I o],ak w],.n w true])):
av 176 [.agg (bq C f g),aP 4 A,.agg (bn b c i d e)] [aP 4 F,aP 5 [],ak true]:=
h.of
theorem ab6(h:ad (EV C E f j b a g i F q r c k d e s l m t u A v [.n v false,.b (a==7) true,.r 270 [.agg [I c,I k]] [.agg [I n,I o],ak w],.n w false,.l [] [21,11,10,18,13,14,9] [18,11] (aq Tryz.f176 0) (vj a g i F l m A n o 0 []) (.exit 0) (s8 A G)])):
av 176 [.agg (bq E f j),aP 4 C,.agg (bn b c k d e)] [aP 4 A,aP 5 G,ak true]:=
h.of
theorem ab7(h:ad (EV C E f j b a g i F q r c k d e s l m t u A v [.n v false,.b (a==7) false,.l [] [21,11,10,18,13,14,9] [18,11] (aq Tryz.f176 0) (vk c k a g i F l m A 0 []) (.exit 0) (s8 A G)])):
av 176 [.agg (bq E f j),aP 4 C,.agg (bn b c k d e)] [aP 4 A,aP 5 G,ak true]:=
h.of
theorem ab8(h:ad (EU A C b c d a j k E q r e f g i s l m t u [.b u false,.b (a==7) true,.r 270 [.agg [I e,I f]] [.agg [I n,I o],ak v],.n v true])):
av 176 [.agg (bq C b c),aP 4 A,.agg (bn d e f g i)] [aP 4 ([]++A),aP 5 [],ak true]:=
h.of
theorem ab9(h:ad (EU A C b e f a c d E q r g i j k s l m t u [.b u false,.b (a==7) true,.r 270 [.agg [I g,I i]] [.agg [I n,I o],ak v],.n v false,.l [] [21,11,10,18,13,14,9] [18,11] (aq Tryz.f176 0) (vl A a c d E l m n o 0 []) (.exit 0) (s9 A F)])):
av 176 [.agg (bq C b e),aP 4 A,.agg (bn f g i j k)] [aP 4 ([]++A),aP 5 F,ak true]:=
h.of
theorem aca(h:ad (EU A C b e f a c d E q r g i j k s l m t u [.b u false,.b (a==7) false,.l [] [21,11,10,18,13,14,9] [18,11] (aq Tryz.f176 0) (vm A g i a c d E l m 0 []) (.exit 0) (s9 A F)])):
av 176 [.agg (bq C b e),aP 4 A,.agg (bn f g i j k)] [aP 4 ([]++A),aP 5 F,ak true]:=
h.of
def Mo(A:ae)(a b:Int)(q:Bool)(l:List O):List O:=.r 179 [.agg (bq A a b)] [ak q]::l
theorem QR(h:ad (Mo A a b q [.n q true,.r 297 [aP 4 E] [aP 4 C]])):
av 232 [.agg (bq A a b),aP 4 E,.agg (bn c d e f g)] [aP 4 C,aP 5 [],ak false]:=
h.of
def Mp(A:ae)(a b:Int)(q:Bool)(c d e f g:Int)(r:Bool)(l:List O):List O:=Mo A a b q (.n q false::.r 180 [.agg (bn c d e f g)] [ak r]::l)
theorem Sh(h:ad (Mp A a b r c d e f g q [.n q true,.r 297 [aP 4 E] [aP 4 C]])):
av 232 [.agg (bq A a b),aP 4 E,.agg (bn c d e f g)] [aP 4 C,aP 5 [],ak false]:=
h.of
def Mq(A:ae)(a b:Int)(q:Bool)(c d e f g:Int)(r s:Bool)(l:List O):List O:=Mp A a b q c d e f g r (.n r false::.r 250 [.agg (bq A a b),af c] [ak s]::l)
theorem acb(h:ad (Mq A a b s c d e f g q r [.n r true,.r 297 [aP 4 E] [aP 4 C]])):
av 232 [.agg (bq A a b),aP 4 E,.agg (bn c d e f g)] [aP 4 C,aP 5 [],ak false]:=
h.of
def EX(A:ae)(a b:Int)(q:Bool)(c d e f g:Int)(r s:Bool)(i j k:Int)(C:ae)(l:List O):List O:=Mq A a b q c d e f g r s (.n s false::.x A c (bj i j k C)::l)
def Bf(A:ae)(a b:Int)(q:Bool)(c d e f g:Int)(r s:Bool)(i j k:Int)(C:ae)(m n:Int)(t:Bool)(l:List O):List O:=EX A a b q c d e f g r s i j k C (.r 298 [.agg (bj i j k C),af f,af g] [af m,af n,ak t]::l)
theorem acd(h:ad (Bf A b d t a j k e f q r c g i C l m s [.n s true,.b (c != 8) true,.r 297 [aP 4 F] [aP 4 E]])):
av 232 [.agg (bq A b d),aP 4 F,.agg (bn a j k e f)] [aP 4 E,aP 5 [],ak true]:=
h.of
def Mr(A:ae)(a b:Int)(q:Bool)(c d e f g:Int)(r s:Bool)(i j k:Int)(C:ae)(m n:Int)(t:Bool)(E F:ae)(u:Bool)(l:List O):List O:=Bf A a b q c d e f g r s i j k C m n t (.n t true::.b (i != 8) false::.r 299 [af i,aP 4 E,.agg [I c,I d,I f,I g]] [aP 4 F,ak u]::l)
theorem ace(h:ad (Mr A e f u a g k c d q r b i j C l m s F E t [.n t true])):
av 232 [.agg (bq A e f),aP 4 F,.agg (bn a g k c d)] [aP 4 E,aP 5 [],ak true]:=
h.of
def qG(A:ae)(a b:Int)(C:ae)(c d:Int)(q:Bool)(e:Int)(E:ae):aI:=bg 111 [(10,aY a),(11,aY b),(13,aJ.aK (bu.one (aC 760000 4 C))),(14,aQ 14),(15,.aK (.one (.ba q))),(16,aJ.aK (bu.one (aC 107 5 E))),(93,dw 1 A),(94,aY (A.length:Int)),(95,aY e)] [(14,[ax c,ax d])]
theorem acf(h:ad [.i A e [I f],.b q true,.g C [(bn f c d a b)] 40,.h [(bn f c d a b)],.u e]):
a7 (aq Tryz.f232 0) (qG A a b E c d q e C) .normal (qG A a b E c d q (e+1) (C++[(bn f c d a b)])):=
h.aX [95,94,93,15,16,14,10,11,13] [14]
theorem acg(h:ad [.i A a [I f],.b q false,.u a]):
a7 (aq Tryz.f232 0) (qG A b c C d e q a E) .normal (qG A b c C d e q (a+1) E):=
h.aX [95,94,93,15,16,14,10,11,13] [14]
def s'(A C:ae):aI:=bg 111 [(13,aJ.aK (bu.one (aC 760000 4 A))),(16,aJ.aK (bu.one (aC 107 5 C)))] []
theorem Si(h:ad [.f A a false]):
a7 (aq Tryz.f232 0) (qG A b c C d e q a E) (.exit 0) (s' C E):=
h.aX [13,16] []
theorem ach(h:ad (Mr A f g v b c i d e q r a j k E l m s G C t [.n t false,.b (a==7) true,.r 300 [.agg [I c,I i]] [.agg [I n,I o],ak u],.l [(16,107,5)] [95,94,93,15,16,14,10,11,13] [14] (aq Tryz.f232 0) (qG E l m C n o u 0 []) (.exit 0) (s' C F)])):
av 232 [.agg (bq A f g),aP 4 G,.agg (bn b c i d e)] [aP 4 C,aP 5 F,ak true]:=
h.of
def vn(a b:Int)(A:ae)(c d:Int)(C:ae)(e:Int)(E:ae):aI:=bg 111 [(10,aY c),(11,aY d),(13,aJ.aK (bu.one (aC 760000 4 C))),(14,aQ 14),(15,.aK (.one (.ba true))),(16,aJ.aK (bu.one (aC 107 5 E))),(93,dw 1 A),(94,aY (A.length:Int)),(95,aY e)] [(14,[ax a,ax b])]
theorem aci(h:ad [.i A e [I f],.b true true,.g C [(bn f c d a b)] 40,.h [(bn f c d a b)],.u e]):
a7 (aq Tryz.f232 0) (vn c d A a b E e C) .normal (vn c d A a b E (e+1) (C++[(bn f c d a b)])):=
h.aX [95,94,93,15,16,14,10,11,13] [14]
theorem acj(h:ad [.f A a false]):
a7 (aq Tryz.f232 0) (vn d e A b c C a E) (.exit 0) (s' C E):=
h.aX [13,16] []
theorem ack(h:ad (Mr A f g u b c i d e q r a j k E l m s G C t [.n t false,.b (a==7) false,.l [(16,107,5)] [95,94,93,15,16,14,10,11,13] [14] (aq Tryz.f232 0) (vn c i E l m C 0 []) (.exit 0) (s' C F)])):
av 232 [.agg (bq A f g),aP 4 G,.agg (bn b c i d e)] [aP 4 C,aP 5 F,ak true]:=
h.of
theorem acm(h:ad (Bf A d f u a g k b c q r e i j C l m s [.n s false,.r 299 [af e,aP 4 F,.agg [I a,I g,I b,I c]] [aP 4 E,ak t],.n t true])):
av 232 [.agg (bq A d f),aP 4 F,.agg (bn a g k b c)] [aP 4 E,aP 5 [],ak true]:=
h.of
theorem acn(h:ad (Bf A f g v a c i d e q r b j k E l m s [.n s false,.r 299 [af b,aP 4 G,.agg [I a,I c,I d,I e]] [aP 4 C,ak t],.n t false,.b (b==7) true,.r 300 [.agg [I c,I i]] [.agg [I n,I o],ak u],.l [(16,107,5)] [95,94,93,15,16,14,10,11,13] [14] (aq Tryz.f232 0) (qG E l m C n o u 0 []) (.exit 0) (s' C F)])):
av 232 [.agg (bq A f g),aP 4 G,.agg (bn a c i d e)] [aP 4 C,aP 5 F,ak true]:=
h.of
theorem aco(h:ad (Bf A f g u a c i d e q r b j k E l m s [.n s false,.r 299 [af b,aP 4 G,.agg [I a,I c,I d,I e]] [aP 4 C,ak t],.n t false,.b (b==7) false,.l [(16,107,5)] [95,94,93,15,16,14,10,11,13] [14] (aq Tryz.f232 0) (vn c i E l m C 0 []) (.exit 0) (s' C F)])):
av 232 [.agg (bq A f g),aP 4 G,.agg (bn a c i d e)] [aP 4 C,aP 5 F,ak true]:=
h.of
theorem acp(h:ad (Mo A a b q [.n q true])):
av 265 [.agg (bq A a b),.agg (bn c d e f g)] [ak false]:=
h.of
theorem acq(h:ad (Mp A a b q c d e f g r [.n r true])):
av 265 [.agg (bq A a b),.agg (bn c d e f g)] [ak false]:=
h.of
theorem acr(h:ad (Mq A a b r c d e f g s q [.n q true])):
av 265 [.agg (bq A a b),.agg (bn c d e f g)] [ak false]:=
h.of
theorem acs(h:ad (EX A b c s a d e g i t q f j k C [.r 300 [.agg [I d,I e]] [.agg [I l,I m],ak r],.b (f==7) true,.b (decide ((C.length:Int)>0)) true])):
av 265 [.agg (bq A b c),.agg (bn a d e g i)] [.one (B !r)]:=
h.of
theorem acu(h:ad (EX A b c r a d e g i s q f j k C [.r 300 [.agg [I d,I e]] [.agg [I l,I m],ak t],.b (f==7) true,.b (decide ((C.length:Int)>0)) false])):
av 265 [.agg (bq A b c),.agg (bn a d e g i)] [ak false]:=
h.of
theorem acv(h:ad (EX A b c r a d e g i s q f j k C [.r 300 [.agg [I d,I e]] [.agg [I l,I m],ak t],.b (f==7) false])):
av 265 [.agg (bq A b c),.agg (bn a d e g i)] [ak false]:=
h.of
