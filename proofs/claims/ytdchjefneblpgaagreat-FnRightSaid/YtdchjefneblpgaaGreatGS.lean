import Derived.Test.YtdchjefneblpgaaGreatGE
set_option linter.unusedVariables false
set_option linter.unusedSimpArgs false
namespace Go.Proofs.YtdchjefneblpgaaGreat
open Go.Sx Go.RowKit
variable {a b c d e f g i j k l m n o : Int} {A C E F G : ah} {q r s t u v w : Bool}
def abr(A:ah)(a b c d e f:Int)(C:ah)(q:Bool)(g i j k:Int)(r:Bool)(l:List O):List O:=.r 249 [.agg (bg A a b),ag c] [.agg (bj d e f C),ak q]::.r 270 [.agg [I g,I i]] [.agg [I j,I k],ak r]::l
def EH(A:ah)(a b c d e f:Int)(C:ah)(q:Bool)(g i j k:Int)(r s:Bool)(l:List O):List O:=abr A a b c d e f C q g i j k r (.b q true::.r 121 [.agg (bg A a b)] [ak s]::l)
theorem amz(h:af (EH A a b c i m j C q d e k l r s [.b s true,.r 122 [.agg (bz c d e f g)] [ak t],.b t true,.b (i==7) true,.b (decide ((C.length:Int)>0)) true])):
 av 177 [.agg (bg A a b),.agg (bz c d e f g)] [.one (B !r)]:=
 h.of
theorem amA(h:af (EH A a b c i m j C q d e k l t r [.b r true,.r 122 [.agg (bz c d e f g)] [ak s],.b s true,.b (i==7) true,.b (decide ((C.length:Int)>0)) false])):
 av 177 [.agg (bg A a b),.agg (bz c d e f g)] [ak false]:=
 h.of
theorem amB(h:af (EH A a b c i m j C q d e k l t r [.b r true,.r 122 [.agg (bz c d e f g)] [ak s],.b s true,.b (i==7) false])):
 av 177 [.agg (bg A a b),.agg (bz c d e f g)] [ak false]:=
 h.of
theorem amC(h:af (EH A a b c l m i C q d e j k t r [.b r true,.r 122 [.agg (bz c d e f g)] [ak s],.b s false])):
 av 177 [.agg (bg A a b),.agg (bz c d e f g)] [ak false]:=
 h.of
theorem amD(h:af (EH A a b c l m f C q d e g i s r [.b r false])):
 av 177 [.agg (bg A a b),.agg (bz c d e j k)] [ak false]:=
 h.of
theorem amE(h:af (abr A a b c l m f C q d e g i r [.b q false])):
 av 177 [.agg (bg A a b),.agg (bz c d e j k)] [ak false]:=
 h.of
def abt(A C:ah)(a b c d e f:Int)(E:ah)(q:Bool)(l:List O):List O:=.g ([]:ah) A 32::.h A::.r 249 [.agg (bg C a b),ag c] [.agg (bj d e f E),ak q]::l
theorem amF(h:af (abt A C a b c k d e E q [.n q true])):
 av 176 [.agg (bg C a b),aE 4 A,.agg (bz c f g i j)] [aE 4 ([]++A),aE 5 [],ak false]:=
 h.of
def abu(A C:ah)(a b c d e f:Int)(E:ah)(q r:Bool)(l:List O):List O:=abt A C a b c d e f E q (.n q false::.r 121 [.agg (bg C a b)] [ak r]::l)
theorem amG(h:af (abu A C a b c k d e E q r [.n r true])):
 av 176 [.agg (bg C a b),aE 4 A,.agg (bz c f g i j)] [aE 4 ([]++A),aE 5 [],ak false]:=
 h.of
def abv(A C:ah)(a b c d e f:Int)(E:ah)(q r:Bool)(g i j k:Int)(s:Bool)(l:List O):List O:=abu A C a b c d e f E q r (.n r false::.r 122 [.agg (bz c g i j k)] [ak s]::l)
theorem amH(h:af (abv A C a b c k i j E q r d e f g s [.n s true])):
 av 176 [.agg (bg C a b),aE 4 A,.agg (bz c d e f g)] [aE 4 ([]++A),aE 5 [],ak false]:=
 h.of
def Q3(A C:ah)(a b c d e f:Int)(E:ah)(q r:Bool)(g i j k:Int)(s:Bool)(m n:Int)(t:Bool)(l:List O):List O:=abv A C a b c d e f E q r g i j k s (.n s false::.r 267 [.agg (bj d e f E),ag j,ag k] [ag m,ag n,ak t]::l)
theorem amI(h:af (Q3 A C a b c f g i E q r j k d e s l m t [.n t true,.b (f != 8) true])):
 av 176 [.agg (bg C a b),aE 4 A,.agg (bz c j k d e)] [aE 4 ([]++A),aE 5 [],ak true]:=
 h.of
def I9(A C:ah)(a b c d e f:Int)(E:ah)(q r:Bool)(g i j k:Int)(s:Bool)(m n:Int)(t u:Bool)(l:List O):List O:=Q3 A C a b c d e f E q r g i j k s m n t (.n t true::.b (d != 8) false::.r 268 [ag d] [ak u]::l)
def I'(A C:ah)(a b c d e f:Int)(E:ah)(q r:Bool)(g i j k:Int)(s:Bool)(m n:Int)(t u:Bool)(F:ah)(v:Bool)(l:List O):List O:=I9 A C a b c d e f E q r g i j k s m n t u (.b u true::.r 269 [ag d,aE 4 A,.agg [I c,I g,I j,I k]] [aE 4 F,ak v]::l)
theorem al9(h:af (I' A C e f b a i j E q r g k c d s l m t u F v [.n v true])):
 av 176 [.agg (bg C e f),aE 4 A,.agg (bz b g k c d)] [aE 4 F,aE 5 [],ak true]:=
 h.of
theorem ama(h:af (I' A C f g b a j k E q r c i d e s l m t u F v [.n v false,.b (a==7) true,.r 270 [.agg [I c,I i]] [.agg [I n,I o],ak w],.n w true])):
 av 176 [.agg (bg C f g),aE 4 A,.agg (bz b c i d e)] [aE 4 F,aE 5 [],ak true]:=
 h.of
def x7(a b c:Int)(C:ah)(d e:Int)(E:ah)(f g i:Int)(A:ah):aD:=ba 127 [(9,aH.aR (bm.one (aK 840000 4 E))),(10,aH.aR (bm.one (aK 25 5 A))),(11,a1 11),(13,aY d),(14,aY e),(18,a1 18),(21,aY i)] [(18,[az f,az g]),(11,[az a,az b,az c,aK 310003 1 C])]
def Jc(A:ah)(a b:Int)(C:ah)(c d e f:Int)(l:List O):List O:=.i A a [I b]::.g C [(bz b c d e f)] 40::.h [(bz b c d e f)]::.u a::l
theorem amb(h:af (Jc A e f C c d a b [])):
 aT (ap Tryz.f176 0) (x7 j g i A a b E c d e C) .normal (x7 j g i A a b E c d (e+1) (C++[(bz f c d a b)])):=
 h.aQ [21,11,10,18,13,14,9] [18,11]
def vT(A C:ah):aD:=ba 127 [(9,aH.aR (bm.one (aK 840000 4 A))),(10,aH.aR (bm.one (aK 25 5 C)))] []
theorem amc(h:af [.f A a false]):
 aT (ap Tryz.f176 0) (x7 i b c A d e C f g a E) (.exit 0) (vT C E):=
 h.aQ [9,10] []
theorem amd(h:af (I' C E f j b a g i F q r c k d e s l m t u A v [.n v false,.b (a==7) true,.r 270 [.agg [I c,I k]] [.agg [I n,I o],ak w],.n w false,.l [] [21,11,10,18,13,14,9] [18,11] (ap Tryz.f176 0) (x7 a g i F l m A n o 0 []) (.exit 0) (vT A G)])):
 av 176 [.agg (bg E f j),aE 4 C,.agg (bz b c k d e)] [aE 4 A,aE 5 G,ak true]:=
 h.of
def x8(a b c d e:Int)(C:ah)(f g:Int)(E:ah)(i:Int)(A:ah):aD:=ba 127 [(9,aH.aR (bm.one (aK 840000 4 E))),(10,aH.aR (bm.one (aK 25 5 A))),(11,a1 11),(13,aY f),(14,aY g),(18,a1 18),(21,aY i)] [(18,[az a,az b]),(11,[az c,az d,az e,aK 310003 1 C])]
theorem ame(h:af (Jc A e f C c d a b [])):
 aT (ap Tryz.f176 0) (x8 c d j g i A a b E e C) .normal (x8 c d j g i A a b E (e+1) (C++[(bz f c d a b)])):=
 h.aQ [21,11,10,18,13,14,9] [18,11]
theorem amf(h:af [.f A a false]):
 aT (ap Tryz.f176 0) (x8 f g i b c A d e C a E) (.exit 0) (vT C E):=
 h.aQ [9,10] []
theorem amg(h:af (I' C E f j b a g i F q r c k d e s l m t u A v [.n v false,.b (a==7) false,.l [] [21,11,10,18,13,14,9] [18,11] (ap Tryz.f176 0) (x8 c k a g i F l m A 0 []) (.exit 0) (vT A G)])):
 av 176 [.agg (bg E f j),aE 4 C,.agg (bz b c k d e)] [aE 4 A,aE 5 G,ak true]:=
 h.of
theorem amh(h:af (I9 A C b c d a j k E q r e f g i s l m t u [.b u false,.b (a==7) true,.r 270 [.agg [I e,I f]] [.agg [I n,I o],ak v],.n v true])):
 av 176 [.agg (bg C b c),aE 4 A,.agg (bz d e f g i)] [aE 4 ([]++A),aE 5 [],ak true]:=
 h.of
def x9(A:ah)(a b c:Int)(E:ah)(d e f g i:Int)(C:ah):aD:=ba 127 [(9,aH.aR (bm.one (aK 22 4 ([]++A)))),(10,aH.aR (bm.one (aK 25 5 C))),(11,a1 11),(13,aY d),(14,aY e),(18,a1 18),(21,aY i)] [(18,[az f,az g]),(11,[az a,az b,az c,aK 310003 1 E])]
theorem ami(h:af (Jc A e f C c d a b [])):
 aT (ap Tryz.f176 0) (x9 E j g i A a b c d e C) .normal (x9 E j g i A a b c d (e+1) (C++[(bz f c d a b)])):=
 h.aQ [21,11,10,18,13,14,9] [18,11]
def vU(A C:ah):aD:=ba 127 [(9,aH.aR (bm.one (aK 22 4 ([]++A)))),(10,aH.aR (bm.one (aK 25 5 C)))] []
theorem anM(h:af [.f A a false]):
 aT (ap Tryz.f176 0) (x9 E i b c A d e f g a C) (.exit 0) (vU E C):=
 h.aQ [9,10] []
theorem anN(h:af (I9 A C b e f a c d E q r g i j k s l m t u [.b u false,.b (a==7) true,.r 270 [.agg [I g,I i]] [.agg [I n,I o],ak v],.n v false,.l [] [21,11,10,18,13,14,9] [18,11] (ap Tryz.f176 0) (x9 A a c d E l m n o 0 []) (.exit 0) (vU A F)])):
 av 176 [.agg (bg C b e),aE 4 A,.agg (bz f g i j k)] [aE 4 ([]++A),aE 5 F,ak true]:=
 h.of
def x'(A:ah)(a b c d e:Int)(E:ah)(f g i:Int)(C:ah):aD:=ba 127 [(9,aH.aR (bm.one (aK 22 4 ([]++A)))),(10,aH.aR (bm.one (aK 25 5 C))),(11,a1 11),(13,aY f),(14,aY g),(18,a1 18),(21,aY i)] [(18,[az a,az b]),(11,[az c,az d,az e,aK 310003 1 E])]
theorem anO(h:af (Jc A e f C c d a b [])):
 aT (ap Tryz.f176 0) (x' E c d j g i A a b e C) .normal (x' E c d j g i A a b (e+1) (C++[(bz f c d a b)])):=
 h.aQ [21,11,10,18,13,14,9] [18,11]
theorem anP(h:af [.f A a false]):
 aT (ap Tryz.f176 0) (x' E f g i b c A d e a C) (.exit 0) (vU E C):=
 h.aQ [9,10] []
theorem anQ(h:af (I9 A C b e f a c d E q r g i j k s l m t u [.b u false,.b (a==7) false,.l [] [21,11,10,18,13,14,9] [18,11] (ap Tryz.f176 0) (x' A g i a c d E l m 0 []) (.exit 0) (vU A F)])):
 av 176 [.agg (bg C b e),aE 4 A,.agg (bz f g i j k)] [aE 4 ([]++A),aE 5 F,ak true]:=
 h.of
def Ja(A C:ah)(a b c d e f:Int)(E:ah)(q r:Bool)(g i j k:Int)(s:Bool)(m n:Int)(t u:Bool)(l:List O):List O:=Q3 A C a b c d e f E q r g i j k s m n t (.n t false::.r 268 [ag d] [ak u]::l)
def Jb(A C:ah)(a b c d e f:Int)(E:ah)(q r:Bool)(g i j k:Int)(s:Bool)(m n:Int)(t u:Bool)(F:ah)(v:Bool)(l:List O):List O:=Ja A C a b c d e f E q r g i j k s m n t u (.b u true::.r 269 [ag d,aE 4 A,.agg [I c,I g,I j,I k]] [aE 4 F,ak v]::l)
theorem anR(h:af (Jb A C e f a d i j E q r g k b c s l m t u F v [.n v true])):
 av 176 [.agg (bg C e f),aE 4 A,.agg (bz a g k b c)] [aE 4 F,aE 5 [],ak true]:=
 h.of
theorem anS(h:af (Jb A C f g b a j k E q r c i d e s l m t u F v [.n v false,.b (a==7) true,.r 270 [.agg [I c,I i]] [.agg [I n,I o],ak w],.n w true])):
 av 176 [.agg (bg C f g),aE 4 A,.agg (bz b c i d e)] [aE 4 F,aE 5 [],ak true]:=
 h.of
theorem anT(h:af (Jb C E f j b a g i F q r c k d e s l m t u A v [.n v false,.b (a==7) true,.r 270 [.agg [I c,I k]] [.agg [I n,I o],ak w],.n w false,.l [] [21,11,10,18,13,14,9] [18,11] (ap Tryz.f176 0) (x7 a g i F l m A n o 0 []) (.exit 0) (vT A G)])):
 av 176 [.agg (bg E f j),aE 4 C,.agg (bz b c k d e)] [aE 4 A,aE 5 G,ak true]:=
 h.of
theorem anU(h:af (Jb C E f j b a g i F q r c k d e s l m t u A v [.n v false,.b (a==7) false,.l [] [21,11,10,18,13,14,9] [18,11] (ap Tryz.f176 0) (x8 c k a g i F l m A 0 []) (.exit 0) (vT A G)])):
 av 176 [.agg (bg E f j),aE 4 C,.agg (bz b c k d e)] [aE 4 A,aE 5 G,ak true]:=
 h.of
theorem anV(h:af (Ja A C b c d a j k E q r e f g i s l m t u [.b u false,.b (a==7) true,.r 270 [.agg [I e,I f]] [.agg [I n,I o],ak v],.n v true])):
 av 176 [.agg (bg C b c),aE 4 A,.agg (bz d e f g i)] [aE 4 ([]++A),aE 5 [],ak true]:=
 h.of
theorem anW(h:af (Ja A C b e f a c d E q r g i j k s l m t u [.b u false,.b (a==7) true,.r 270 [.agg [I g,I i]] [.agg [I n,I o],ak v],.n v false,.l [] [21,11,10,18,13,14,9] [18,11] (ap Tryz.f176 0) (x9 A a c d E l m n o 0 []) (.exit 0) (vU A F)])):
 av 176 [.agg (bg C b e),aE 4 A,.agg (bz f g i j k)] [aE 4 ([]++A),aE 5 F,ak true]:=
 h.of
theorem anX(h:af (Ja A C b e f a c d E q r g i j k s l m t u [.b u false,.b (a==7) false,.l [] [21,11,10,18,13,14,9] [18,11] (ap Tryz.f176 0) (x' A g i a c d E l m 0 []) (.exit 0) (vU A F)])):
 av 176 [.agg (bg C b e),aE 4 A,.agg (bz f g i j k)] [aE 4 ([]++A),aE 5 F,ak true]:=
 h.of
def Q4(A:ah)(a b:Int)(q:Bool)(l:List O):List O:=.r 179 [.agg (bg A a b)] [ak q]::l
theorem VM(h:af (Q4 A a b q [.n q true,.r 297 [aE 4 E] [aE 4 C]])):
 av 232 [.agg (bg A a b),aE 4 E,.agg (bz c d e f g)] [aE 4 C,aE 5 [],ak false]:=
 h.of
def Q5(A:ah)(a b:Int)(q:Bool)(c d e f g:Int)(r:Bool)(l:List O):List O:=Q4 A a b q (.n q false::.r 180 [.agg (bz c d e f g)] [ak r]::l)
theorem VN(h:af (Q5 A a b r c d e f g q [.n q true,.r 297 [aE 4 E] [aE 4 C]])):
 av 232 [.agg (bg A a b),aE 4 E,.agg (bz c d e f g)] [aE 4 C,aE 5 [],ak false]:=
 h.of
def Q6(A:ah)(a b:Int)(q:Bool)(c d e f g:Int)(r s:Bool)(l:List O):List O:=Q5 A a b q c d e f g r (.n r false::.r 250 [.agg (bg A a b),ag c] [ak s]::l)
theorem anY(h:af (Q6 A a b s c d e f g q r [.n r true,.r 297 [aE 4 E] [aE 4 C]])):
 av 232 [.agg (bg A a b),aE 4 E,.agg (bz c d e f g)] [aE 4 C,aE 5 [],ak false]:=
 h.of
def Jd(A:ah)(a b:Int)(q:Bool)(c d e f g:Int)(r s:Bool)(i j k:Int)(C:ah)(l:List O):List O:=Q6 A a b q c d e f g r s (.n s false::.x A c (bj i j k C)::l)
def EI(A:ah)(a b:Int)(q:Bool)(c d e f g:Int)(r s:Bool)(i j k:Int)(C:ah)(m n:Int)(t:Bool)(l:List O):List O:=Jd A a b q c d e f g r s i j k C (.r 298 [.agg (bj i j k C),ag f,ag g] [ag m,ag n,ak t]::l)
theorem anZ(h:af (EI A b d t a j k e f q r c g i C l m s [.n s true,.b (c != 8) true,.r 297 [aE 4 F] [aE 4 E]])):
 av 232 [.agg (bg A b d),aE 4 F,.agg (bz a j k e f)] [aE 4 E,aE 5 [],ak true]:=
 h.of
def Q7(A:ah)(a b:Int)(q:Bool)(c d e f g:Int)(r s:Bool)(i j k:Int)(C:ah)(m n:Int)(t:Bool)(E F:ah)(u:Bool)(l:List O):List O:=EI A a b q c d e f g r s i j k C m n t (.n t true::.b (i != 8) false::.r 299 [ag i,aE 4 E,.agg [I c,I d,I f,I g]] [aE 4 F,ak u]::l)
theorem an0(h:af (Q7 A e f u a g k c d q r b i j C l m s F E t [.n t true])):
 av 232 [.agg (bg A e f),aE 4 F,.agg (bz a g k c d)] [aE 4 E,aE 5 [],ak true]:=
 h.of
def td(A:ah)(a b:Int)(C:ah)(c d:Int)(q:Bool)(e:Int)(E:ah):aD:=ba 111 [(10,aY a),(11,aY b),(13,aH.aR (bm.one (aK 760000 4 C))),(14,a1 14),(15,.aR (.one (.bR q))),(16,aH.aR (bm.one (aK 107 5 E))),(93,c6 1 A),(94,aY (A.length:Int)),(95,aY e)] [(14,[az c,az d])]
theorem an1(h:af [.i A e [I f],.b q true,.g C [(bz f c d a b)] 40,.h [(bz f c d a b)],.u e]):
 aT (ap Tryz.f232 0) (td A a b E c d q e C) .normal (td A a b E c d q (e+1) (C++[(bz f c d a b)])):=
 h.aQ [95,94,93,15,16,14,10,11,13] [14]
theorem an2(h:af [.i A a [I f],.b q false,.u a]):
 aT (ap Tryz.f232 0) (td A b c C d e q a E) .normal (td A b c C d e q (a+1) E):=
 h.aQ [95,94,93,15,16,14,10,11,13] [14]
def vV(A C:ah):aD:=ba 111 [(13,aH.aR (bm.one (aK 760000 4 A))),(16,aH.aR (bm.one (aK 107 5 C)))] []
theorem VO(h:af [.f A a false]):
 aT (ap Tryz.f232 0) (td A b c C d e q a E) (.exit 0) (vV C E):=
 h.aQ [13,16] []
theorem an3(h:af (Q7 A f g v b c i d e q r a j k E l m s G C t [.n t false,.b (a==7) true,.r 300 [.agg [I c,I i]] [.agg [I n,I o],ak u],.l [(16,107,5)] [95,94,93,15,16,14,10,11,13] [14] (ap Tryz.f232 0) (td E l m C n o u 0 []) (.exit 0) (vV C F)])):
 av 232 [.agg (bg A f g),aE 4 G,.agg (bz b c i d e)] [aE 4 C,aE 5 F,ak true]:=
 h.of
def ya(a b:Int)(A:ah)(c d:Int)(C:ah)(e:Int)(E:ah):aD:=ba 111 [(10,aY c),(11,aY d),(13,aH.aR (bm.one (aK 760000 4 C))),(14,a1 14),(15,.aR (.one (.bR true))),(16,aH.aR (bm.one (aK 107 5 E))),(93,c6 1 A),(94,aY (A.length:Int)),(95,aY e)] [(14,[az a,az b])]
theorem an4(h:af [.i A e [I f],.b true true,.g C [(bz f c d a b)] 40,.h [(bz f c d a b)],.u e]):
 aT (ap Tryz.f232 0) (ya c d A a b E e C) .normal (ya c d A a b E (e+1) (C++[(bz f c d a b)])):=
 h.aQ [95,94,93,15,16,14,10,11,13] [14]
theorem an5(h:af [.f A a false]):
 aT (ap Tryz.f232 0) (ya d e A b c C a E) (.exit 0) (vV C E):=
 h.aQ [13,16] []
theorem an6(h:af (Q7 A f g u b c i d e q r a j k E l m s G C t [.n t false,.b (a==7) false,.l [(16,107,5)] [95,94,93,15,16,14,10,11,13] [14] (ap Tryz.f232 0) (ya c i E l m C 0 []) (.exit 0) (vV C F)])):
 av 232 [.agg (bg A f g),aE 4 G,.agg (bz b c i d e)] [aE 4 C,aE 5 F,ak true]:=
 h.of
theorem an7(h:af (EI A d f u a g k b c q r e i j C l m s [.n s false,.r 299 [ag e,aE 4 F,.agg [I a,I g,I b,I c]] [aE 4 E,ak t],.n t true])):
 av 232 [.agg (bg A d f),aE 4 F,.agg (bz a g k b c)] [aE 4 E,aE 5 [],ak true]:=
 h.of
theorem an8(h:af (EI A f g v a c i d e q r b j k E l m s [.n s false,.r 299 [ag b,aE 4 G,.agg [I a,I c,I d,I e]] [aE 4 C,ak t],.n t false,.b (b==7) true,.r 300 [.agg [I c,I i]] [.agg [I n,I o],ak u],.l [(16,107,5)] [95,94,93,15,16,14,10,11,13] [14] (ap Tryz.f232 0) (td E l m C n o u 0 []) (.exit 0) (vV C F)])):
 av 232 [.agg (bg A f g),aE 4 G,.agg (bz a c i d e)] [aE 4 C,aE 5 F,ak true]:=
 h.of
theorem an9(h:af (EI A f g u a c i d e q r b j k E l m s [.n s false,.r 299 [ag b,aE 4 G,.agg [I a,I c,I d,I e]] [aE 4 C,ak t],.n t false,.b (b==7) false,.l [(16,107,5)] [95,94,93,15,16,14,10,11,13] [14] (ap Tryz.f232 0) (ya c i E l m C 0 []) (.exit 0) (vV C F)])):
 av 232 [.agg (bg A f g),aE 4 G,.agg (bz a c i d e)] [aE 4 C,aE 5 F,ak true]:=
 h.of
theorem aoa(h:af (Q4 A a b q [.n q true])):
 av 265 [.agg (bg A a b),.agg (bz c d e f g)] [ak false]:=
 h.of
theorem aob(h:af (Q5 A a b q c d e f g r [.n r true])):
 av 265 [.agg (bg A a b),.agg (bz c d e f g)] [ak false]:=
 h.of
theorem ank(h:af (Q6 A a b r c d e f g s q [.n q true])):
 av 265 [.agg (bg A a b),.agg (bz c d e f g)] [ak false]:=
 h.of
theorem anl(h:af (Jd A b c s a d e g i t q f j k C [.r 300 [.agg [I d,I e]] [.agg [I l,I m],ak r],.b (f==7) true,.b (decide ((C.length:Int)>0)) true])):
 av 265 [.agg (bg A b c),.agg (bz a d e g i)] [.one (B !r)]:=
 h.of
theorem anm(h:af (Jd A b c r a d e g i s q f j k C [.r 300 [.agg [I d,I e]] [.agg [I l,I m],ak t],.b (f==7) true,.b (decide ((C.length:Int)>0)) false])):
 av 265 [.agg (bg A b c),.agg (bz a d e g i)] [ak false]:=
 h.of
theorem ann(h:af (Jd A b c r a d e g i s q f j k C [.r 300 [.agg [I d,I e]] [.agg [I l,I m],ak t],.b (f==7) false])):
 av 265 [.agg (bg A b c),.agg (bz a d e g i)] [ak false]:=
 h.of
