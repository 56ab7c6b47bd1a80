import Derived.Test.YthfnndblgbjniaaGreatDoorGE
namespace Go.Proofs.YthfnndblgbjniaaGreatDoor
open Go.Sx Go.RowKit
variable {a b c d e f g i j k l m n o : Int} {A C E F G : af} {q r s t u v w : Bool}
def W1(A:af)(a b c d e f:Int)(C:af)(q:Bool)(g i j k:Int)(r:Bool)(l:List O):List O:=.r 194 [.agg (bq A a b),ag c] [.agg (bk d e f C),ai q]::.r 198 [.agg [I g,I i]] [.agg [I j,I k],ai r]::l
def BV(A:af)(a b c d e f:Int)(C:af)(q:Bool)(g i j k:Int)(r s:Bool)(l:List O):List O:=W1 A a b c d e f C q g i j k r (.b q true::.r 138 [.agg (bq A a b)] [ai s]::l)
theorem aeA(h:ae (BV A a b c i m j C q d e k l r s [.b s true,.r 167 [.agg (bj c d e f g)] [ai t],.b t true,.b (i==7) true,.b (decide ((C.length:Int)>0)) true])):
 al 157 [.agg (bq A a b),.agg (bj c d e f g)] [.one (B !r)]:=
 h.of
theorem aeB(h:ae (BV A a b c i m j C q d e k l t r [.b r true,.r 167 [.agg (bj c d e f g)] [ai s],.b s true,.b (i==7) true,.b (decide ((C.length:Int)>0)) false])):
 al 157 [.agg (bq A a b),.agg (bj c d e f g)] [ai false]:=
 h.of
theorem af2(h:ae (BV A a b c i m j C q d e k l t r [.b r true,.r 167 [.agg (bj c d e f g)] [ai s],.b s true,.b (i==7) false])):
 al 157 [.agg (bq A a b),.agg (bj c d e f g)] [ai false]:=
 h.of
theorem af3(h:ae (BV A a b c l m i C q d e j k t r [.b r true,.r 167 [.agg (bj c d e f g)] [ai s],.b s false])):
 al 157 [.agg (bq A a b),.agg (bj c d e f g)] [ai false]:=
 h.of
theorem af4(h:ae (BV A a b c l m f C q d e g i s r [.b r false])):
 al 157 [.agg (bq A a b),.agg (bj c d e j k)] [ai false]:=
 h.of
theorem af5(h:ae (W1 A a b c l m f C q d e g i r [.b q false])):
 al 157 [.agg (bq A a b),.agg (bj c d e j k)] [ai false]:=
 h.of
def W2(A C:af)(a b c d e f:Int)(E:af)(q:Bool)(l:List O):List O:=.g ([]:af) A 32::.h A::.r 194 [.agg (bq C a b),ag c] [.agg (bk d e f E),ai q]::l
theorem af6(h:ae (W2 A C a b c k d e E q [.n q true])):
 al 156 [.agg (bq C a b),aO 4 A,.agg (bj c f g i j)] [aO 4 ([]++A),aO 5 [],ai false]:=
 h.of
def W3(A C:af)(a b c d e f:Int)(E:af)(q r:Bool)(l:List O):List O:=W2 A C a b c d e f E q (.n q false::.r 138 [.agg (bq C a b)] [ai r]::l)
theorem af7(h:ae (W3 A C a b c k d e E q r [.n r true])):
 al 156 [.agg (bq C a b),aO 4 A,.agg (bj c f g i j)] [aO 4 ([]++A),aO 5 [],ai false]:=
 h.of
def W4(A C:af)(a b c d e f:Int)(E:af)(q r:Bool)(g i j k:Int)(s:Bool)(l:List O):List O:=W3 A C a b c d e f E q r (.n r false::.r 167 [.agg (bj c g i j k)] [ai s]::l)
theorem af8(h:ae (W4 A C a b c k i j E q r d e f g s [.n s true])):
 al 156 [.agg (bq C a b),aO 4 A,.agg (bj c d e f g)] [aO 4 ([]++A),aO 5 [],ai false]:=
 h.of
def Ni(A C:af)(a b c d e f:Int)(E:af)(q r:Bool)(g i j k:Int)(s:Bool)(m n:Int)(t:Bool)(l:List O):List O:=W4 A C a b c d e f E q r g i j k s (.n s false::.r 195 [.agg (bk d e f E),ag j,ag k] [ag m,ag n,ai t]::l)
theorem af9(h:ae (Ni A C a b c f g i E q r j k d e s l m t [.n t true,.b (f != 8) true])):
 al 156 [.agg (bq C a b),aO 4 A,.agg (bj c j k d e)] [aO 4 ([]++A),aO 5 [],ai true]:=
 h.of
def F0(A C:af)(a b c d e f:Int)(E:af)(q r:Bool)(g i j k:Int)(s:Bool)(m n:Int)(t u:Bool)(l:List O):List O:=Ni A C a b c d e f E q r g i j k s m n t (.n t true::.b (d != 8) false::.r 196 [ag d] [ai u]::l)
def F1(A C:af)(a b c d e f:Int)(E:af)(q r:Bool)(g i j k:Int)(s:Bool)(m n:Int)(t u:Bool)(F:af)(v:Bool)(l:List O):List O:=F0 A C a b c d e f E q r g i j k s m n t u (.b u true::.r 197 [ag d,aO 4 A,.agg [I c,I g,I j,I k]] [aO 4 F,ai v]::l)
theorem aga(h:ae (F1 A C e f b a i j E q r g k c d s l m t u F v [.n v true])):
 al 156 [.agg (bq C e f),aO 4 A,.agg (bj b g k c d)] [aO 4 F,aO 5 [],ai true]:=
 h.of
theorem agb(h:ae (F1 A C f g b a j k E q r c i d e s l m t u F v [.n v false,.b (a==7) true,.r 198 [.agg [I c,I i]] [.agg [I n,I o],ai w],.n w true])):
 al 156 [.agg (bq C f g),aO 4 A,.agg (bj b c i d e)] [aO 4 F,aO 5 [],ai true]:=
 h.of
def wc(a b c:Int)(C:af)(d e:Int)(E:af)(f g i:Int)(A:af):aF:=bf 127 [(9,aG.aC (bl.one (aw 840000 4 E))),(10,aG.aC (bl.one (aw 25 5 A))),(11,aS 11),(13,aU d),(14,aU e),(18,aS 18),(21,aU i)] [(18,[au f,au g]),(11,[au a,au b,au c,aw 310003 1 C])]
def F4(A:af)(a b:Int)(C:af)(c d e f:Int)(l:List O):List O:=.i A a [I b]::.g C [(bj b c d e f)] 40::.h [(bj b c d e f)]::.u a::l
theorem agc(h:ae (F4 A e f C c d a b [])):
 aY (ap Tryz.f156 0) (wc j g i A a b E c d e C) .normal (wc j g i A a b E c d (e+1) (C++[(bj f c d a b)])):=
 h.aT [21,11,10,18,13,14,9] [18,11]
def ub(A C:af):aF:=bf 127 [(9,aG.aC (bl.one (aw 840000 4 A))),(10,aG.aC (bl.one (aw 25 5 C)))] []
theorem agd(h:ae [.f A a false]):
 aY (ap Tryz.f156 0) (wc i b c A d e C f g a E) (.exit 0) (ub C E):=
 h.aT [9,10] []
theorem age(h:ae (F1 C E f j b a g i F q r c k d e s l m t u A v [.n v false,.b (a==7) true,.r 198 [.agg [I c,I k]] [.agg [I n,I o],ai w],.n w false,.l [] [21,11,10,18,13,14,9] [18,11] (ap Tryz.f156 0) (wc a g i F l m A n o 0 []) (.exit 0) (ub A G)])):
 al 156 [.agg (bq E f j),aO 4 C,.agg (bj b c k d e)] [aO 4 A,aO 5 G,ai true]:=
 h.of
def we(a b c d e:Int)(C:af)(f g:Int)(E:af)(i:Int)(A:af):aF:=bf 127 [(9,aG.aC (bl.one (aw 840000 4 E))),(10,aG.aC (bl.one (aw 25 5 A))),(11,aS 11),(13,aU f),(14,aU g),(18,aS 18),(21,aU i)] [(18,[au a,au b]),(11,[au c,au d,au e,aw 310003 1 C])]
theorem agf(h:ae (F4 A e f C c d a b [])):
 aY (ap Tryz.f156 0) (we c d j g i A a b E e C) .normal (we c d j g i A a b E (e+1) (C++[(bj f c d a b)])):=
 h.aT [21,11,10,18,13,14,9] [18,11]
theorem agh(h:ae [.f A a false]):
 aY (ap Tryz.f156 0) (we f g i b c A d e C a E) (.exit 0) (ub C E):=
 h.aT [9,10] []
theorem agi(h:ae (F1 C E f j b a g i F q r c k d e s l m t u A v [.n v false,.b (a==7) false,.l [] [21,11,10,18,13,14,9] [18,11] (ap Tryz.f156 0) (we c k a g i F l m A 0 []) (.exit 0) (ub A G)])):
 al 156 [.agg (bq E f j),aO 4 C,.agg (bj b c k d e)] [aO 4 A,aO 5 G,ai true]:=
 h.of
theorem agj(h:ae (F0 A C b c d a j k E q r e f g i s l m t u [.b u false,.b (a==7) true,.r 198 [.agg [I e,I f]] [.agg [I n,I o],ai v],.n v true])):
 al 156 [.agg (bq C b c),aO 4 A,.agg (bj d e f g i)] [aO 4 ([]++A),aO 5 [],ai true]:=
 h.of
def vx(A:af)(a b c:Int)(E:af)(d e f g i:Int)(C:af):aF:=bf 127 [(9,aG.aC (bl.one (aw 22 4 ([]++A)))),(10,aG.aC (bl.one (aw 25 5 C))),(11,aS 11),(13,aU d),(14,aU e),(18,aS 18),(21,aU i)] [(18,[au f,au g]),(11,[au a,au b,au c,aw 310003 1 E])]
theorem agk(h:ae (F4 A e f C c d a b [])):
 aY (ap Tryz.f156 0) (vx E j g i A a b c d e C) .normal (vx E j g i A a b c d (e+1) (C++[(bj f c d a b)])):=
 h.aT [21,11,10,18,13,14,9] [18,11]
def uA(A C:af):aF:=bf 127 [(9,aG.aC (bl.one (aw 22 4 ([]++A)))),(10,aG.aC (bl.one (aw 25 5 C)))] []
theorem agl(h:ae [.f A a false]):
 aY (ap Tryz.f156 0) (vx E i b c A d e f g a C) (.exit 0) (uA E C):=
 h.aT [9,10] []
theorem agm(h:ae (F0 A C b e f a c d E q r g i j k s l m t u [.b u false,.b (a==7) true,.r 198 [.agg [I g,I i]] [.agg [I n,I o],ai v],.n v false,.l [] [21,11,10,18,13,14,9] [18,11] (ap Tryz.f156 0) (vx A a c d E l m n o 0 []) (.exit 0) (uA A F)])):
 al 156 [.agg (bq C b e),aO 4 A,.agg (bj f g i j k)] [aO 4 ([]++A),aO 5 F,ai true]:=
 h.of
def vy(A:af)(a b c d e:Int)(E:af)(f g i:Int)(C:af):aF:=bf 127 [(9,aG.aC (bl.one (aw 22 4 ([]++A)))),(10,aG.aC (bl.one (aw 25 5 C))),(11,aS 11),(13,aU f),(14,aU g),(18,aS 18),(21,aU i)] [(18,[au a,au b]),(11,[au c,au d,au e,aw 310003 1 E])]
theorem agn(h:ae (F4 A e f C c d a b [])):
 aY (ap Tryz.f156 0) (vy E c d j g i A a b e C) .normal (vy E c d j g i A a b (e+1) (C++[(bj f c d a b)])):=
 h.aT [21,11,10,18,13,14,9] [18,11]
theorem ago(h:ae [.f A a false]):
 aY (ap Tryz.f156 0) (vy E f g i b c A d e a C) (.exit 0) (uA E C):=
 h.aT [9,10] []
theorem agp(h:ae (F0 A C b e f a c d E q r g i j k s l m t u [.b u false,.b (a==7) false,.l [] [21,11,10,18,13,14,9] [18,11] (ap Tryz.f156 0) (vy A g i a c d E l m 0 []) (.exit 0) (uA A F)])):
 al 156 [.agg (bq C b e),aO 4 A,.agg (bj f g i j k)] [aO 4 ([]++A),aO 5 F,ai true]:=
 h.of
def F2(A C:af)(a b c d e f:Int)(E:af)(q r:Bool)(g i j k:Int)(s:Bool)(m n:Int)(t u:Bool)(l:List O):List O:=Ni A C a b c d e f E q r g i j k s m n t (.n t false::.r 196 [ag d] [ai u]::l)
def F3(A C:af)(a b c d e f:Int)(E:af)(q r:Bool)(g i j k:Int)(s:Bool)(m n:Int)(t u:Bool)(F:af)(v:Bool)(l:List O):List O:=F2 A C a b c d e f E q r g i j k s m n t u (.b u true::.r 197 [ag d,aO 4 A,.agg [I c,I g,I j,I k]] [aO 4 F,ai v]::l)
theorem agq(h:ae (F3 A C e f a d i j E q r g k b c s l m t u F v [.n v true])):
 al 156 [.agg (bq C e f),aO 4 A,.agg (bj a g k b c)] [aO 4 F,aO 5 [],ai true]:=
 h.of
theorem agr(h:ae (F3 A C f g b a j k E q r c i d e s l m t u F v [.n v false,.b (a==7) true,.r 198 [.agg [I c,I i]] [.agg [I n,I o],ai w],.n w true])):
 al 156 [.agg (bq C f g),aO 4 A,.agg (bj b c i d e)] [aO 4 F,aO 5 [],ai true]:=
 h.of
theorem ags(h:ae (F3 C E f j b a g i F q r c k d e s l m t u A v [.n v false,.b (a==7) true,.r 198 [.agg [I c,I k]] [.agg [I n,I o],ai w],.n w false,.l [] [21,11,10,18,13,14,9] [18,11] (ap Tryz.f156 0) (wc a g i F l m A n o 0 []) (.exit 0) (ub A G)])):
 al 156 [.agg (bq E f j),aO 4 C,.agg (bj b c k d e)] [aO 4 A,aO 5 G,ai true]:=
 h.of
theorem afC(h:ae (F3 C E f j b a g i F q r c k d e s l m t u A v [.n v false,.b (a==7) false,.l [] [21,11,10,18,13,14,9] [18,11] (ap Tryz.f156 0) (we c k a g i F l m A 0 []) (.exit 0) (ub A G)])):
 al 156 [.agg (bq E f j),aO 4 C,.agg (bj b c k d e)] [aO 4 A,aO 5 G,ai true]:=
 h.of
theorem afD(h:ae (F2 A C b c d a j k E q r e f g i s l m t u [.b u false,.b (a==7) true,.r 198 [.agg [I e,I f]] [.agg [I n,I o],ai v],.n v true])):
 al 156 [.agg (bq C b c),aO 4 A,.agg (bj d e f g i)] [aO 4 ([]++A),aO 5 [],ai true]:=
 h.of
theorem afE(h:ae (F2 A C b e f a c d E q r g i j k s l m t u [.b u false,.b (a==7) true,.r 198 [.agg [I g,I i]] [.agg [I n,I o],ai v],.n v false,.l [] [21,11,10,18,13,14,9] [18,11] (ap Tryz.f156 0) (vx A a c d E l m n o 0 []) (.exit 0) (uA A F)])):
 al 156 [.agg (bq C b e),aO 4 A,.agg (bj f g i j k)] [aO 4 ([]++A),aO 5 F,ai true]:=
 h.of
theorem afF(h:ae (F2 A C b e f a c d E q r g i j k s l m t u [.b u false,.b (a==7) false,.l [] [21,11,10,18,13,14,9] [18,11] (ap Tryz.f156 0) (vy A g i a c d E l m 0 []) (.exit 0) (uA A F)])):
 al 156 [.agg (bq C b e),aO 4 A,.agg (bj f g i j k)] [aO 4 ([]++A),aO 5 F,ai true]:=
 h.of
def Nj(A:af)(a b:Int)(q:Bool)(l:List O):List O:=.r 78 [.agg (bq A a b)] [ai q]::l
theorem St(h:ae (Nj A a b q [.n q true,.r 127 [aO 4 E] [aO 4 C]])):
 al 151 [.agg (bq A a b),aO 4 E,.agg (bj c d e f g)] [aO 4 C,aO 5 [],ai false]:=
 h.of
def Nk(A:af)(a b:Int)(q:Bool)(c d e f g:Int)(r:Bool)(l:List O):List O:=Nj A a b q (.n q false::.r 131 [.agg (bj c d e f g)] [ai r]::l)
theorem Su(h:ae (Nk A a b r c d e f g q [.n q true,.r 127 [aO 4 E] [aO 4 C]])):
 al 151 [.agg (bq A a b),aO 4 E,.agg (bj c d e f g)] [aO 4 C,aO 5 [],ai false]:=
 h.of
def M6(A:af)(a b:Int)(q:Bool)(c d e f g:Int)(r s:Bool)(l:List O):List O:=Nk A a b q c d e f g r (.n r false::.r 132 [.agg (bq A a b),ag c] [ai s]::l)
theorem afG(h:ae (M6 A a b s c d e f g q r [.n r true,.r 127 [aO 4 E] [aO 4 C]])):
 al 151 [.agg (bq A a b),aO 4 E,.agg (bj c d e f g)] [aO 4 C,aO 5 [],ai false]:=
 h.of
def FV(A:af)(a b:Int)(q:Bool)(c d e f g:Int)(r s:Bool)(i j k:Int)(C:af)(l:List O):List O:=M6 A a b q c d e f g r s (.n s false::.x A c (bk i j k C)::l)
def BR(A:af)(a b:Int)(q:Bool)(c d e f g:Int)(r s:Bool)(i j k:Int)(C:af)(m n:Int)(t:Bool)(l:List O):List O:=FV A a b q c d e f g r s i j k C (.r 188 [.agg (bk i j k C),ag f,ag g] [ag m,ag n,ai t]::l)
theorem afH(h:ae (BR A b d t a j k e f q r c g i C l m s [.n s true,.b (c != 8) true,.r 127 [aO 4 F] [aO 4 E]])):
 al 151 [.agg (bq A b d),aO 4 F,.agg (bj a j k e f)] [aO 4 E,aO 5 [],ai true]:=
 h.of
def M7(A:af)(a b:Int)(q:Bool)(c d e f g:Int)(r s:Bool)(i j k:Int)(C:af)(m n:Int)(t:Bool)(E F:af)(u:Bool)(l:List O):List O:=BR A a b q c d e f g r s i j k C m n t (.n t true::.b (i != 8) false::.r 189 [ag i,aO 4 E,.agg [I c,I d,I f,I g]] [aO 4 F,ai u]::l)
theorem afI(h:ae (M7 A e f u a g k c d q r b i j C l m s F E t [.n t true])):
 al 151 [.agg (bq A e f),aO 4 F,.agg (bj a g k c d)] [aO 4 E,aO 5 [],ai true]:=
 h.of
def rD(A:af)(a b:Int)(C:af)(c d:Int)(q:Bool)(e:Int)(E:af):aF:=bf 111 [(10,aU a),(11,aU b),(13,aG.aC (bl.one (aw 760000 4 C))),(14,aS 14),(15,.aC (.one (.bg q))),(16,aG.aC (bl.one (aw 107 5 E))),(93,du 1 A),(94,aU (A.length:Int)),(95,aU e)] [(14,[au c,au d])]
theorem afJ(h:ae [.i A e [I f],.b q true,.g C [(bj f c d a b)] 40,.h [(bj f c d a b)],.u e]):
 aY (ap Tryz.f151 0) (rD A a b E c d q e C) .normal (rD A a b E c d q (e+1) (C++[(bj f c d a b)])):=
 h.aT [95,94,93,15,16,14,10,11,13] [14]
theorem afK(h:ae [.i A a [I f],.b q false,.u a]):
 aY (ap Tryz.f151 0) (rD A b c C d e q a E) .normal (rD A b c C d e q (a+1) E):=
 h.aT [95,94,93,15,16,14,10,11,13] [14]
def uB(A C:af):aF:=bf 111 [(13,aG.aC (bl.one (aw 760000 4 A))),(16,aG.aC (bl.one (aw 107 5 C)))] []
theorem Sv(h:ae [.f A a false]):
 aY (ap Tryz.f151 0) (rD A b c C d e q a E) (.exit 0) (uB C E):=
 h.aT [13,16] []
theorem afL(h:ae (M7 A f g v b c i d e q r a j k E l m s G C t [.n t false,.b (a==7) true,.r 190 [.agg [I c,I i]] [.agg [I n,I o],ai u],.l [(16,107,5)] [95,94,93,15,16,14,10,11,13] [14] (ap Tryz.f151 0) (rD E l m C n o u 0 []) (.exit 0) (uB C F)])):
 al 151 [.agg (bq A f g),aO 4 G,.agg (bj b c i d e)] [aO 4 C,aO 5 F,ai true]:=
 h.of
def vz(a b:Int)(A:af)(c d:Int)(C:af)(e:Int)(E:af):aF:=bf 111 [(10,aU c),(11,aU d),(13,aG.aC (bl.one (aw 760000 4 C))),(14,aS 14),(15,.aC (.one (.bg true))),(16,aG.aC (bl.one (aw 107 5 E))),(93,du 1 A),(94,aU (A.length:Int)),(95,aU e)] [(14,[au a,au b])]
theorem afM(h:ae [.i A e [I f],.b true true,.g C [(bj f c d a b)] 40,.h [(bj f c d a b)],.u e]):
 aY (ap Tryz.f151 0) (vz c d A a b E e C) .normal (vz c d A a b E (e+1) (C++[(bj f c d a b)])):=
 h.aT [95,94,93,15,16,14,10,11,13] [14]
theorem afN(h:ae [.f A a false]):
 aY (ap Tryz.f151 0) (vz d e A b c C a E) (.exit 0) (uB C E):=
 h.aT [13,16] []
theorem afO(h:ae (M7 A f g u b c i d e q r a j k E l m s G C t [.n t false,.b (a==7) false,.l [(16,107,5)] [95,94,93,15,16,14,10,11,13] [14] (ap Tryz.f151 0) (vz c i E l m C 0 []) (.exit 0) (uB C F)])):
 al 151 [.agg (bq A f g),aO 4 G,.agg (bj b c i d e)] [aO 4 C,aO 5 F,ai true]:=
 h.of
theorem afP(h:ae (BR A d f u a g k b c q r e i j C l m s [.n s false,.r 189 [ag e,aO 4 F,.agg [I a,I g,I b,I c]] [aO 4 E,ai t],.n t true])):
 al 151 [.agg (bq A d f),aO 4 F,.agg (bj a g k b c)] [aO 4 E,aO 5 [],ai true]:=
 h.of
theorem afQ(h:ae (BR A f g v a c i d e q r b j k E l m s [.n s false,.r 189 [ag b,aO 4 G,.agg [I a,I c,I d,I e]] [aO 4 C,ai t],.n t false,.b (b==7) true,.r 190 [.agg [I c,I i]] [.agg [I n,I o],ai u],.l [(16,107,5)] [95,94,93,15,16,14,10,11,13] [14] (ap Tryz.f151 0) (rD E l m C n o u 0 []) (.exit 0) (uB C F)])):
 al 151 [.agg (bq A f g),aO 4 G,.agg (bj a c i d e)] [aO 4 C,aO 5 F,ai true]:=
 h.of
theorem afR(h:ae (BR A f g u a c i d e q r b j k E l m s [.n s false,.r 189 [ag b,aO 4 G,.agg [I a,I c,I d,I e]] [aO 4 C,ai t],.n t false,.b (b==7) false,.l [(16,107,5)] [95,94,93,15,16,14,10,11,13] [14] (ap Tryz.f151 0) (vz c i E l m C 0 []) (.exit 0) (uB C F)])):
 al 151 [.agg (bq A f g),aO 4 G,.agg (bj a c i d e)] [aO 4 C,aO 5 F,ai true]:=
 h.of
theorem afS(h:ae (Nj A a b q [.n q true])):
 al 152 [.agg (bq A a b),.agg (bj c d e f g)] [ai false]:=
 h.of
theorem afT(h:ae (Nk A a b q c d e f g r [.n r true])):
 al 152 [.agg (bq A a b),.agg (bj c d e f g)] [ai false]:=
 h.of
theorem afU(h:ae (M6 A a b r c d e f g s q [.n q true])):
 al 152 [.agg (bq A a b),.agg (bj c d e f g)] [ai false]:=
 h.of
theorem afV(h:ae (FV A b c s a d e g i t q f j k C [.r 190 [.agg [I d,I e]] [.agg [I l,I m],ai r],.b (f==7) true,.b (decide ((C.length:Int)>0)) true])):
 al 152 [.agg (bq A b c),.agg (bj a d e g i)] [.one (B !r)]:=
 h.of
theorem afW(h:ae (FV A b c r a d e g i s q f j k C [.r 190 [.agg [I d,I e]] [.agg [I l,I m],ai t],.b (f==7) true,.b (decide ((C.length:Int)>0)) false])):
 al 152 [.agg (bq A b c),.agg (bj a d e g i)] [ai false]:=
 h.of
theorem afX(h:ae (FV A b c r a d e g i s q f j k C [.r 190 [.agg [I d,I e]] [.agg [I l,I m],ai t],.b (f==7) false])):
 al 152 [.agg (bq A b c),.agg (bj a d e g i)] [ai false]:=
 h.of
