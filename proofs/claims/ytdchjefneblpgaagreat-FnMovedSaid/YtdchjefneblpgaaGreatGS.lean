import Derived.Test.YtdchjefneblpgaaGreatGE
set_option linter.unusedVariables false
set_option linter.unusedSimpArgs false
namespace Go.Proofs.YtdchjefneblpgaaGreat
open Go.Sx Go.RowKit
variable {a b c d e f g i j k l m n o : Int} {A C E F G : af} {q r s t u v w : Bool}
def VC(A:af)(a b c d e f:Int)(C:af)(q:Bool)(g i j k:Int)(r:Bool)(l:List O):List O:=.r 249 [.agg (bD A a b),ae c] [.agg (bk d e f C),ao q]::.r 270 [.agg [I g,I i]] [.agg [I j,I k],ao r]::l
def Bf(A:af)(a b c d e f:Int)(C:af)(q:Bool)(g i j k:Int)(r s:Bool)(l:List O):List O:=VC A a b c d e f C q g i j k r (.b q true::.r 121 [.agg (bD A a b)] [ao s]::l)
theorem abd(h:ad (Bf A a b c i m j C q d e k l r s [.b s true,.r 122 [.agg (bi c d e f g)] [ao t],.b t true,.b (i==7) true,.b (decide ((C.length:Int)>0)) true])):
 av 177 [.agg (bD A a b),.agg (bi c d e f g)] [.one (B !r)]:=
 h.of
theorem abe(h:ad (Bf A a b c i m j C q d e k l t r [.b r true,.r 122 [.agg (bi c d e f g)] [ao s],.b s true,.b (i==7) true,.b (decide ((C.length:Int)>0)) false])):
 av 177 [.agg (bD A a b),.agg (bi c d e f g)] [ao false]:=
 h.of
theorem abf(h:ad (Bf A a b c i m j C q d e k l t r [.b r true,.r 122 [.agg (bi c d e f g)] [ao s],.b s true,.b (i==7) false])):
 av 177 [.agg (bD A a b),.agg (bi c d e f g)] [ao false]:=
 h.of
theorem abg(h:ad (Bf A a b c l m i C q d e j k t r [.b r true,.r 122 [.agg (bi c d e f g)] [ao s],.b s false])):
 av 177 [.agg (bD A a b),.agg (bi c d e f g)] [ao false]:=
 h.of
theorem abh(h:ad (Bf A a b c l m f C q d e g i s r [.b r false])):
 av 177 [.agg (bD A a b),.agg (bi c d e j k)] [ao false]:=
 h.of
theorem abi(h:ad (VC A a b c l m f C q d e g i r [.b q false])):
 av 177 [.agg (bD A a b),.agg (bi c d e j k)] [ao false]:=
 h.of
def VD(A C:af)(a b c d e f:Int)(E:af)(q:Bool)(l:List O):List O:=.g ([]:af) A 32::.h A::.r 249 [.agg (bD C a b),ae c] [.agg (bk d e f E),ao q]::l
theorem abj(h:ad (VD A C a b c k d e E q [.n q true])):
 av 176 [.agg (bD C a b),a7 4 A,.agg (bi c f g i j)] [a7 4 ([]++A),a7 5 [],ao false]:=
 h.of
def VE(A C:af)(a b c d e f:Int)(E:af)(q r:Bool)(l:List O):List O:=VD A C a b c d e f E q (.n q false::.r 121 [.agg (bD C a b)] [ao r]::l)
theorem aaJ(h:ad (VE A C a b c k d e E q r [.n r true])):
 av 176 [.agg (bD C a b),a7 4 A,.agg (bi c f g i j)] [a7 4 ([]++A),a7 5 [],ao false]:=
 h.of
def VF(A C:af)(a b c d e f:Int)(E:af)(q r:Bool)(g i j k:Int)(s:Bool)(l:List O):List O:=VE A C a b c d e f E q r (.n r false::.r 122 [.agg (bi c g i j k)] [ao s]::l)
theorem aaK(h:ad (VF A C a b c k i j E q r d e f g s [.n s true])):
 av 176 [.agg (bD C a b),a7 4 A,.agg (bi c d e f g)] [a7 4 ([]++A),a7 5 [],ao false]:=
 h.of
def Mg(A C:af)(a b c d e f:Int)(E:af)(q r:Bool)(g i j k:Int)(s:Bool)(m n:Int)(t:Bool)(l:List O):List O:=VF A C a b c d e f E q r g i j k s (.n s false::.r 267 [.agg (bk d e f E),ae j,ae k] [ae m,ae n,ao t]::l)
theorem aaL(h:ad (Mg A C a b c f g i E q r j k d e s l m t [.n t true,.b (f != 8) true])):
 av 176 [.agg (bD C a b),a7 4 A,.agg (bi c j k d e)] [a7 4 ([]++A),a7 5 [],ao true]:=
 h.of
def E0(A C:af)(a b c d e f:Int)(E:af)(q r:Bool)(g i j k:Int)(s:Bool)(m n:Int)(t u:Bool)(l:List O):List O:=Mg A C a b c d e f E q r g i j k s m n t (.n t true::.b (d != 8) false::.r 268 [ae d] [ao u]::l)
def E1(A C:af)(a b c d e f:Int)(E:af)(q r:Bool)(g i j k:Int)(s:Bool)(m n:Int)(t u:Bool)(F:af)(v:Bool)(l:List O):List O:=E0 A C a b c d e f E q r g i j k s m n t u (.b u true::.r 269 [ae d,a7 4 A,.agg [I c,I g,I j,I k]] [a7 4 F,ao v]::l)
theorem aaM(h:ad (E1 A C e f b a i j E q r g k c d s l m t u F v [.n v true])):
 av 176 [.agg (bD C e f),a7 4 A,.agg (bi b g k c d)] [a7 4 F,a7 5 [],ao true]:=
 h.of
theorem aaN(h:ad (E1 A C f g b a j k E q r c i d e s l m t u F v [.n v false,.b (a==7) true,.r 270 [.agg [I c,I i]] [.agg [I n,I o],ao w],.n w true])):
 av 176 [.agg (bD C f g),a7 4 A,.agg (bi b c i d e)] [a7 4 F,a7 5 [],ao true]:=
 h.of
def vn(a b c:Int)(C:af)(d e:Int)(E:af)(f g i:Int)(A:af):aH:=bj 127 [(9,aI.aJ (bq.one (aG 840000 4 E))),(10,aI.aJ (bq.one (aG 25 5 A))),(11,aR 11),(13,aZ d),(14,aZ e),(18,aR 18),(21,aZ i)] [(18,[aw f,aw g]),(11,[aw a,aw b,aw c,aG 310003 1 C])]
def E4(A:af)(a b:Int)(C:af)(c d e f:Int)(l:List O):List O:=.i A a [I b]::.g C [(bi b c d e f)] 40::.h [(bi b c d e f)]::.u a::l
theorem aaO(h:ad (E4 A e f C c d a b [])):
 a1 (ar Tryz.f176 0) (vn j g i A a b E c d e C) .normal (vn j g i A a b E c d (e+1) (C++[(bi f c d a b)])):=
 h.aW [21,11,10,18,13,14,9] [18,11]
def tg(A C:af):aH:=bj 127 [(9,aI.aJ (bq.one (aG 840000 4 A))),(10,aI.aJ (bq.one (aG 25 5 C)))] []
theorem aaP(h:ad [.f A a false]):
 a1 (ar Tryz.f176 0) (vn i b c A d e C f g a E) (.exit 0) (tg C E):=
 h.aW [9,10] []
theorem aaQ(h:ad (E1 C E f j b a g i F q r c k d e s l m t u A v [.n v false,.b (a==7) true,.r 270 [.agg [I c,I k]] [.agg [I n,I o],ao w],.n w false,.l [] [21,11,10,18,13,14,9] [18,11] (ar Tryz.f176 0) (vn a g i F l m A n o 0 []) (.exit 0) (tg A G)])):
 av 176 [.agg (bD E f j),a7 4 C,.agg (bi b c k d e)] [a7 4 A,a7 5 G,ao true]:=
 h.of
def vo(a b c d e:Int)(C:af)(f g:Int)(E:af)(i:Int)(A:af):aH:=bj 127 [(9,aI.aJ (bq.one (aG 840000 4 E))),(10,aI.aJ (bq.one (aG 25 5 A))),(11,aR 11),(13,aZ f),(14,aZ g),(18,aR 18),(21,aZ i)] [(18,[aw a,aw b]),(11,[aw c,aw d,aw e,aG 310003 1 C])]
theorem aaR(h:ad (E4 A e f C c d a b [])):
 a1 (ar Tryz.f176 0) (vo c d j g i A a b E e C) .normal (vo c d j g i A a b E (e+1) (C++[(bi f c d a b)])):=
 h.aW [21,11,10,18,13,14,9] [18,11]
theorem aaS(h:ad [.f A a false]):
 a1 (ar Tryz.f176 0) (vo f g i b c A d e C a E) (.exit 0) (tg C E):=
 h.aW [9,10] []
theorem acn(h:ad (E1 C E f j b a g i F q r c k d e s l m t u A v [.n v false,.b (a==7) false,.l [] [21,11,10,18,13,14,9] [18,11] (ar Tryz.f176 0) (vo c k a g i F l m A 0 []) (.exit 0) (tg A G)])):
 av 176 [.agg (bD E f j),a7 4 C,.agg (bi b c k d e)] [a7 4 A,a7 5 G,ao true]:=
 h.of
theorem aco(h:ad (E0 A C b c d a j k E q r e f g i s l m t u [.b u false,.b (a==7) true,.r 270 [.agg [I e,I f]] [.agg [I n,I o],ao v],.n v true])):
 av 176 [.agg (bD C b c),a7 4 A,.agg (bi d e f g i)] [a7 4 ([]++A),a7 5 [],ao true]:=
 h.of
def vp(A:af)(a b c:Int)(E:af)(d e f g i:Int)(C:af):aH:=bj 127 [(9,aI.aJ (bq.one (aG 22 4 ([]++A)))),(10,aI.aJ (bq.one (aG 25 5 C))),(11,aR 11),(13,aZ d),(14,aZ e),(18,aR 18),(21,aZ i)] [(18,[aw f,aw g]),(11,[aw a,aw b,aw c,aG 310003 1 E])]
theorem acp(h:ad (E4 A e f C c d a b [])):
 a1 (ar Tryz.f176 0) (vp E j g i A a b c d e C) .normal (vp E j g i A a b c d (e+1) (C++[(bi f c d a b)])):=
 h.aW [21,11,10,18,13,14,9] [18,11]
def th(A C:af):aH:=bj 127 [(9,aI.aJ (bq.one (aG 22 4 ([]++A)))),(10,aI.aJ (bq.one (aG 25 5 C)))] []
theorem acq(h:ad [.f A a false]):
 a1 (ar Tryz.f176 0) (vp E i b c A d e f g a C) (.exit 0) (th E C):=
 h.aW [9,10] []
theorem acr(h:ad (E0 A C b e f a c d E q r g i j k s l m t u [.b u false,.b (a==7) true,.r 270 [.agg [I g,I i]] [.agg [I n,I o],ao v],.n v false,.l [] [21,11,10,18,13,14,9] [18,11] (ar Tryz.f176 0) (vp A a c d E l m n o 0 []) (.exit 0) (th A F)])):
 av 176 [.agg (bD C b e),a7 4 A,.agg (bi f g i j k)] [a7 4 ([]++A),a7 5 F,ao true]:=
 h.of
def vq(A:af)(a b c d e:Int)(E:af)(f g i:Int)(C:af):aH:=bj 127 [(9,aI.aJ (bq.one (aG 22 4 ([]++A)))),(10,aI.aJ (bq.one (aG 25 5 C))),(11,aR 11),(13,aZ f),(14,aZ g),(18,aR 18),(21,aZ i)] [(18,[aw a,aw b]),(11,[aw c,aw d,aw e,aG 310003 1 E])]
theorem acs(h:ad (E4 A e f C c d a b [])):
 a1 (ar Tryz.f176 0) (vq E c d j g i A a b e C) .normal (vq E c d j g i A a b (e+1) (C++[(bi f c d a b)])):=
 h.aW [21,11,10,18,13,14,9] [18,11]
theorem acu(h:ad [.f A a false]):
 a1 (ar Tryz.f176 0) (vq E f g i b c A d e a C) (.exit 0) (th E C):=
 h.aW [9,10] []
theorem acv(h:ad (E0 A C b e f a c d E q r g i j k s l m t u [.b u false,.b (a==7) false,.l [] [21,11,10,18,13,14,9] [18,11] (ar Tryz.f176 0) (vq A g i a c d E l m 0 []) (.exit 0) (th A F)])):
 av 176 [.agg (bD C b e),a7 4 A,.agg (bi f g i j k)] [a7 4 ([]++A),a7 5 F,ao true]:=
 h.of
def E2(A C:af)(a b c d e f:Int)(E:af)(q r:Bool)(g i j k:Int)(s:Bool)(m n:Int)(t u:Bool)(l:List O):List O:=Mg A C a b c d e f E q r g i j k s m n t (.n t false::.r 268 [ae d] [ao u]::l)
def E3(A C:af)(a b c d e f:Int)(E:af)(q r:Bool)(g i j k:Int)(s:Bool)(m n:Int)(t u:Bool)(F:af)(v:Bool)(l:List O):List O:=E2 A C a b c d e f E q r g i j k s m n t u (.b u true::.r 269 [ae d,a7 4 A,.agg [I c,I g,I j,I k]] [a7 4 F,ao v]::l)
theorem acw(h:ad (E3 A C e f a d i j E q r g k b c s l m t u F v [.n v true])):
 av 176 [.agg (bD C e f),a7 4 A,.agg (bi a g k b c)] [a7 4 F,a7 5 [],ao true]:=
 h.of
theorem acx(h:ad (E3 A C f g b a j k E q r c i d e s l m t u F v [.n v false,.b (a==7) true,.r 270 [.agg [I c,I i]] [.agg [I n,I o],ao w],.n w true])):
 av 176 [.agg (bD C f g),a7 4 A,.agg (bi b c i d e)] [a7 4 F,a7 5 [],ao true]:=
 h.of
theorem acy(h:ad (E3 C E f j b a g i F q r c k d e s l m t u A v [.n v false,.b (a==7) true,.r 270 [.agg [I c,I k]] [.agg [I n,I o],ao w],.n w false,.l [] [21,11,10,18,13,14,9] [18,11] (ar Tryz.f176 0) (vn a g i F l m A n o 0 []) (.exit 0) (tg A G)])):
 av 176 [.agg (bD E f j),a7 4 C,.agg (bi b c k d e)] [a7 4 A,a7 5 G,ao true]:=
 h.of
theorem acz(h:ad (E3 C E f j b a g i F q r c k d e s l m t u A v [.n v false,.b (a==7) false,.l [] [21,11,10,18,13,14,9] [18,11] (ar Tryz.f176 0) (vo c k a g i F l m A 0 []) (.exit 0) (tg A G)])):
 av 176 [.agg (bD E f j),a7 4 C,.agg (bi b c k d e)] [a7 4 A,a7 5 G,ao true]:=
 h.of
theorem acA(h:ad (E2 A C b c d a j k E q r e f g i s l m t u [.b u false,.b (a==7) true,.r 270 [.agg [I e,I f]] [.agg [I n,I o],ao v],.n v true])):
 av 176 [.agg (bD C b c),a7 4 A,.agg (bi d e f g i)] [a7 4 ([]++A),a7 5 [],ao true]:=
 h.of
theorem acB(h:ad (E2 A C b e f a c d E q r g i j k s l m t u [.b u false,.b (a==7) true,.r 270 [.agg [I g,I i]] [.agg [I n,I o],ao v],.n v false,.l [] [21,11,10,18,13,14,9] [18,11] (ar Tryz.f176 0) (vp A a c d E l m n o 0 []) (.exit 0) (th A F)])):
 av 176 [.agg (bD C b e),a7 4 A,.agg (bi f g i j k)] [a7 4 ([]++A),a7 5 F,ao true]:=
 h.of
theorem acC(h:ad (E2 A C b e f a c d E q r g i j k s l m t u [.b u false,.b (a==7) false,.l [] [21,11,10,18,13,14,9] [18,11] (ar Tryz.f176 0) (vq A g i a c d E l m 0 []) (.exit 0) (th A F)])):
 av 176 [.agg (bD C b e),a7 4 A,.agg (bi f g i j k)] [a7 4 ([]++A),a7 5 F,ao true]:=
 h.of
