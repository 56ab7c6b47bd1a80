import Derived.Test.YtdkobdhckkjmeaaGreatRows
import Derived.Test.YtdkobdhckkjmeaaGreatGE
set_option linter.unusedVariables false
set_option linter.unusedSimpArgs false
namespace Go.Proofs.YtdkobdhckkjmeaaGreat
open Go.Sx Go.RowKit
variable {a b c d e f g i j k l m n o : Int} {A C E F G : LL} {q r s t u v w : Bool}
def y1Y(A:LL)(a b c d e f:Int)(C:LL)(q:Bool)(g i j k:Int)(r:Bool)(l:List O):List O:=.r 248 [.agg (gr A a b),cI c] [.agg (nd d e f C),cB q]::.r 296 [.agg [I g,I i]] [.agg [I j,I k],cB r]::l
def y1Z(A:LL)(a b c d e f:Int)(C:LL)(q:Bool)(g i j k:Int)(r s:Bool)(l:List O):List O:=y1Y A a b c d e f C q g i j k r (.b q true::.r 121 [.agg (gr A a b)] [cB s]::l)
theorem qG9(h:Oo (y1Z A a b c i m j C q d e k l r s [.b s true,.r 122 [.agg (ri c d e f g)] [cB t],.b t true,.b (i==7) true,.b (decide ((C.length:Int)>0)) true])):
 Rt 210 [.agg (gr A a b),.agg (ri c d e f g)] [.one (B !r)]:=
 h.of
theorem qHa(h:Oo (y1Z A a b c i m j C q d e k l t r [.b r true,.r 122 [.agg (ri c d e f g)] [cB s],.b s true,.b (i==7) true,.b (decide ((C.length:Int)>0)) false])):
 Rt 210 [.agg (gr A a b),.agg (ri c d e f g)] [cB false]:=
 h.of
theorem qHb(h:Oo (y1Z A a b c i m j C q d e k l t r [.b r true,.r 122 [.agg (ri c d e f g)] [cB s],.b s true,.b (i==7) false])):
 Rt 210 [.agg (gr A a b),.agg (ri c d e f g)] [cB false]:=
 h.of
theorem qHc(h:Oo (y1Z A a b c l m i C q d e j k t r [.b r true,.r 122 [.agg (ri c d e f g)] [cB s],.b s false])):
 Rt 210 [.agg (gr A a b),.agg (ri c d e f g)] [cB false]:=
 h.of
theorem qHd(h:Oo (y1Z A a b c l m f C q d e g i s r [.b r false])):
 Rt 210 [.agg (gr A a b),.agg (ri c d e j k)] [cB false]:=
 h.of
theorem qHe(h:Oo (y1Y A a b c l m f C q d e g i r [.b q false])):
 Rt 210 [.agg (gr A a b),.agg (ri c d e j k)] [cB false]:=
 h.of
def y20(A C:LL)(a b c d e f:Int)(E:LL)(q:Bool)(l:List O):List O:=.g ([]:LL) A 32::.h A::.r 248 [.agg (gr C a b),cI c] [.agg (nd d e f E),cB q]::l
theorem qHf(h:Oo (y20 A C a b c k d e E q [.n q true])):
 Rt 209 [.agg (gr C a b),cS 4 A,.agg (ri c f g i j)] [cS 4 ([]++A),cS 5 [],cB false]:=
 h.of
def y21(A C:LL)(a b c d e f:Int)(E:LL)(q r:Bool)(l:List O):List O:=y20 A C a b c d e f E q (.n q false::.r 121 [.agg (gr C a b)] [cB r]::l)
theorem qHg(h:Oo (y21 A C a b c k d e E q r [.n r true])):
 Rt 209 [.agg (gr C a b),cS 4 A,.agg (ri c f g i j)] [cS 4 ([]++A),cS 5 [],cB false]:=
 h.of
def y22(A C:LL)(a b c d e f:Int)(E:LL)(q r:Bool)(g i j k:Int)(s:Bool)(l:List O):List O:=y21 A C a b c d e f E q r (.n r false::.r 122 [.agg (ri c g i j k)] [cB s]::l)
theorem qHh(h:Oo (y22 A C a b c k i j E q r d e f g s [.n s true])):
 Rt 209 [.agg (gr C a b),cS 4 A,.agg (ri c d e f g)] [cS 4 ([]++A),cS 5 [],cB false]:=
 h.of
def y23(A C:LL)(a b c d e f:Int)(E:LL)(q r:Bool)(g i j k:Int)(s:Bool)(m n:Int)(t:Bool)(l:List O):List O:=y22 A C a b c d e f E q r g i j k s (.n s false::.r 293 [.agg (nd d e f E),cI j,cI k] [cI m,cI n,cB t]::l)
theorem qHi(h:Oo (y23 A C a b c f g i E q r j k d e s l m t [.n t true,.b (f != 8) true])):
 Rt 209 [.agg (gr C a b),cS 4 A,.agg (ri c j k d e)] [cS 4 ([]++A),cS 5 [],cB true]:=
 h.of
def y24(A C:LL)(a b c d e f:Int)(E:LL)(q r:Bool)(g i j k:Int)(s:Bool)(m n:Int)(t u:Bool)(l:List O):List O:=y23 A C a b c d e f E q r g i j k s m n t (.n t true::.b (d != 8) false::.r 294 [cI d] [cB u]::l)
def y25(A C:LL)(a b c d e f:Int)(E:LL)(q r:Bool)(g i j k:Int)(s:Bool)(m n:Int)(t u:Bool)(F:LL)(v:Bool)(l:List O):List O:=y24 A C a b c d e f E q r g i j k s m n t u (.b u true::.r 295 [cI d,cS 4 A,.agg [I c,I g,I j,I k]] [cS 4 F,cB v]::l)
theorem qHj(h:Oo (y25 A C e f b a i j E q r g k c d s l m t u F v [.n v true])):
 Rt 209 [.agg (gr C e f),cS 4 A,.agg (ri b g k c d)] [cS 4 F,cS 5 [],cB true]:=
 h.of
theorem qHk(h:Oo (y25 A C f g b a j k E q r c i d e s l m t u F v [.n v false,.b (a==7) true,.r 296 [.agg [I c,I i]] [.agg [I n,I o],cB w],.n w true])):
 Rt 209 [.agg (gr C f g),cS 4 A,.agg (ri b c i d e)] [cS 4 F,cS 5 [],cB true]:=
 h.of
def qfs(a b c:Int)(C:LL)(d e:Int)(E:LL)(f g i:Int)(A:LL):St:=
 { env:=envOf 127 [(9,PV.al (AL.one (lO 840000 4 E))),(10,PV.al (AL.one (lO 25 5 A))),(11,vP 11),(13,vI d),(14,vI e),(18,vP 18),(21,vI i)],boxes:=[(18,[lI f,lI g]),(11,[lI a,lI b,lI c,lO 310003 1 C])] }
def y28(A:LL)(a b:Int)(C:LL)(c d e f:Int)(l:List O):List O:=.i A a [I b]::.g C [(ri b c d e f)] 40::.h [(ri b c d e f)]::.u a::l
theorem qHl(h:Oo (y28 A e f C c d a b [])):
 Tp (qaa Tryz.f209 0) (qfs j g i A a b E c d e C) .normal (qfs j g i A a b E c d (e+1) (C++[(ri f c d a b)])):=
 h.lp [21,11,10,18,13,14,9] [18,11]
def qes(A C:LL):St:=
 { env:=envOf 127 [(9,PV.al (AL.one (lO 840000 4 A))),(10,PV.al (AL.one (lO 25 5 C)))],boxes:=[] }
theorem qHm(h:Oo [.f A a false]):
 Tp (qaa Tryz.f209 0) (qfs i b c A d e C f g a E) (.exit 0) (qes C E):=
 h.lp [9,10] []
theorem qHn(h:Oo (y25 C E f j b a g i F q r c k d e s l m t u A v [.n v false,.b (a==7) true,.r 296 [.agg [I c,I k]] [.agg [I n,I o],cB w],.n w false,.l [] [21,11,10,18,13,14,9] [18,11] (qaa Tryz.f209 0) (qfs a g i F l m A n o 0 []) (.exit 0) (qes A G)])):
 Rt 209 [.agg (gr E f j),cS 4 C,.agg (ri b c k d e)] [cS 4 A,cS 5 G,cB true]:=
 h.of
def qft(a b c d e:Int)(C:LL)(f g:Int)(E:LL)(i:Int)(A:LL):St:=
 { env:=envOf 127 [(9,PV.al (AL.one (lO 840000 4 E))),(10,PV.al (AL.one (lO 25 5 A))),(11,vP 11),(13,vI f),(14,vI g),(18,vP 18),(21,vI i)],boxes:=[(18,[lI a,lI b]),(11,[lI c,lI d,lI e,lO 310003 1 C])] }
theorem qHo(h:Oo (y28 A e f C c d a b [])):
 Tp (qaa Tryz.f209 0) (qft c d j g i A a b E e C) .normal (qft c d j g i A a b E (e+1) (C++[(ri f c d a b)])):=
 h.lp [21,11,10,18,13,14,9] [18,11]
theorem qHp(h:Oo [.f A a false]):
 Tp (qaa Tryz.f209 0) (qft f g i b c A d e C a E) (.exit 0) (qes C E):=
 h.lp [9,10] []
theorem qHq(h:Oo (y25 C E f j b a g i F q r c k d e s l m t u A v [.n v false,.b (a==7) false,.l [] [21,11,10,18,13,14,9] [18,11] (qaa Tryz.f209 0) (qft c k a g i F l m A 0 []) (.exit 0) (qes A G)])):
 Rt 209 [.agg (gr E f j),cS 4 C,.agg (ri b c k d e)] [cS 4 A,cS 5 G,cB true]:=
 h.of
theorem qHr(h:Oo (y24 A C b c d a j k E q r e f g i s l m t u [.b u false,.b (a==7) true,.r 296 [.agg [I e,I f]] [.agg [I n,I o],cB v],.n v true])):
 Rt 209 [.agg (gr C b c),cS 4 A,.agg (ri d e f g i)] [cS 4 ([]++A),cS 5 [],cB true]:=
 h.of
def qfu(A:LL)(a b c:Int)(E:LL)(d e f g i:Int)(C:LL):St:=
 { env:=envOf 127 [(9,PV.al (AL.one (lO 22 4 ([]++A)))),(10,PV.al (AL.one (lO 25 5 C))),(11,vP 11),(13,vI d),(14,vI e),(18,vP 18),(21,vI i)],boxes:=[(18,[lI f,lI g]),(11,[lI a,lI b,lI c,lO 310003 1 E])] }
theorem qHs(h:Oo (y28 A e f C c d a b [])):
 Tp (qaa Tryz.f209 0) (qfu E j g i A a b c d e C) .normal (qfu E j g i A a b c d (e+1) (C++[(ri f c d a b)])):=
 h.lp [21,11,10,18,13,14,9] [18,11]
def qet(A C:LL):St:=
 { env:=envOf 127 [(9,PV.al (AL.one (lO 22 4 ([]++A)))),(10,PV.al (AL.one (lO 25 5 C)))],boxes:=[] }
theorem qHt(h:Oo [.f A a false]):
 Tp (qaa Tryz.f209 0) (qfu E i b c A d e f g a C) (.exit 0) (qet E C):=
 h.lp [9,10] []
theorem qHu(h:Oo (y24 A C b e f a c d E q r g i j k s l m t u [.b u false,.b (a==7) true,.r 296 [.agg [I g,I i]] [.agg [I n,I o],cB v],.n v false,.l [] [21,11,10,18,13,14,9] [18,11] (qaa Tryz.f209 0) (qfu A a c d E l m n o 0 []) (.exit 0) (qet A F)])):
 Rt 209 [.agg (gr C b e),cS 4 A,.agg (ri f g i j k)] [cS 4 ([]++A),cS 5 F,cB true]:=
 h.of
def qfv(A:LL)(a b c d e:Int)(E:LL)(f g i:Int)(C:LL):St:=
 { env:=envOf 127 [(9,PV.al (AL.one (lO 22 4 ([]++A)))),(10,PV.al (AL.one (lO 25 5 C))),(11,vP 11),(13,vI f),(14,vI g),(18,vP 18),(21,vI i)],boxes:=[(18,[lI a,lI b]),(11,[lI c,lI d,lI e,lO 310003 1 E])] }
theorem qHv(h:Oo (y28 A e f C c d a b [])):
 Tp (qaa Tryz.f209 0) (qfv E c d j g i A a b e C) .normal (qfv E c d j g i A a b (e+1) (C++[(ri f c d a b)])):=
 h.lp [21,11,10,18,13,14,9] [18,11]
theorem qHw(h:Oo [.f A a false]):
 Tp (qaa Tryz.f209 0) (qfv E f g i b c A d e a C) (.exit 0) (qet E C):=
 h.lp [9,10] []
theorem qHx(h:Oo (y24 A C b e f a c d E q r g i j k s l m t u [.b u false,.b (a==7) false,.l [] [21,11,10,18,13,14,9] [18,11] (qaa Tryz.f209 0) (qfv A g i a c d E l m 0 []) (.exit 0) (qet A F)])):
 Rt 209 [.agg (gr C b e),cS 4 A,.agg (ri f g i j k)] [cS 4 ([]++A),cS 5 F,cB true]:=
 h.of
def y26(A C:LL)(a b c d e f:Int)(E:LL)(q r:Bool)(g i j k:Int)(s:Bool)(m n:Int)(t u:Bool)(l:List O):List O:=y23 A C a b c d e f E q r g i j k s m n t (.n t false::.r 294 [cI d] [cB u]::l)
def y27(A C:LL)(a b c d e f:Int)(E:LL)(q r:Bool)(g i j k:Int)(s:Bool)(m n:Int)(t u:Bool)(F:LL)(v:Bool)(l:List O):List O:=y26 A C a b c d e f E q r g i j k s m n t u (.b u true::.r 295 [cI d,cS 4 A,.agg [I c,I g,I j,I k]] [cS 4 F,cB v]::l)
theorem qHy(h:Oo (y27 A C e f a d i j E q r g k b c s l m t u F v [.n v true])):
 Rt 209 [.agg (gr C e f),cS 4 A,.agg (ri a g k b c)] [cS 4 F,cS 5 [],cB true]:=
 h.of
theorem qHz(h:Oo (y27 A C f g b a j k E q r c i d e s l m t u F v [.n v false,.b (a==7) true,.r 296 [.agg [I c,I i]] [.agg [I n,I o],cB w],.n w true])):
 Rt 209 [.agg (gr C f g),cS 4 A,.agg (ri b c i d e)] [cS 4 F,cS 5 [],cB true]:=
 h.of
theorem qHA(h:Oo (y27 C E f j b a g i F q r c k d e s l m t u A v [.n v false,.b (a==7) true,.r 296 [.agg [I c,I k]] [.agg [I n,I o],cB w],.n w false,.l [] [21,11,10,18,13,14,9] [18,11] (qaa Tryz.f209 0) (qfs a g i F l m A n o 0 []) (.exit 0) (qes A G)])):
 Rt 209 [.agg (gr E f j),cS 4 C,.agg (ri b c k d e)] [cS 4 A,cS 5 G,cB true]:=
 h.of
theorem qHB(h:Oo (y27 C E f j b a g i F q r c k d e s l m t u A v [.n v false,.b (a==7) false,.l [] [21,11,10,18,13,14,9] [18,11] (qaa Tryz.f209 0) (qft c k a g i F l m A 0 []) (.exit 0) (qes A G)])):
 Rt 209 [.agg (gr E f j),cS 4 C,.agg (ri b c k d e)] [cS 4 A,cS 5 G,cB true]:=
 h.of
theorem qHC(h:Oo (y26 A C b c d a j k E q r e f g i s l m t u [.b u false,.b (a==7) true,.r 296 [.agg [I e,I f]] [.agg [I n,I o],cB v],.n v true])):
 Rt 209 [.agg (gr C b c),cS 4 A,.agg (ri d e f g i)] [cS 4 ([]++A),cS 5 [],cB true]:=
 h.of
theorem qHD(h:Oo (y26 A C b e f a c d E q r g i j k s l m t u [.b u false,.b (a==7) true,.r 296 [.agg [I g,I i]] [.agg [I n,I o],cB v],.n v false,.l [] [21,11,10,18,13,14,9] [18,11] (qaa Tryz.f209 0) (qfu A a c d E l m n o 0 []) (.exit 0) (qet A F)])):
 Rt 209 [.agg (gr C b e),cS 4 A,.agg (ri f g i j k)] [cS 4 ([]++A),cS 5 F,cB true]:=
 h.of
theorem qHE(h:Oo (y26 A C b e f a c d E q r g i j k s l m t u [.b u false,.b (a==7) false,.l [] [21,11,10,18,13,14,9] [18,11] (qaa Tryz.f209 0) (qfv A g i a c d E l m 0 []) (.exit 0) (qet A F)])):
 Rt 209 [.agg (gr C b e),cS 4 A,.agg (ri f g i j k)] [cS 4 ([]++A),cS 5 F,cB true]:=
 h.of
def y29(A:LL)(a b:Int)(q:Bool)(l:List O):List O:=.r 144 [.agg (gr A a b)] [cB q]::l
theorem qrr(h:Oo (y29 A a b q [.n q true,.r 301 [cS 4 E] [cS 4 C]])):
 Rt 238 [.agg (gr A a b),cS 4 E,.agg (ri c d e f g)] [cS 4 C,cS 5 [],cB false]:=
 h.of
def y2a(A:LL)(a b:Int)(q:Bool)(c d e f g:Int)(r:Bool)(l:List O):List O:=y29 A a b q (.n q false::.r 145 [.agg (ri c d e f g)] [cB r]::l)
theorem qrs(h:Oo (y2a A a b r c d e f g q [.n q true,.r 301 [cS 4 E] [cS 4 C]])):
 Rt 238 [.agg (gr A a b),cS 4 E,.agg (ri c d e f g)] [cS 4 C,cS 5 [],cB false]:=
 h.of
def y2b(A:LL)(a b:Int)(q:Bool)(c d e f g:Int)(r s:Bool)(l:List O):List O:=y2a A a b q c d e f g r (.n r false::.r 250 [.agg (gr A a b),cI c] [cB s]::l)
theorem qHF(h:Oo (y2b A a b s c d e f g q r [.n r true,.r 301 [cS 4 E] [cS 4 C]])):
 Rt 238 [.agg (gr A a b),cS 4 E,.agg (ri c d e f g)] [cS 4 C,cS 5 [],cB false]:=
 h.of
def y2c(A:LL)(a b:Int)(q:Bool)(c d e f g:Int)(r s:Bool)(i j k:Int)(C:LL)(l:List O):List O:=y2b A a b q c d e f g r s (.n s false::.x A c (nd i j k C)::l)
def y2d(A:LL)(a b:Int)(q:Bool)(c d e f g:Int)(r s:Bool)(i j k:Int)(C:LL)(m n:Int)(t:Bool)(l:List O):List O:=y2c A a b q c d e f g r s i j k C (.r 302 [.agg (nd i j k C),cI f,cI g] [cI m,cI n,cB t]::l)
theorem qHG(h:Oo (y2d A b d t a j k e f q r c g i C l m s [.n s true,.b (c != 8) true,.r 301 [cS 4 F] [cS 4 E]])):
 Rt 238 [.agg (gr A b d),cS 4 F,.agg (ri a j k e f)] [cS 4 E,cS 5 [],cB true]:=
 h.of
def y2e(A:LL)(a b:Int)(q:Bool)(c d e f g:Int)(r s:Bool)(i j k:Int)(C:LL)(m n:Int)(t:Bool)(E F:LL)(u:Bool)(l:List O):List O:=y2d A a b q c d e f g r s i j k C m n t (.n t true::.b (i != 8) false::.r 303 [cI i,cS 4 E,.agg [I c,I d,I f,I g]] [cS 4 F,cB u]::l)
theorem qHH(h:Oo (y2e A e f u a g k c d q r b i j C l m s F E t [.n t true])):
 Rt 238 [.agg (gr A e f),cS 4 F,.agg (ri a g k c d)] [cS 4 E,cS 5 [],cB true]:=
 h.of
def qdA(A:LL)(a b:Int)(C:LL)(c d:Int)(q:Bool)(e:Int)(E:LL):St:=
 { env:=envOf 111 [(10,vI a),(11,vI b),(13,PV.al (AL.one (lO 760000 4 C))),(14,vP 14),(15,.al (.one (.sb q))),(16,PV.al (AL.one (lO 107 5 E))),(93,vF 1 A),(94,vI (A.length:Int)),(95,vI e)],boxes:=[(14,[lI c,lI d])] }
theorem qHI(h:Oo [.i A e [I f],.b q true,.g C [(ri f c d a b)] 40,.h [(ri f c d a b)],.u e]):
 Tp (qaa Tryz.f238 0) (qdA A a b E c d q e C) .normal (qdA A a b E c d q (e+1) (C++[(ri f c d a b)])):=
 h.lp [95,94,93,15,16,14,10,11,13] [14]
theorem qHJ(h:Oo [.i A a [I f],.b q false,.u a]):
 Tp (qaa Tryz.f238 0) (qdA A b c C d e q a E) .normal (qdA A b c C d e q (a+1) E):=
 h.lp [95,94,93,15,16,14,10,11,13] [14]
def qeu(A C:LL):St:=
 { env:=envOf 111 [(13,PV.al (AL.one (lO 760000 4 A))),(16,PV.al (AL.one (lO 107 5 C)))],boxes:=[] }
theorem qrt(h:Oo [.f A a false]):
 Tp (qaa Tryz.f238 0) (qdA A b c C d e q a E) (.exit 0) (qeu C E):=
 h.lp [13,16] []
theorem qHK(h:Oo (y2e A f g v b c i d e q r a j k E l m s G C t [.n t false,.b (a==7) true,.r 304 [.agg [I c,I i]] [.agg [I n,I o],cB u],.l [(16,107,5)] [95,94,93,15,16,14,10,11,13] [14] (qaa Tryz.f238 0) (qdA E l m C n o u 0 []) (.exit 0) (qeu C F)])):
 Rt 238 [.agg (gr A f g),cS 4 G,.agg (ri b c i d e)] [cS 4 C,cS 5 F,cB true]:=
 h.of
def qfw(a b:Int)(A:LL)(c d:Int)(C:LL)(e:Int)(E:LL):St:=
 { env:=envOf 111 [(10,vI c),(11,vI d),(13,PV.al (AL.one (lO 760000 4 C))),(14,vP 14),(15,.al (.one (.sb true))),(16,PV.al (AL.one (lO 107 5 E))),(93,vF 1 A),(94,vI (A.length:Int)),(95,vI e)],boxes:=[(14,[lI a,lI b])] }
theorem qHL(h:Oo [.i A e [I f],.b true true,.g C [(ri f c d a b)] 40,.h [(ri f c d a b)],.u e]):
 Tp (qaa Tryz.f238 0) (qfw c d A a b E e C) .normal (qfw c d A a b E (e+1) (C++[(ri f c d a b)])):=
 h.lp [95,94,93,15,16,14,10,11,13] [14]
theorem qHM(h:Oo [.f A a false]):
 Tp (qaa Tryz.f238 0) (qfw d e A b c C a E) (.exit 0) (qeu C E):=
 h.lp [13,16] []
theorem qHN(h:Oo (y2e A f g u b c i d e q r a j k E l m s G C t [.n t false,.b (a==7) false,.l [(16,107,5)] [95,94,93,15,16,14,10,11,13] [14] (qaa Tryz.f238 0) (qfw c i E l m C 0 []) (.exit 0) (qeu C F)])):
 Rt 238 [.agg (gr A f g),cS 4 G,.agg (ri b c i d e)] [cS 4 C,cS 5 F,cB true]:=
 h.of
theorem qHO(h:Oo (y2d A d f u a g k b c q r e i j C l m s [.n s false,.r 303 [cI e,cS 4 F,.agg [I a,I g,I b,I c]] [cS 4 E,cB t],.n t true])):
 Rt 238 [.agg (gr A d f),cS 4 F,.agg (ri a g k b c)] [cS 4 E,cS 5 [],cB true]:=
 h.of
theorem qHP(h:Oo (y2d A f g v a c i d e q r b j k E l m s [.n s false,.r 303 [cI b,cS 4 G,.agg [I a,I c,I d,I e]] [cS 4 C,cB t],.n t false,.b (b==7) true,.r 304 [.agg [I c,I i]] [.agg [I n,I o],cB u],.l [(16,107,5)] [95,94,93,15,16,14,10,11,13] [14] (qaa Tryz.f238 0) (qdA E l m C n o u 0 []) (.exit 0) (qeu C F)])):
 Rt 238 [.agg (gr A f g),cS 4 G,.agg (ri a c i d e)] [cS 4 C,cS 5 F,cB true]:=
 h.of
theorem qHQ(h:Oo (y2d A f g u a c i d e q r b j k E l m s [.n s false,.r 303 [cI b,cS 4 G,.agg [I a,I c,I d,I e]] [cS 4 C,cB t],.n t false,.b (b==7) false,.l [(16,107,5)] [95,94,93,15,16,14,10,11,13] [14] (qaa Tryz.f238 0) (qfw c i E l m C 0 []) (.exit 0) (qeu C F)])):
 Rt 238 [.agg (gr A f g),cS 4 G,.agg (ri a c i d e)] [cS 4 C,cS 5 F,cB true]:=
 h.of
theorem qHR(h:Oo (y29 A a b q [.n q true])):
 Rt 292 [.agg (gr A a b),.agg (ri c d e f g)] [cB false]:=
 h.of
theorem qHS(h:Oo (y2a A a b q c d e f g r [.n r true])):
 Rt 292 [.agg (gr A a b),.agg (ri c d e f g)] [cB false]:=
 h.of
theorem qHT(h:Oo (y2b A a b r c d e f g s q [.n q true])):
 Rt 292 [.agg (gr A a b),.agg (ri c d e f g)] [cB false]:=
 h.of
theorem qHU(h:Oo (y2c A b c s a d e g i t q f j k C [.r 304 [.agg [I d,I e]] [.agg [I l,I m],cB r],.b (f==7) true,.b (decide ((C.length:Int)>0)) true])):
 Rt 292 [.agg (gr A b c),.agg (ri a d e g i)] [.one (B !r)]:=
 h.of
theorem qHV(h:Oo (y2c A b c r a d e g i s q f j k C [.r 304 [.agg [I d,I e]] [.agg [I l,I m],cB t],.b (f==7) true,.b (decide ((C.length:Int)>0)) false])):
 Rt 292 [.agg (gr A b c),.agg (ri a d e g i)] [cB false]:=
 h.of
theorem qHW(h:Oo (y2c A b c r a d e g i s q f j k C [.r 304 [.agg [I d,I e]] [.agg [I l,I m],cB t],.b (f==7) false])):
 Rt 292 [.agg (gr A b c),.agg (ri a d e g i)] [cB false]:=
 h.of
end Go.Proofs.YtdkobdhckkjmeaaGreat
