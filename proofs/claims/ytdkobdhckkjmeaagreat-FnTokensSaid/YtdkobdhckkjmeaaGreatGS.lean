import Derived.Test.YtdkobdhckkjmeaaGreatRows
import Derived.Test.YtdkobdhckkjmeaaGreatGE
set_option linter.unusedVariables false
set_option linter.unusedSimpArgs false
namespace Go.Proofs.YtdkobdhckkjmeaaGreat
open Go.Sx Go.RowKit
variable {a b c d e f g i j k l m n o : Int} {A C E F G : LL} {q r s t u v w : Bool}
def y2m(A:LL)(a b c d e f:Int)(C:LL)(q:Bool)(g i j k:Int)(r:Bool)(l:List O):List O:=.r 248 [.agg (gr A a b),cI c] [.agg (nd d e f C),cB q]::.r 296 [.agg [I g,I i]] [.agg [I j,I k],cB r]::l
def y2n(A:LL)(a b c d e f:Int)(C:LL)(q:Bool)(g i j k:Int)(r s:Bool)(l:List O):List O:=y2m A a b c d e f C q g i j k r (.b q true::.r 121 [.agg (gr A a b)] [cB s]::l)
theorem qHP(h:Oo (y2n A a b c i m j C q d e k l r s [.b s true,.r 122 [.agg (ri c d e f g)] [cB t],.b t true,.b (i==7) true,.b (decide ((C.length:Int)>0)) true])):
 Rt 210 [.agg (gr A a b),.agg (ri c d e f g)] [.one (B !r)]:=
 h.of
theorem qHQ(h:Oo (y2n A a b c i m j C q d e k l t r [.b r true,.r 122 [.agg (ri c d e f g)] [cB s],.b s true,.b (i==7) true,.b (decide ((C.length:Int)>0)) false])):
 Rt 210 [.agg (gr A a b),.agg (ri c d e f g)] [cB false]:=
 h.of
theorem qHR(h:Oo (y2n A a b c i m j C q d e k l t r [.b r true,.r 122 [.agg (ri c d e f g)] [cB s],.b s true,.b (i==7) false])):
 Rt 210 [.agg (gr A a b),.agg (ri c d e f g)] [cB false]:=
 h.of
theorem qHS(h:Oo (y2n A a b c l m i C q d e j k t r [.b r true,.r 122 [.agg (ri c d e f g)] [cB s],.b s false])):
 Rt 210 [.agg (gr A a b),.agg (ri c d e f g)] [cB false]:=
 h.of
theorem qHT(h:Oo (y2n A a b c l m f C q d e g i s r [.b r false])):
 Rt 210 [.agg (gr A a b),.agg (ri c d e j k)] [cB false]:=
 h.of
theorem qHU(h:Oo (y2m A a b c l m f C q d e g i r [.b q false])):
 Rt 210 [.agg (gr A a b),.agg (ri c d e j k)] [cB false]:=
 h.of
def y2o(A C:LL)(a b c d e f:Int)(E:LL)(q:Bool)(l:List O):List O:=.g ([]:LL) A 32::.h A::.r 248 [.agg (gr C a b),cI c] [.agg (nd d e f E),cB q]::l
theorem qHV(h:Oo (y2o A C a b c k d e E q [.n q true])):
 Rt 209 [.agg (gr C a b),cS 4 A,.agg (ri c f g i j)] [cS 4 ([]++A),cS 5 [],cB false]:=
 h.of
def y2p(A C:LL)(a b c d e f:Int)(E:LL)(q r:Bool)(l:List O):List O:=y2o A C a b c d e f E q (.n q false::.r 121 [.agg (gr C a b)] [cB r]::l)
theorem qHW(h:Oo (y2p A C a b c k d e E q r [.n r true])):
 Rt 209 [.agg (gr C a b),cS 4 A,.agg (ri c f g i j)] [cS 4 ([]++A),cS 5 [],cB false]:=
 h.of
def y2q(A C:LL)(a b c d e f:Int)(E:LL)(q r:Bool)(g i j k:Int)(s:Bool)(l:List O):List O:=y2p A C a b c d e f E q r (.n r false::.r 122 [.agg (ri c g i j k)] [cB s]::l)
theorem qHX(h:Oo (y2q A C a b c k i j E q r d e f g s [.n s true])):
 Rt 209 [.agg (gr C a b),cS 4 A,.agg (ri c d e f g)] [cS 4 ([]++A),cS 5 [],cB false]:=
 h.of
def y2r(A C:LL)(a b c d e f:Int)(E:LL)(q r:Bool)(g i j k:Int)(s:Bool)(m n:Int)(t:Bool)(l:List O):List O:=y2q A C a b c d e f E q r g i j k s (.n s false::.r 293 [.agg (nd d e f E),cI j,cI k] [cI m,cI n,cB t]::l)
theorem qHY(h:Oo (y2r A C a b c f g i E q r j k d e s l m t [.n t true,.b (f != 8) true])):
 Rt 209 [.agg (gr C a b),cS 4 A,.agg (ri c j k d e)] [cS 4 ([]++A),cS 5 [],cB true]:=
 h.of
def y2s(A C:LL)(a b c d e f:Int)(E:LL)(q r:Bool)(g i j k:Int)(s:Bool)(m n:Int)(t u:Bool)(l:List O):List O:=y2r A C a b c d e f E q r g i j k s m n t (.n t true::.b (d != 8) false::.r 294 [cI d] [cB u]::l)
def y2t(A C:LL)(a b c d e f:Int)(E:LL)(q r:Bool)(g i j k:Int)(s:Bool)(m n:Int)(t u:Bool)(F:LL)(v:Bool)(l:List O):List O:=y2s A C a b c d e f E q r g i j k s m n t u (.b u true::.r 295 [cI d,cS 4 A,.agg [I c,I g,I j,I k]] [cS 4 F,cB v]::l)
theorem qHZ(h:Oo (y2t A C e f b a i j E q r g k c d s l m t u F v [.n v true])):
 Rt 209 [.agg (gr C e f),cS 4 A,.agg (ri b g k c d)] [cS 4 F,cS 5 [],cB true]:=
 h.of
theorem qH0(h:Oo (y2t A C f g b a j k E q r c i d e s l m t u F v [.n v false,.b (a==7) true,.r 296 [.agg [I c,I i]] [.agg [I n,I o],cB w],.n w true])):
 Rt 209 [.agg (gr C f g),cS 4 A,.agg (ri b c i d e)] [cS 4 F,cS 5 [],cB true]:=
 h.of
def qfs(a b c:Int)(C:LL)(d e:Int)(E:LL)(f g i:Int)(A:LL):St:=
 { env:=envOf 127 [(9,PV.al (AL.one (lO 840000 4 E))),(10,PV.al (AL.one (lO 25 5 A))),(11,vP 11),(13,vI d),(14,vI e),(18,vP 18),(21,vI i)],boxes:=[(18,[lI f,lI g]),(11,[lI a,lI b,lI c,lO 310003 1 C])] }
def y2w(A:LL)(a b:Int)(C:LL)(c d e f:Int)(l:List O):List O:=.i A a [I b]::.g C [(ri b c d e f)] 40::.h [(ri b c d e f)]::.u a::l
theorem qH1(h:Oo (y2w A e f C c d a b [])):
 Tp (qaa Tryz.f209 0) (qfs j g i A a b E c d e C) .normal (qfs j g i A a b E c d (e+1) (C++[(ri f c d a b)])):=
 h.lp [21,11,10,18,13,14,9] [18,11]
def qes(A C:LL):St:=
 { env:=envOf 127 [(9,PV.al (AL.one (lO 840000 4 A))),(10,PV.al (AL.one (lO 25 5 C)))],boxes:=[] }
theorem qH2(h:Oo [.f A a false]):
 Tp (qaa Tryz.f209 0) (qfs i b c A d e C f g a E) (.exit 0) (qes C E):=
 h.lp [9,10] []
theorem qH3(h:Oo (y2t C E f j b a g i F q r c k d e s l m t u A v [.n v false,.b (a==7) true,.r 296 [.agg [I c,I k]] [.agg [I n,I o],cB w],.n w false,.l [] [21,11,10,18,13,14,9] [18,11] (qaa Tryz.f209 0) (qfs a g i F l m A n o 0 []) (.exit 0) (qes A G)])):
 Rt 209 [.agg (gr E f j),cS 4 C,.agg (ri b c k d e)] [cS 4 A,cS 5 G,cB true]:=
 h.of
def qft(a b c d e:Int)(C:LL)(f g:Int)(E:LL)(i:Int)(A:LL):St:=
 { env:=envOf 127 [(9,PV.al (AL.one (lO 840000 4 E))),(10,PV.al (AL.one (lO 25 5 A))),(11,vP 11),(13,vI f),(14,vI g),(18,vP 18),(21,vI i)],boxes:=[(18,[lI a,lI b]),(11,[lI c,lI d,lI e,lO 310003 1 C])] }
theorem qH4(h:Oo (y2w A e f C c d a b [])):
 Tp (qaa Tryz.f209 0) (qft c d j g i A a b E e C) .normal (qft c d j g i A a b E (e+1) (C++[(ri f c d a b)])):=
 h.lp [21,11,10,18,13,14,9] [18,11]
theorem qH5(h:Oo [.f A a false]):
 Tp (qaa Tryz.f209 0) (qft f g i b c A d e C a E) (.exit 0) (qes C E):=
 h.lp [9,10] []
theorem qH6(h:Oo (y2t C E f j b a g i F q r c k d e s l m t u A v [.n v false,.b (a==7) false,.l [] [21,11,10,18,13,14,9] [18,11] (qaa Tryz.f209 0) (qft c k a g i F l m A 0 []) (.exit 0) (qes A G)])):
 Rt 209 [.agg (gr E f j),cS 4 C,.agg (ri b c k d e)] [cS 4 A,cS 5 G,cB true]:=
 h.of
theorem qH7(h:Oo (y2s A C b c d a j k E q r e f g i s l m t u [.b u false,.b (a==7) true,.r 296 [.agg [I e,I f]] [.agg [I n,I o],cB v],.n v true])):
 Rt 209 [.agg (gr C b c),cS 4 A,.agg (ri d e f g i)] [cS 4 ([]++A),cS 5 [],cB true]:=
 h.of
def qfu(A:LL)(a b c:Int)(E:LL)(d e f g i:Int)(C:LL):St:=
 { env:=envOf 127 [(9,PV.al (AL.one (lO 22 4 ([]++A)))),(10,PV.al (AL.one (lO 25 5 C))),(11,vP 11),(13,vI d),(14,vI e),(18,vP 18),(21,vI i)],boxes:=[(18,[lI f,lI g]),(11,[lI a,lI b,lI c,lO 310003 1 E])] }
theorem qH8(h:Oo (y2w A e f C c d a b [])):
 Tp (qaa Tryz.f209 0) (qfu E j g i A a b c d e C) .normal (qfu E j g i A a b c d (e+1) (C++[(ri f c d a b)])):=
 h.lp [21,11,10,18,13,14,9] [18,11]
def qet(A C:LL):St:=
 { env:=envOf 127 [(9,PV.al (AL.one (lO 22 4 ([]++A)))),(10,PV.al (AL.one (lO 25 5 C)))],boxes:=[] }
theorem qH9(h:Oo [.f A a false]):
 Tp (qaa Tryz.f209 0) (qfu E i b c A d e f g a C) (.exit 0) (qet E C):=
 h.lp [9,10] []
theorem qIa(h:Oo (y2s A C b e f a c d E q r g i j k s l m t u [.b u false,.b (a==7) true,.r 296 [.agg [I g,I i]] [.agg [I n,I o],cB v],.n v false,.l [] [21,11,10,18,13,14,9] [18,11] (qaa Tryz.f209 0) (qfu A a c d E l m n o 0 []) (.exit 0) (qet A F)])):
 Rt 209 [.agg (gr C b e),cS 4 A,.agg (ri f g i j k)] [cS 4 ([]++A),cS 5 F,cB true]:=
 h.of
def qfv(A:LL)(a b c d e:Int)(E:LL)(f g i:Int)(C:LL):St:=
 { env:=envOf 127 [(9,PV.al (AL.one (lO 22 4 ([]++A)))),(10,PV.al (AL.one (lO 25 5 C))),(11,vP 11),(13,vI f),(14,vI g),(18,vP 18),(21,vI i)],boxes:=[(18,[lI a,lI b]),(11,[lI c,lI d,lI e,lO 310003 1 E])] }
theorem qIb(h:Oo (y2w A e f C c d a b [])):
 Tp (qaa Tryz.f209 0) (qfv E c d j g i A a b e C) .normal (qfv E c d j g i A a b (e+1) (C++[(ri f c d a b)])):=
 h.lp [21,11,10,18,13,14,9] [18,11]
theorem qIc(h:Oo [.f A a false]):
 Tp (qaa Tryz.f209 0) (qfv E f g i b c A d e a C) (.exit 0) (qet E C):=
 h.lp [9,10] []
theorem qId(h:Oo (y2s A C b e f a c d E q r g i j k s l m t u [.b u false,.b (a==7) false,.l [] [21,11,10,18,13,14,9] [18,11] (qaa Tryz.f209 0) (qfv A g i a c d E l m 0 []) (.exit 0) (qet A F)])):
 Rt 209 [.agg (gr C b e),cS 4 A,.agg (ri f g i j k)] [cS 4 ([]++A),cS 5 F,cB true]:=
 h.of
def y2u(A C:LL)(a b c d e f:Int)(E:LL)(q r:Bool)(g i j k:Int)(s:Bool)(m n:Int)(t u:Bool)(l:List O):List O:=y2r A C a b c d e f E q r g i j k s m n t (.n t false::.r 294 [cI d] [cB u]::l)
def y2v(A C:LL)(a b c d e f:Int)(E:LL)(q r:Bool)(g i j k:Int)(s:Bool)(m n:Int)(t u:Bool)(F:LL)(v:Bool)(l:List O):List O:=y2u A C a b c d e f E q r g i j k s m n t u (.b u true::.r 295 [cI d,cS 4 A,.agg [I c,I g,I j,I k]] [cS 4 F,cB v]::l)
theorem qIe(h:Oo (y2v A C e f a d i j E q r g k b c s l m t u F v [.n v true])):
 Rt 209 [.agg (gr C e f),cS 4 A,.agg (ri a g k b c)] [cS 4 F,cS 5 [],cB true]:=
 h.of
theorem qIf(h:Oo (y2v A C f g b a j k E q r c i d e s l m t u F v [.n v false,.b (a==7) true,.r 296 [.agg [I c,I i]] [.agg [I n,I o],cB w],.n w true])):
 Rt 209 [.agg (gr C f g),cS 4 A,.agg (ri b c i d e)] [cS 4 F,cS 5 [],cB true]:=
 h.of
theorem qIg(h:Oo (y2v C E f j b a g i F q r c k d e s l m t u A v [.n v false,.b (a==7) true,.r 296 [.agg [I c,I k]] [.agg [I n,I o],cB w],.n w false,.l [] [21,11,10,18,13,14,9] [18,11] (qaa Tryz.f209 0) (qfs a g i F l m A n o 0 []) (.exit 0) (qes A G)])):
 Rt 209 [.agg (gr E f j),cS 4 C,.agg (ri b c k d e)] [cS 4 A,cS 5 G,cB true]:=
 h.of
theorem qIh(h:Oo (y2v C E f j b a g i F q r c k d e s l m t u A v [.n v false,.b (a==7) false,.l [] [21,11,10,18,13,14,9] [18,11] (qaa Tryz.f209 0) (qft c k a g i F l m A 0 []) (.exit 0) (qes A G)])):
 Rt 209 [.agg (gr E f j),cS 4 C,.agg (ri b c k d e)] [cS 4 A,cS 5 G,cB true]:=
 h.of
theorem qIi(h:Oo (y2u A C b c d a j k E q r e f g i s l m t u [.b u false,.b (a==7) true,.r 296 [.agg [I e,I f]] [.agg [I n,I o],cB v],.n v true])):
 Rt 209 [.agg (gr C b c),cS 4 A,.agg (ri d e f g i)] [cS 4 ([]++A),cS 5 [],cB true]:=
 h.of
theorem qIj(h:Oo (y2u A C b e f a c d E q r g i j k s l m t u [.b u false,.b (a==7) true,.r 296 [.agg [I g,I i]] [.agg [I n,I o],cB v],.n v false,.l [] [21,11,10,18,13,14,9] [18,11] (qaa Tryz.f209 0) (qfu A a c d E l m n o 0 []) (.exit 0) (qet A F)])):
 Rt 209 [.agg (gr C b e),cS 4 A,.agg (ri f g i j k)] [cS 4 ([]++A),cS 5 F,cB true]:=
 h.of
theorem qIk(h:Oo (y2u A C b e f a c d E q r g i j k s l m t u [.b u false,.b (a==7) false,.l [] [21,11,10,18,13,14,9] [18,11] (qaa Tryz.f209 0) (qfv A g i a c d E l m 0 []) (.exit 0) (qet A F)])):
 Rt 209 [.agg (gr C b e),cS 4 A,.agg (ri f g i j k)] [cS 4 ([]++A),cS 5 F,cB true]:=
 h.of
