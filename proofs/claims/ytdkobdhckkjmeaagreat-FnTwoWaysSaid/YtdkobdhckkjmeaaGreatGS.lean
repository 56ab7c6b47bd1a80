import Derived.Test.YtdkobdhckkjmeaaGreatRows
import Derived.Test.YtdkobdhckkjmeaaGreatGE
set_option linter.unusedVariables false
set_option linter.unusedSimpArgs false
namespace Go.Proofs.YtdkobdhckkjmeaaGreat
open Go.Sx Go.RowKit
variable {a b c d e f g i j k l m n o : Int} {A C E F G : LL} {q r s t u v : Bool}
def y1Q(A:LL)(a b:Int)(q:Bool)(l:List O):List O:=.r 144 [.agg (gr A a b)] [cB q]::l
theorem qq0(h:Oo (y1Q A a b q [.n q true,.r 301 [cS 4 E] [cS 4 C]])):
 Rt 238 [.agg (gr A a b),cS 4 E,.agg (ri c d e f g)] [cS 4 C,cS 5 [],cB false]:=
 h.of
def y1R(A:LL)(a b:Int)(q:Bool)(c d e f g:Int)(r:Bool)(l:List O):List O:=y1Q A a b q (.n q false::.r 145 [.agg (ri c d e f g)] [cB r]::l)
theorem qq1(h:Oo (y1R A a b r c d e f g q [.n q true,.r 301 [cS 4 E] [cS 4 C]])):
 Rt 238 [.agg (gr A a b),cS 4 E,.agg (ri c d e f g)] [cS 4 C,cS 5 [],cB false]:=
 h.of
def y1S(A:LL)(a b:Int)(q:Bool)(c d e f g:Int)(r s:Bool)(l:List O):List O:=y1R A a b q c d e f g r (.n r false::.r 250 [.agg (gr A a b),cI c] [cB s]::l)
theorem qDW(h:Oo (y1S A a b s c d e f g q r [.n r true,.r 301 [cS 4 E] [cS 4 C]])):
 Rt 238 [.agg (gr A a b),cS 4 E,.agg (ri c d e f g)] [cS 4 C,cS 5 [],cB false]:=
 h.of
def y1T(A:LL)(a b:Int)(q:Bool)(c d e f g:Int)(r s:Bool)(i j k:Int)(C:LL)(l:List O):List O:=y1S A a b q c d e f g r s (.n s false::.x A c (nd i j k C)::l)
def y1U(A:LL)(a b:Int)(q:Bool)(c d e f g:Int)(r s:Bool)(i j k:Int)(C:LL)(m n:Int)(t:Bool)(l:List O):List O:=y1T A a b q c d e f g r s i j k C (.r 302 [.agg (nd i j k C),cI f,cI g] [cI m,cI n,cB t]::l)
theorem qDX(h:Oo (y1U A b d t a j k e f q r c g i C l m s [.n s true,.b (c != 8) true,.r 301 [cS 4 F] [cS 4 E]])):
 Rt 238 [.agg (gr A b d),cS 4 F,.agg (ri a j k e f)] [cS 4 E,cS 5 [],cB true]:=
 h.of
def y1V(A:LL)(a b:Int)(q:Bool)(c d e f g:Int)(r s:Bool)(i j k:Int)(C:LL)(m n:Int)(t:Bool)(E F:LL)(u:Bool)(l:List O):List O:=y1U A a b q c d e f g r s i j k C m n t (.n t true::.b (i != 8) false::.r 303 [cI i,cS 4 E,.agg [I c,I d,I f,I g]] [cS 4 F,cB u]::l)
theorem qDY(h:Oo (y1V A e f u a g k c d q r b i j C l m s F E t [.n t true])):
 Rt 238 [.agg (gr A e f),cS 4 F,.agg (ri a g k c d)] [cS 4 E,cS 5 [],cB true]:=
 h.of
def qdu(A:LL)(a b:Int)(C:LL)(c d:Int)(q:Bool)(e:Int)(E:LL):St:=
 { env:=envOf 111 [(10,vI a),(11,vI b),(13,PV.al (AL.one (lO 760000 4 C))),(14,vP 14),(15,.al (.one (.sb q))),(16,PV.al (AL.one (lO 107 5 E))),(93,vF 1 A),(94,vI (A.length:Int)),(95,vI e)],boxes:=[(14,[lI c,lI d])] }
theorem qDZ(h:Oo [.i A e [I f],.b q true,.g C [(ri f c d a b)] 40,.h [(ri f c d a b)],.u e]):
 Tp (qaa Tryz.f238 0) (qdu A a b E c d q e C) .normal (qdu A a b E c d q (e+1) (C++[(ri f c d a b)])):=
 h.lp [95,94,93,15,16,14,10,11,13] [14]
theorem qD0(h:Oo [.i A a [I f],.b q false,.u a]):
 Tp (qaa Tryz.f238 0) (qdu A b c C d e q a E) .normal (qdu A b c C d e q (a+1) E):=
 h.lp [95,94,93,15,16,14,10,11,13] [14]
def qeo(A C:LL):St:=
 { env:=envOf 111 [(13,PV.al (AL.one (lO 760000 4 A))),(16,PV.al (AL.one (lO 107 5 C)))],boxes:=[] }
theorem qq2(h:Oo [.f A a false]):
 Tp (qaa Tryz.f238 0) (qdu A b c C d e q a E) (.exit 0) (qeo C E):=
 h.lp [13,16] []
theorem qD1(h:Oo (y1V A f g v b c i d e q r a j k E l m s G C t [.n t false,.b (a==7) true,.r 304 [.agg [I c,I i]] [.agg [I n,I o],cB u],.l [(16,107,5)] [95,94,93,15,16,14,10,11,13] [14] (qaa Tryz.f238 0) (qdu E l m C n o u 0 []) (.exit 0) (qeo C F)])):
 Rt 238 [.agg (gr A f g),cS 4 G,.agg (ri b c i d e)] [cS 4 C,cS 5 F,cB true]:=
 h.of
def qfr(a b:Int)(A:LL)(c d:Int)(C:LL)(e:Int)(E:LL):St:=
 { env:=envOf 111 [(10,vI c),(11,vI d),(13,PV.al (AL.one (lO 760000 4 C))),(14,vP 14),(15,.al (.one (.sb true))),(16,PV.al (AL.one (lO 107 5 E))),(93,vF 1 A),(94,vI (A.length:Int)),(95,vI e)],boxes:=[(14,[lI a,lI b])] }
theorem qD2(h:Oo [.i A e [I f],.b true true,.g C [(ri f c d a b)] 40,.h [(ri f c d a b)],.u e]):
 Tp (qaa Tryz.f238 0) (qfr c d A a b E e C) .normal (qfr c d A a b E (e+1) (C++[(ri f c d a b)])):=
 h.lp [95,94,93,15,16,14,10,11,13] [14]
theorem qD3(h:Oo [.f A a false]):
 Tp (qaa Tryz.f238 0) (qfr d e A b c C a E) (.exit 0) (qeo C E):=
 h.lp [13,16] []
theorem qD4(h:Oo (y1V A f g u b c i d e q r a j k E l m s G C t [.n t false,.b (a==7) false,.l [(16,107,5)] [95,94,93,15,16,14,10,11,13] [14] (qaa Tryz.f238 0) (qfr c i E l m C 0 []) (.exit 0) (qeo C F)])):
 Rt 238 [.agg (gr A f g),cS 4 G,.agg (ri b c i d e)] [cS 4 C,cS 5 F,cB true]:=
 h.of
theorem qD5(h:Oo (y1U A d f u a g k b c q r e i j C l m s [.n s false,.r 303 [cI e,cS 4 F,.agg [I a,I g,I b,I c]] [cS 4 E,cB t],.n t true])):
 Rt 238 [.agg (gr A d f),cS 4 F,.agg (ri a g k b c)] [cS 4 E,cS 5 [],cB true]:=
 h.of
theorem qD6(h:Oo (y1U A f g v a c i d e q r b j k E l m s [.n s false,.r 303 [cI b,cS 4 G,.agg [I a,I c,I d,I e]] [cS 4 C,cB t],.n t false,.b (b==7) true,.r 304 [.agg [I c,I i]] [.agg [I n,I o],cB u],.l [(16,107,5)] [95,94,93,15,16,14,10,11,13] [14] (qaa Tryz.f238 0) (qdu E l m C n o u 0 []) (.exit 0) (qeo C F)])):
 Rt 238 [.agg (gr A f g),cS 4 G,.agg (ri a c i d e)] [cS 4 C,cS 5 F,cB true]:=
 h.of
theorem qD7(h:Oo (y1U A f g u a c i d e q r b j k E l m s [.n s false,.r 303 [cI b,cS 4 G,.agg [I a,I c,I d,I e]] [cS 4 C,cB t],.n t false,.b (b==7) false,.l [(16,107,5)] [95,94,93,15,16,14,10,11,13] [14] (qaa Tryz.f238 0) (qfr c i E l m C 0 []) (.exit 0) (qeo C F)])):
 Rt 238 [.agg (gr A f g),cS 4 G,.agg (ri a c i d e)] [cS 4 C,cS 5 F,cB true]:=
 h.of
theorem qD8(h:Oo (y1Q A a b q [.n q true])):
 Rt 292 [.agg (gr A a b),.agg (ri c d e f g)] [cB false]:=
 h.of
theorem qD9(h:Oo (y1R A a b q c d e f g r [.n r true])):
 Rt 292 [.agg (gr A a b),.agg (ri c d e f g)] [cB false]:=
 h.of
theorem qEa(h:Oo (y1S A a b r c d e f g s q [.n q true])):
 Rt 292 [.agg (gr A a b),.agg (ri c d e f g)] [cB false]:=
 h.of
theorem qEb(h:Oo (y1T A b c s a d e g i t q f j k C [.r 304 [.agg [I d,I e]] [.agg [I l,I m],cB r],.b (f==7) true,.b (decide ((C.length:Int)>0)) true])):
 Rt 292 [.agg (gr A b c),.agg (ri a d e g i)] [.one (B !r)]:=
 h.of
theorem qEc(h:Oo (y1T A b c r a d e g i s q f j k C [.r 304 [.agg [I d,I e]] [.agg [I l,I m],cB t],.b (f==7) true,.b (decide ((C.length:Int)>0)) false])):
 Rt 292 [.agg (gr A b c),.agg (ri a d e g i)] [cB false]:=
 h.of
theorem qEd(h:Oo (y1T A b c r a d e g i s q f j k C [.r 304 [.agg [I d,I e]] [.agg [I l,I m],cB t],.b (f==7) false])):
 Rt 292 [.agg (gr A b c),.agg (ri a d e g i)] [cB false]:=
 h.of
end Go.Proofs.YtdkobdhckkjmeaaGreat
