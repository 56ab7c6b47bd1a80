import Derived.Test.YtdkobdhckkjmeaaGreatRows
import Derived.Test.YtdkobdhckkjmeaaGreatGE
set_option linter.unusedVariables false
set_option linter.unusedSimpArgs false
namespace Go.Proofs.YtdkobdhckkjmeaaGreat
open Go.Sx Go.RowKit
variable {a b c d e f g i j k l : Int} {A C E F G H J K L M N P Q R S U V W : LL} {q r s t u v w x : Bool}
def qij(A C:LL)(a:Int):St:=
 { env:=envOf 26 [(0,vF 1 A),(1,vF 1 C),(5,vI a)],boxes:=[] }
theorem qOZ(h:Oo [.i A a [I b],.x C a [I c],.b (b != c) false,.u a]):
 Tp (qaa Tryz.f89 0) (qij A C a) .normal (qij A C (a+1)):=
 h.lp [5,0,1] []
def qtR:St:=
 { env:=envOf 26 [],boxes:=[] }
theorem qO0(h:Oo [.f A a false]):
 Tp (qaa Tryz.f89 0) (qij A C a) (.exit 0) qtR:=
 h.lp [] []
def y00(A C:LL)(l:List O):List O:=.b ((A.length:Int) != (C.length:Int)) false::l
theorem qO1(h:Oo (y00 A C [.l [] [5,0,1] [] (qaa Tryz.f89 0) (qij A C 0) (.exit 0) qtR])):
 Rt 89 [cS 1 A,cS 1 C] [cB true]:=
 h.of
def qik(A C:LL)(a:Int):St:=
 { env:=envOf 26 [(0,vF 1 A),(1,vF 1 C),(5,vI a)],boxes:=[] }
theorem qO2(h:Oo [.i A a [B q],.x C a [B r],.b (!q==r) false,.u a]):
 Tp (qaa Tryz.f206 0) (qik A C a) .normal (qik A C (a+1)):=
 h.lp [5,0,1] []
def qtS:St:=
 { env:=envOf 26 [],boxes:=[] }
theorem qO3(h:Oo [.f A a false]):
 Tp (qaa Tryz.f206 0) (qik A C a) (.exit 0) qtS:=
 h.lp [] []
theorem qO4(h:Oo (y00 A C [.l [] [5,0,1] [] (qaa Tryz.f206 0) (qik A C 0) (.exit 0) qtS])):
 Rt 206 [cS 1 A,cS 1 C] [cB true]:=
 h.of
def qil(A C:LL)(a:Int):St:=
 { env:=envOf 26 [(0,vF 2 A),(1,vF 2 C),(5,vI a)],boxes:=[] }
theorem qO5(h:Oo [.i A a [I b,B q],.x C a [I c,B r],.b (!(b==c&&q==r)) false,.u a]):
 Tp (qaa Tryz.f207 0) (qil A C a) .normal (qil A C (a+1)):=
 h.lp [5,0,1] []
def qtT:St:=
 { env:=envOf 26 [],boxes:=[] }
theorem qO6(h:Oo [.f A a false]):
 Tp (qaa Tryz.f207 0) (qil A C a) (.exit 0) qtT:=
 h.lp [] []
theorem qO7(h:Oo (y00 A C [.l [] [5,0,1] [] (qaa Tryz.f207 0) (qil A C 0) (.exit 0) qtT])):
 Rt 207 [cS 2 A,cS 2 C] [cB true]:=
 h.of
def qim(A C:LL)(a:Int):St:=
 { env:=envOf 26 [(0,vF 5 A),(1,vF 5 C),(5,vI a)],boxes:=[] }
theorem qO8(h:Oo [.i A a [B s,I c,I d,B t,B u],.x C a [B v,I e,I b,B q,B r],.b (!(s==v&&(c==e&&(d==b&&(t==q&&u==r))))) false,.u a]):
 Tp (qaa Tryz.f156 0) (qim A C a) .normal (qim A C (a+1)):=
 h.lp [5,0,1] []
def qtU:St:=
 { env:=envOf 26 [],boxes:=[] }
theorem qO9(h:Oo [.f A a false]):
 Tp (qaa Tryz.f156 0) (qim A C a) (.exit 0) qtU:=
 h.lp [] []
theorem qPa(h:Oo (y00 A C [.l [] [5,0,1] [] (qaa Tryz.f156 0) (qim A C 0) (.exit 0) qtU])):
 Rt 156 [cS 5 A,cS 5 C] [cB true]:=
 h.of
def qin(A C:LL)(a:Int):St:=
 { env:=envOf 26 [(0,vF 3 A),(1,vF 3 C),(5,vI a)],boxes:=[] }
theorem qPb(h:Oo [.i A a [I b,I c,B q],.x C a [I d,I e,B r],.b (!(b==d&&(c==e&&q==r))) false,.u a]):
 Tp (qaa Tryz.f157 0) (qin A C a) .normal (qin A C (a+1)):=
 h.lp [5,0,1] []
def qtV:St:=
 { env:=envOf 26 [],boxes:=[] }
theorem qPc(h:Oo [.f A a false]):
 Tp (qaa Tryz.f157 0) (qin A C a) (.exit 0) qtV:=
 h.lp [] []
theorem qPd(h:Oo (y00 A C [.l [] [5,0,1] [] (qaa Tryz.f157 0) (qin A C 0) (.exit 0) qtV])):
 Rt 157 [cS 3 A,cS 3 C] [cB true]:=
 h.of
theorem qPe(h:Oo [.b (a==d) true,.b (b==e) true,.b (c==f) true,.r 89 [cS 1 A,cS 1 C] [cB q]]):
 Rt 310 [.agg (nd a b c A),.agg (nd d e f C)] [cB q]:=
 h.of
def qio(A C:LL)(a:Int):St:=
 { env:=envOf 27 [(0,vF 4 A),(1,vF 4 C),(5,vI a)],boxes:=[] }
theorem qPf(h:Oo [.i A a (nd b c d F),.x C a (nd e f g E),.r 310 [.agg (nd b c d F),.agg (nd e f g E)] [cB q],.n q false,.u a]):
 Tp (qaa Tryz.f264 0) (qio A C a) .normal (qio A C (a+1)):=
 h.lp [5,0,1] []
def qtW:St:=
 { env:=envOf 27 [],boxes:=[] }
theorem qPg(h:Oo [.f A a false]):
 Tp (qaa Tryz.f264 0) (qio A C a) (.exit 0) qtW:=
 h.lp [] []
theorem qPh(h:Oo (y00 A C [.l [] [5,0,1] [] (qaa Tryz.f264 0) (qio A C 0) (.exit 0) qtW])):
 Rt 264 [cS 4 A,cS 4 C] [cB true]:=
 h.of
theorem qPi(h:Oo [.r 264 [cS 4 A,cS 4 C] [cB q],.b q true,.b (a==c) true]):
 Rt 153 [.agg (gr A a b),.agg (gr C c d)] [cB (b==d)]:=
 h.of
theorem qPj(h:Oo [.b (a==i) true,.r 58 [cS 5 A,cS 5 C] [cB q],.b q true,.b (d==j) true,.b (e==k) true,.b (f==b) true]):
 Rt 265 [.agg (lk a A d e f g),.agg (lk i C j k b c)] [cB (g==c)]:=
 h.of
def qip(A C:LL)(a:Int):St:=
 { env:=envOf 27 [(0,vF 6 A),(1,vF 6 C),(5,vI a)],boxes:=[] }
theorem qPk(h:Oo [.i A a (lk f F g i j k),.x C a (lk l E b c d e),.r 265 [.agg (lk f F g i j k),.agg (lk l E b c d e)] [cB q],.n q false,.u a]):
 Tp (qaa Tryz.f155 0) (qip A C a) .normal (qip A C (a+1)):=
 h.lp [5,0,1] []
def qtX:St:=
 { env:=envOf 27 [],boxes:=[] }
theorem qPl(h:Oo [.f A a false]):
 Tp (qaa Tryz.f155 0) (qip A C a) (.exit 0) qtX:=
 h.lp [] []
theorem qPm(h:Oo (y00 A C [.l [] [5,0,1] [] (qaa Tryz.f155 0) (qip A C 0) (.exit 0) qtX])):
 Rt 155 [cS 6 A,cS 6 C] [cB true]:=
 h.of
theorem qPn(h:Oo [.r 58 [cS 5 A,cS 5 S] [cB q],.b q true,.r 58 [cS 5 C,cS 5 U] [cB r],.b r true,.r 58 [cS 5 L,cS 5 E] [cB s],.b s true,.r 22 [cS 4 M,cS 4 F] [cB t],.b t true,.r 89 [cS 1 N,cS 1 G] [cB u],.b u true,.r 206 [cS 1 P,cS 1 H] [cB v],.b v true,.r 206 [cS 1 Q,cS 1 J] [cB w],.b w true,.r 207 [cS 2 R,cS 2 K] [cB x]]):
 Rt 79 [.agg (wk A C L M N P Q R),.agg (wk S U E F G H J K)] [cB x]:=
 h.of
def qiq(A C:LL)(a:Int):St:=
 { env:=envOf 27 [(0,vF 8 A),(1,vF 8 C),(5,vI a)],boxes:=[] }
theorem qPo(h:Oo [.i A a (wk P Q R S U V W E),.x C a (wk F G H J K L M N),.r 79 [.agg (wk P Q R S U V W E),.agg (wk F G H J K L M N)] [cB q],.n q false,.u a]):
 Tp (qaa Tryz.f154 0) (qiq A C a) .normal (qiq A C (a+1)):=
 h.lp [5,0,1] []
def qtY:St:=
 { env:=envOf 27 [],boxes:=[] }
theorem qPp(h:Oo [.f A a false]):
 Tp (qaa Tryz.f154 0) (qiq A C a) (.exit 0) qtY:=
 h.lp [] []
theorem qPq(h:Oo (y00 A C [.l [] [5,0,1] [] (qaa Tryz.f154 0) (qiq A C 0) (.exit 0) qtY])):
 Rt 154 [cS 8 A,cS 8 C] [cB true]:=
 h.of
theorem qPr(h:Oo [.r 153 [.agg (gr A a b),.agg (gr M c d)] [cB q],.b q true,.r 154 [cS 8 H,cS 8 C] [cB r],.b r true,.r 155 [cS 6 J,cS 6 E] [cB s],.b s true,.r 156 [cS 5 K,cS 5 F] [cB t],.b t true,.r 157 [cS 3 L,cS 3 G] [cB u]]):
 Rt 33 [.agg (cl A a b H J K L),.agg (cl M c d C E F G)] [cB u]:=
 h.of
end Go.Proofs.YtdkobdhckkjmeaaGreat
namespace Go.Proofs.YtdkobdhckkjmeaaGreat
open Go.Sx Go.RowKit
variable {a b c d e f g i j k l : Int} {A C E F G H J K L M N P Q R S U V W : LL} {q r s t u v w x : Bool}
def qir(A C:LL)(a:Int):St:=
 { env:=envOf 26 [(0,vF 5 A),(1,vF 5 C),(5,vI a)],boxes:=[] }
theorem qPs(h:Oo [.i A a (ri e f g i j),.x C a (ri k l b c d),.b (!(e==k&&(f==l&&g==b&&(i==c&&j==d)))) false,.u a]):
 Tp (qaa Tryz.f58 0) (qir A C a) .normal (qir A C (a+1)):=
 h.lp [5,0,1] []
def qtZ:St:=
 { env:=envOf 26 [],boxes:=[] }
theorem qPt(h:Oo [.f A a false]):
 Tp (qaa Tryz.f58 0) (qir A C a) (.exit 0) qtZ:=
 h.lp [] []
theorem qPu(h:Oo (y00 A C [.l [] [5,0,1] [] (qaa Tryz.f58 0) (qir A C 0) (.exit 0) qtZ])):
 Rt 58 [cS 5 A,cS 5 C] [cB true]:=
 h.of
def qis(A C:LL)(a:Int):St:=
 { env:=envOf 26 [(0,vF 4 A),(1,vF 4 C),(5,vI a)],boxes:=[] }
theorem qPv(h:Oo [.i A a [I c,I d,I e,I f],.x C a [I g,I i,I j,I b],.b (!(c==g&&(d==i&&(e==j&&f==b)))) false,.u a]):
 Tp (qaa Tryz.f22 0) (qis A C a) .normal (qis A C (a+1)):=
 h.lp [5,0,1] []
def qt0:St:=
 { env:=envOf 26 [],boxes:=[] }
theorem qPw(h:Oo [.f A a false]):
 Tp (qaa Tryz.f22 0) (qis A C a) (.exit 0) qt0:=
 h.lp [] []
theorem qPx(h:Oo (y00 A C [.l [] [5,0,1] [] (qaa Tryz.f22 0) (qis A C 0) (.exit 0) qt0])):
 Rt 22 [cS 4 A,cS 4 C] [cB true]:=
 h.of
