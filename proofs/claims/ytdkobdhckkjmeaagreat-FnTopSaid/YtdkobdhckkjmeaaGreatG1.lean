import Derived.Test.YtdkobdhckkjmeaaGreatRows
import Derived.Test.YtdkobdhckkjmeaaGreatGE
set_option linter.unusedVariables false
set_option linter.unusedSimpArgs false
namespace Go.Proofs.YtdkobdhckkjmeaaGreat
open Go.Sx Go.RowKit
variable {a b c d e f g i j k l : Int} {A C E F G H J K L M N P Q R S U V W : LL} {q r s t u v w x : Bool}
def qib(A C:LL)(a:Int):St:=
 { env:=envOf 26 [(0,vF 1 A),(1,vF 1 C),(5,vI a)],boxes:=[] }
theorem qLJ(h:Oo [.i A a [I b],.x C a [I c],.b (b != c) false,.u a]):
 Tp (qaa Tryz.f89 0) (qib A C a) .normal (qib A C (a+1)):=
 h.lp [5,0,1] []
def qsR:St:=
 { env:=envOf 26 [],boxes:=[] }
theorem qLK(h:Oo [.f A a false]):
 Tp (qaa Tryz.f89 0) (qib A C a) (.exit 0) qsR:=
 h.lp [] []
def y00(A C:LL)(l:List O):List O:=.b ((A.length:Int) != (C.length:Int)) false::l
theorem qLL(h:Oo (y00 A C [.l [] [5,0,1] [] (qaa Tryz.f89 0) (qib A C 0) (.exit 0) qsR])):
 Rt 89 [cS 1 A,cS 1 C] [cB true]:=
 h.of
def qic(A C:LL)(a:Int):St:=
 { env:=envOf 26 [(0,vF 1 A),(1,vF 1 C),(5,vI a)],boxes:=[] }
theorem qLM(h:Oo [.i A a [B q],.x C a [B r],.b (!q==r) false,.u a]):
 Tp (qaa Tryz.f206 0) (qic A C a) .normal (qic A C (a+1)):=
 h.lp [5,0,1] []
def qsS:St:=
 { env:=envOf 26 [],boxes:=[] }
theorem qLN(h:Oo [.f A a false]):
 Tp (qaa Tryz.f206 0) (qic A C a) (.exit 0) qsS:=
 h.lp [] []
theorem qLO(h:Oo (y00 A C [.l [] [5,0,1] [] (qaa Tryz.f206 0) (qic A C 0) (.exit 0) qsS])):
 Rt 206 [cS 1 A,cS 1 C] [cB true]:=
 h.of
def qid(A C:LL)(a:Int):St:=
 { env:=envOf 26 [(0,vF 2 A),(1,vF 2 C),(5,vI a)],boxes:=[] }
theorem qLP(h:Oo [.i A a [I b,B q],.x C a [I c,B r],.b (!(b==c&&q==r)) false,.u a]):
 Tp (qaa Tryz.f207 0) (qid A C a) .normal (qid A C (a+1)):=
 h.lp [5,0,1] []
def qsT:St:=
 { env:=envOf 26 [],boxes:=[] }
theorem qLQ(h:Oo [.f A a false]):
 Tp (qaa Tryz.f207 0) (qid A C a) (.exit 0) qsT:=
 h.lp [] []
theorem qLR(h:Oo (y00 A C [.l [] [5,0,1] [] (qaa Tryz.f207 0) (qid A C 0) (.exit 0) qsT])):
 Rt 207 [cS 2 A,cS 2 C] [cB true]:=
 h.of
def qie(A C:LL)(a:Int):St:=
 { env:=envOf 26 [(0,vF 5 A),(1,vF 5 C),(5,vI a)],boxes:=[] }
theorem qLS(h:Oo [.i A a [B s,I c,I d,B t,B u],.x C a [B v,I e,I b,B q,B r],.b (!(s==v&&(c==e&&(d==b&&(t==q&&u==r))))) false,.u a]):
 Tp (qaa Tryz.f156 0) (qie A C a) .normal (qie A C (a+1)):=
 h.lp [5,0,1] []
def qsU:St:=
 { env:=envOf 26 [],boxes:=[] }
theorem qLT(h:Oo [.f A a false]):
 Tp (qaa Tryz.f156 0) (qie A C a) (.exit 0) qsU:=
 h.lp [] []
theorem qLU(h:Oo (y00 A C [.l [] [5,0,1] [] (qaa Tryz.f156 0) (qie A C 0) (.exit 0) qsU])):
 Rt 156 [cS 5 A,cS 5 C] [cB true]:=
 h.of
def qif(A C:LL)(a:Int):St:=
 { env:=envOf 26 [(0,vF 3 A),(1,vF 3 C),(5,vI a)],boxes:=[] }
theorem qLV(h:Oo [.i A a [I b,I c,B q],.x C a [I d,I e,B r],.b (!(b==d&&(c==e&&q==r))) false,.u a]):
 Tp (qaa Tryz.f157 0) (qif A C a) .normal (qif A C (a+1)):=
 h.lp [5,0,1] []
def qsV:St:=
 { env:=envOf 26 [],boxes:=[] }
theorem qLW(h:Oo [.f A a false]):
 Tp (qaa Tryz.f157 0) (qif A C a) (.exit 0) qsV:=
 h.lp [] []
theorem qLX(h:Oo (y00 A C [.l [] [5,0,1] [] (qaa Tryz.f157 0) (qif A C 0) (.exit 0) qsV])):
 Rt 157 [cS 3 A,cS 3 C] [cB true]:=
 h.of
theorem qLY(h:Oo [.b (a==d) true,.b (b==e) true,.b (c==f) true,.r 89 [cS 1 A,cS 1 C] [cB q]]):
 Rt 310 [.agg (nd a b c A),.agg (nd d e f C)] [cB q]:=
 h.of
def qig(A C:LL)(a:Int):St:=
 { env:=envOf 27 [(0,vF 4 A),(1,vF 4 C),(5,vI a)],boxes:=[] }
theorem qLZ(h:Oo [.i A a (nd b c d F),.x C a (nd e f g E),.r 310 [.agg (nd b c d F),.agg (nd e f g E)] [cB q],.n q false,.u a]):
 Tp (qaa Tryz.f264 0) (qig A C a) .normal (qig A C (a+1)):=
 h.lp [5,0,1] []
def qsW:St:=
 { env:=envOf 27 [],boxes:=[] }
theorem qL0(h:Oo [.f A a false]):
 Tp (qaa Tryz.f264 0) (qig A C a) (.exit 0) qsW:=
 h.lp [] []
theorem qL1(h:Oo (y00 A C [.l [] [5,0,1] [] (qaa Tryz.f264 0) (qig A C 0) (.exit 0) qsW])):
 Rt 264 [cS 4 A,cS 4 C] [cB true]:=
 h.of
theorem qL2(h:Oo [.r 264 [cS 4 A,cS 4 C] [cB q],.b q true,.b (a==c) true]):
 Rt 153 [.agg (gr A a b),.agg (gr C c d)] [cB (b==d)]:=
 h.of
theorem qL3(h:Oo [.b (a==i) true,.r 58 [cS 5 A,cS 5 C] [cB q],.b q true,.b (d==j) true,.b (e==k) true,.b (f==b) true]):
 Rt 265 [.agg (lk a A d e f g),.agg (lk i C j k b c)] [cB (g==c)]:=
 h.of
def qih(A C:LL)(a:Int):St:=
 { env:=envOf 27 [(0,vF 6 A),(1,vF 6 C),(5,vI a)],boxes:=[] }
theorem qL4(h:Oo [.i A a (lk f F g i j k),.x C a (lk l E b c d e),.r 265 [.agg (lk f F g i j k),.agg (lk l E b c d e)] [cB q],.n q false,.u a]):
 Tp (qaa Tryz.f155 0) (qih A C a) .normal (qih A C (a+1)):=
 h.lp [5,0,1] []
def qsX:St:=
 { env:=envOf 27 [],boxes:=[] }
theorem qL5(h:Oo [.f A a false]):
 Tp (qaa Tryz.f155 0) (qih A C a) (.exit 0) qsX:=
 h.lp [] []
theorem qL6(h:Oo (y00 A C [.l [] [5,0,1] [] (qaa Tryz.f155 0) (qih A C 0) (.exit 0) qsX])):
 Rt 155 [cS 6 A,cS 6 C] [cB true]:=
 h.of
theorem qL7(h:Oo [.r 58 [cS 5 A,cS 5 S] [cB q],.b q true,.r 58 [cS 5 C,cS 5 U] [cB r],.b r true,.r 58 [cS 5 L,cS 5 E] [cB s],.b s true,.r 22 [cS 4 M,cS 4 F] [cB t],.b t true,.r 89 [cS 1 N,cS 1 G] [cB u],.b u true,.r 206 [cS 1 P,cS 1 H] [cB v],.b v true,.r 206 [cS 1 Q,cS 1 J] [cB w],.b w true,.r 207 [cS 2 R,cS 2 K] [cB x]]):
 Rt 79 [.agg (wk A C L M N P Q R),.agg (wk S U E F G H J K)] [cB x]:=
 h.of
def qii(A C:LL)(a:Int):St:=
 { env:=envOf 27 [(0,vF 8 A),(1,vF 8 C),(5,vI a)],boxes:=[] }
theorem qL8(h:Oo [.i A a (wk P Q R S U V W E),.x C a (wk F G H J K L M N),.r 79 [.agg (wk P Q R S U V W E),.agg (wk F G H J K L M N)] [cB q],.n q false,.u a]):
 Tp (qaa Tryz.f154 0) (qii A C a) .normal (qii A C (a+1)):=
 h.lp [5,0,1] []
def qsY:St:=
 { env:=envOf 27 [],boxes:=[] }
theorem qL9(h:Oo [.f A a false]):
 Tp (qaa Tryz.f154 0) (qii A C a) (.exit 0) qsY:=
 h.lp [] []
theorem qMa(h:Oo (y00 A C [.l [] [5,0,1] [] (qaa Tryz.f154 0) (qii A C 0) (.exit 0) qsY])):
 Rt 154 [cS 8 A,cS 8 C] [cB true]:=
 h.of
theorem qMb(h:Oo [.r 153 [.agg (gr A a b),.agg (gr M c d)] [cB q],.b q true,.r 154 [cS 8 H,cS 8 C] [cB r],.b r true,.r 155 [cS 6 J,cS 6 E] [cB s],.b s true,.r 156 [cS 5 K,cS 5 F] [cB t],.b t true,.r 157 [cS 3 L,cS 3 G] [cB u]]):
 Rt 33 [.agg (cl A a b H J K L),.agg (cl M c d C E F G)] [cB u]:=
 h.of
end Go.Proofs.YtdkobdhckkjmeaaGreat
namespace Go.Proofs.YtdkobdhckkjmeaaGreat
open Go.Sx Go.RowKit
variable {a b c d e f g i j k l : Int} {A C E F G H J K L M N P Q R S U V W : LL} {q r s t u v w x : Bool}
def qij(A C:LL)(a:Int):St:=
 { env:=envOf 26 [(0,vF 5 A),(1,vF 5 C),(5,vI a)],boxes:=[] }
theorem qMc(h:Oo [.i A a (ri e f g i j),.x C a (ri k l b c d),.b (!(e==k&&(f==l&&g==b&&(i==c&&j==d)))) false,.u a]):
 Tp (qaa Tryz.f58 0) (qij A C a) .normal (qij A C (a+1)):=
 h.lp [5,0,1] []
def qsZ:St:=
 { env:=envOf 26 [],boxes:=[] }
theorem qMd(h:Oo [.f A a false]):
 Tp (qaa Tryz.f58 0) (qij A C a) (.exit 0) qsZ:=
 h.lp [] []
theorem qMe(h:Oo (y00 A C [.l [] [5,0,1] [] (qaa Tryz.f58 0) (qij A C 0) (.exit 0) qsZ])):
 Rt 58 [cS 5 A,cS 5 C] [cB true]:=
 h.of
def qik(A C:LL)(a:Int):St:=
 { env:=envOf 26 [(0,vF 4 A),(1,vF 4 C),(5,vI a)],boxes:=[] }
theorem qMf(h:Oo [.i A a [I c,I d,I e,I f],.x C a [I g,I i,I j,I b],.b (!(c==g&&(d==i&&(e==j&&f==b)))) false,.u a]):
 Tp (qaa Tryz.f22 0) (qik A C a) .normal (qik A C (a+1)):=
 h.lp [5,0,1] []
def qs0:St:=
 { env:=envOf 26 [],boxes:=[] }
theorem qMg(h:Oo [.f A a false]):
 Tp (qaa Tryz.f22 0) (qik A C a) (.exit 0) qs0:=
 h.lp [] []
theorem qMh(h:Oo (y00 A C [.l [] [5,0,1] [] (qaa Tryz.f22 0) (qik A C 0) (.exit 0) qs0])):
 Rt 22 [cS 4 A,cS 4 C] [cB true]:=
 h.of
end Go.Proofs.YtdkobdhckkjmeaaGreat
