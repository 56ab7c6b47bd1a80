import Derived.Test.YtdkobdhckkjmeaaGreatRows
import Derived.Test.YtdkobdhckkjmeaaGreatGE
set_option linter.unusedVariables false
set_option linter.unusedSimpArgs false
namespace Go.Proofs.YtdkobdhckkjmeaaGreat
open Go.Sx Go.RowKit
variable {a b c d e f g : Int} {A : LL} {q r s t : Bool}
def y0z(a:Int)(l:List O):List O:=.b (a==2) true::l
def y0A(a b:Int)(q r:Bool)(l:List O):List O:=y0z a (.r 167 [cI b,cI 0,cI 999] [cB q]::.r 167 [cI a,cI 1,cI 8] [cB r]::l)
theorem qEA(h:Oo (y0A a b r q [.n q true])):
 Rt 243 [.agg (nd a b c A)] [cB false]:=
 h.of
def y0B(a b:Int)(q r:Bool)(l:List O):List O:=y0A a b q r (.n r false::l)
theorem qEB(h:Oo (y0B a b q r [.n q true])):
 Rt 243 [.agg (nd a b c A)] [cB false]:=
 h.of
theorem qEC(h:Oo (y0B a b q r [.n q false,.b (!c==0) true])):
 Rt 243 [.agg (nd a b c A)] [cB false]:=
 h.of
def y0C(a b:Int)(q r:Bool)(c:Int)(l:List O):List O:=y0B a b q r (.n q false::.b (!c==0) false::l)
theorem qED(h:Oo (y0C a b q r c [.b (decide ((A.length:Int)>2)) true])):
 Rt 243 [.agg (nd a b c A)] [cB false]:=
 h.of
def y0D(a b:Int)(q r:Bool)(c:Int)(A:LL)(l:List O):List O:=y0C a b q r c (.b (decide ((A.length:Int)>2)) false::l)
theorem qEE(h:Oo (y0D a b q r c A [.b (a==8) true,.b (decide ((A.length:Int)>0)) true])):
 Rt 243 [.agg (nd a b c A)] [cB false]:=
 h.of
def qbe(a b c:Int)(A:LL)(d:Int):St:=
 { env:=envOf 93 [(1,vP 1),(5,vI d)],boxes:=[(1,[lI a,lI b,lI c,.sl .free 1 A])] }
def qc8(q:Bool):St:=
 { env:=envOf 93 [(2,.al (.one (.sb q)))],boxes:=[] }
def y0L(A:LL)(a b:Int)(q:Bool)(l:List O):List O:=.i A a [I b]::.r 167 [cI b,cI 0,cI 7] [cB q]::l
theorem qmR(h:Oo (y0L A a b q [.n q true])):
 Tp (qaa Tryz.f243 0) (qbe c d e A a) .ret (qc8 false):=
 h.lp [2] []
def y0M(A:LL)(a b:Int)(q:Bool)(c d:Int)(l:List O):List O:=y0L A a b q (.n q false::.b (decide (a>0)) true::.p ((0:Int)≤0)::.p (0<(A.length:Int))::.e A 0 [I c]::.p ((0:Int)≤1)::.p (1<(A.length:Int))::.e A 1 [I d]::l)
theorem qEF(h:Oo (y0M A a c q d b [.b (d==b) true])):
 Tp (qaa Tryz.f243 0) (qbe e f g A a) .ret (qc8 false):=
 h.lp [2] []
theorem qEG(h:Oo (y0M A a f q g d [.b (g==d) false,.u a])):
 Tp (qaa Tryz.f243 0) (qbe b c e A a) .normal (qbe b c e A (a+1)):=
 h.lp [5,1] [1]
theorem qrf(h:Oo (y0L A a e q [.n q false,.b (decide (a>0)) false,.u a])):
 Tp (qaa Tryz.f243 0) (qbe b c d A a) .normal (qbe b c d A (a+1)):=
 h.lp [5,1] [1]
def qdy:St:=
 { env:=envOf 93 [],boxes:=[] }
theorem qmS(h:Oo [.f A a false]):
 Tp (qaa Tryz.f243 0) (qbe b c d A a) (.exit 1) qdy:=
 h.lp [] []
theorem qEH(h:Oo (y0D a b q r c A [.b (a==8) true,.b (decide ((A.length:Int)>0)) false,.l [] [5,1] [1] (qaa Tryz.f243 0) (qbe a b c A 0) .ret (qc8 s)])):
 Rt 243 [.agg (nd a b c A)] [cB s]:=
 h.of
theorem qEI(h:Oo (y0D a b q r c A [.b (a==8) true,.b (decide ((A.length:Int)>0)) false,.l [] [5,1] [1] (qaa Tryz.f243 0) (qbe a b c A 0) (.exit 1) qdy])):
 Rt 243 [.agg (nd a b c A)] [cB true]:=
 h.of
theorem qEJ(h:Oo (y0D a b q r c A [.b (a==8) false,.l [] [5,1] [1] (qaa Tryz.f243 0) (qbe a b c A 0) .ret (qc8 s)])):
 Rt 243 [.agg (nd a b c A)] [cB s]:=
 h.of
theorem qEK(h:Oo (y0D a b q r c A [.b (a==8) false,.l [] [5,1] [1] (qaa Tryz.f243 0) (qbe a b c A 0) (.exit 1) qdy])):
 Rt 243 [.agg (nd a b c A)] [cB true]:=
 h.of
def y0N(a:Int)(l:List O):List O:=.b (a==2) false::l
def y0O(a:Int)(l:List O):List O:=y0N a (.b (a==3) true::l)
def y0P(a b:Int)(q:Bool)(c:Int)(r s:Bool)(l:List O):List O:=y0O a (.r 167 [cI b,cI 1,cI 10] [cB q]::.a .wr::.r 167 [cI c,cI 0,cI (IntKind.i64.wrap (b-1))] [cB r]::.r 167 [cI a,cI 1,cI 8] [cB s]::l)
theorem qEL(h:Oo (y0P a b r c s q [.n q true])):
 Rt 243 [.agg (nd a b c A)] [cB false]:=
 h.of
theorem qEM(h:Oo (y0P a b q c s r [.n r false,.n q true])):
 Rt 243 [.agg (nd a b c A)] [cB false]:=
 h.of
def y0Q(a b:Int)(q:Bool)(c:Int)(r s:Bool)(l:List O):List O:=y0P a b q c r s (.n s false::.n q false::l)
theorem qEN(h:Oo (y0Q a b q c r s [.n r true])):
 Rt 243 [.agg (nd a b c A)] [cB false]:=
 h.of
theorem qEO(h:Oo (y0Q a b q c r s [.n r false,.b (decide ((A.length:Int)>2)) true])):
 Rt 243 [.agg (nd a b c A)] [cB false]:=
 h.of
def y0R(a b:Int)(q:Bool)(c:Int)(r s:Bool)(A:LL)(l:List O):List O:=y0Q a b q c r s (.n r false::.b (decide ((A.length:Int)>2)) false::l)
theorem qEP(h:Oo (y0R a b q c r s A [.b (a==8) true,.b (decide ((A.length:Int)>0)) true])):
 Rt 243 [.agg (nd a b c A)] [cB false]:=
 h.of
theorem qEQ(h:Oo (y0R a b q c r s A [.b (a==8) true,.b (decide ((A.length:Int)>0)) false,.l [] [5,1] [1] (qaa Tryz.f243 0) (qbe a b c A 0) .ret (qc8 t)])):
 Rt 243 [.agg (nd a b c A)] [cB t]:=
 h.of
theorem qER(h:Oo (y0R a b q c r s A [.b (a==8) true,.b (decide ((A.length:Int)>0)) false,.l [] [5,1] [1] (qaa Tryz.f243 0) (qbe a b c A 0) (.exit 1) qdy])):
 Rt 243 [.agg (nd a b c A)] [cB true]:=
 h.of
theorem qES(h:Oo (y0R a b q c r s A [.b (a==8) false,.l [] [5,1] [1] (qaa Tryz.f243 0) (qbe a b c A 0) .ret (qc8 t)])):
 Rt 243 [.agg (nd a b c A)] [cB t]:=
 h.of
theorem qET(h:Oo (y0R a b q c r s A [.b (a==8) false,.l [] [5,1] [1] (qaa Tryz.f243 0) (qbe a b c A 0) (.exit 1) qdy])):
 Rt 243 [.agg (nd a b c A)] [cB true]:=
 h.of
def y0Z(a:Int)(l:List O):List O:=y0N a (.b (a==3) false::l)
def y10(a:Int)(l:List O):List O:=y0Z a (.b (a==4) true::l)
def y11(a b:Int)(q r:Bool)(l:List O):List O:=y10 a (.r 167 [cI b,cI 0,cI 99] [cB q]::.r 167 [cI a,cI 1,cI 8] [cB r]::l)
theorem qEU(h:Oo (y11 a b r q [.n q true])):
 Rt 243 [.agg (nd a b c A)] [cB false]:=
 h.of
def y12(a b:Int)(q r:Bool)(l:List O):List O:=y11 a b q r (.n r false::l)
theorem qEV(h:Oo (y12 a b q r [.n q true])):
 Rt 243 [.agg (nd a b c A)] [cB false]:=
 h.of
theorem qEW(h:Oo (y12 a b q r [.n q false,.b (!c==0) true])):
 Rt 243 [.agg (nd a b c A)] [cB false]:=
 h.of
def y13(a b:Int)(q r:Bool)(c:Int)(l:List O):List O:=y12 a b q r (.n q false::.b (!c==0) false::l)
theorem qEX(h:Oo (y13 a b q r c [.b (decide ((A.length:Int)>2)) true])):
 Rt 243 [.agg (nd a b c A)] [cB false]:=
 h.of
def y14(a b:Int)(q r:Bool)(c:Int)(A:LL)(l:List O):List O:=y13 a b q r c (.b (decide ((A.length:Int)>2)) false::l)
theorem qEY(h:Oo (y14 a b q r c A [.b (a==8) true,.b (decide ((A.length:Int)>0)) true])):
 Rt 243 [.agg (nd a b c A)] [cB false]:=
 h.of
theorem qEZ(h:Oo (y14 a b q r c A [.b (a==8) true,.b (decide ((A.length:Int)>0)) false,.l [] [5,1] [1] (qaa Tryz.f243 0) (qbe a b c A 0) .ret (qc8 s)])):
 Rt 243 [.agg (nd a b c A)] [cB s]:=
 h.of
theorem qE0(h:Oo (y14 a b q r c A [.b (a==8) true,.b (decide ((A.length:Int)>0)) false,.l [] [5,1] [1] (qaa Tryz.f243 0) (qbe a b c A 0) (.exit 1) qdy])):
 Rt 243 [.agg (nd a b c A)] [cB true]:=
 h.of
theorem qE1(h:Oo (y14 a b q r c A [.b (a==8) false,.l [] [5,1] [1] (qaa Tryz.f243 0) (qbe a b c A 0) .ret (qc8 s)])):
 Rt 243 [.agg (nd a b c A)] [cB s]:=
 h.of
theorem qE2(h:Oo (y14 a b q r c A [.b (a==8) false,.l [] [5,1] [1] (qaa Tryz.f243 0) (qbe a b c A 0) (.exit 1) qdy])):
 Rt 243 [.agg (nd a b c A)] [cB true]:=
 h.of
def y1c(a:Int)(l:List O):List O:=y0Z a (.b (a==4) false::l)
def y1d(a:Int)(q:Bool)(l:List O):List O:=y1c a (.r 167 [cI a,cI 1,cI 8] [cB q]::l)
theorem qE3(h:Oo (y1d a q [.n q true])):
 Rt 243 [.agg (nd a b c A)] [cB false]:=
 h.of
def y1e(a:Int)(q:Bool)(l:List O):List O:=y1d a q (.n q false::l)
theorem qE4(h:Oo (y1e a q [.b (!b==0) true])):
 Rt 243 [.agg (nd a b c A)] [cB false]:=
 h.of
def y1f(a:Int)(q:Bool)(b:Int)(l:List O):List O:=y1e a q (.b (!b==0) false::l)
theorem qE5(h:Oo (y1f a q b [.b (!c==0) true])):
 Rt 243 [.agg (nd a b c A)] [cB false]:=
 h.of
def y1g(a:Int)(q:Bool)(b c:Int)(l:List O):List O:=y1f a q b (.b (!c==0) false::l)
theorem qE6(h:Oo (y1g a q b c [.b (decide ((A.length:Int)>2)) true])):
 Rt 243 [.agg (nd a b c A)] [cB false]:=
 h.of
def y1h(a:Int)(q:Bool)(b c:Int)(A:LL)(l:List O):List O:=y1g a q b c (.b (decide ((A.length:Int)>2)) false::l)
theorem qE7(h:Oo (y1h a q b c A [.b (a==8) true,.b (decide ((A.length:Int)>0)) true])):
 Rt 243 [.agg (nd a b c A)] [cB false]:=
 h.of
theorem qE8(h:Oo (y1h a q b c A [.b (a==8) true,.b (decide ((A.length:Int)>0)) false,.l [] [5,1] [1] (qaa Tryz.f243 0) (qbe a b c A 0) .ret (qc8 r)])):
 Rt 243 [.agg (nd a b c A)] [cB r]:=
 h.of
theorem qE9(h:Oo (y1h a q b c A [.b (a==8) true,.b (decide ((A.length:Int)>0)) false,.l [] [5,1] [1] (qaa Tryz.f243 0) (qbe a b c A 0) (.exit 1) qdy])):
 Rt 243 [.agg (nd a b c A)] [cB true]:=
 h.of
theorem qFa(h:Oo (y1h a q b c A [.b (a==8) false,.l [] [5,1] [1] (qaa Tryz.f243 0) (qbe a b c A 0) .ret (qc8 r)])):
 Rt 243 [.agg (nd a b c A)] [cB r]:=
 h.of
theorem qFb(h:Oo (y1h a q b c A [.b (a==8) false,.l [] [5,1] [1] (qaa Tryz.f243 0) (qbe a b c A 0) (.exit 1) qdy])):
 Rt 243 [.agg (nd a b c A)] [cB true]:=
 h.of
def y0E(a b:Int)(q:Bool)(l:List O):List O:=y0z a (.r 158 [cI b,cI 0,cI 999] [cB q]::l)
theorem qFc(h:Oo (y0E a b q [.n q true])):
 Rt 255 [.agg (nd a b c A)] [cB false]:=
 h.of
def y0F(a b:Int)(q:Bool)(l:List O):List O:=y0E a b q (.n q false::l)
theorem qFd(h:Oo (y0F a b q [.b (c != 0) true])):
 Rt 255 [.agg (nd a b c A)] [cB false]:=
 h.of
def y0G(a b:Int)(q:Bool)(c:Int)(l:List O):List O:=y0F a b q (.b (c != 0) false::l)
theorem qFe(h:Oo (y0G a b q c [.b (decide ((A.length:Int)>2)) true])):
 Rt 255 [.agg (nd a b c A)] [cB false]:=
 h.of
def y0H(a b:Int)(q:Bool)(c:Int)(A:LL)(l:List O):List O:=y0G a b q c (.b (decide ((A.length:Int)>2)) false::l)
theorem qFf(h:Oo (y0H a b q c A [.b (a==8) true,.b (decide ((A.length:Int)>0)) true])):
 Rt 255 [.agg (nd a b c A)] [cB false]:=
 h.of
def y0I(a b:Int)(q:Bool)(c:Int)(A:LL)(l:List O):List O:=y0H a b q c A (.b (a==8) true::.b (decide ((A.length:Int)>0)) false::l)
def y0J(a b:Int)(q:Bool)(c:Int)(A:LL)(d e:Int)(l:List O):List O:=y0I a b q c A (.b ((A.length:Int)==2) true::.p ((0:Int)≤0)::.p (0<(A.length:Int))::.e A 0 [I d]::.p ((0:Int)≤1)::.p (1<(A.length:Int))::.e A 1 [I e]::l)
theorem qFg(h:Oo (y0J a b q c A d e [.b (d==e) true])):
 Rt 255 [.agg (nd a b c A)] [cB false]:=
 h.of
def qar(A:LL)(a:Int):St:=
 { env:=envOf 101 [(91,vF 1 A),(92,vI (A.length:Int)),(93,vI a)],boxes:=[] }
def qa3(q:Bool):St:=
 { env:=envOf 101 [(2,.al (.one (.sb q)))],boxes:=[] }
theorem qFh(h:Oo [.i A a [I b],.r 158 [cI b,cI 0,cI 7] [cB q],.n q true]):
 Tp (qaa Tryz.f255 0) (qar A a) .ret (qa3 false):=
 h.lp [2] []
theorem qFi(h:Oo [.i A a [I b],.r 158 [cI b,cI 0,cI 7] [cB q],.n q false,.u a]):
 Tp (qaa Tryz.f255 0) (qar A a) .normal (qar A (a+1)):=
 h.lp [93,92,91] []
def qa6:St:=
 { env:=envOf 101 [],boxes:=[] }
theorem qFj(h:Oo [.f A a false]):
 Tp (qaa Tryz.f255 0) (qar A a) (.exit 1) qa6:=
 h.lp [] []
theorem qFk(h:Oo (y0J a b q c A d e [.b (d==e) false,.l [] [93,92,91] [] (qaa Tryz.f255 0) (qar A 0) .ret (qa3 r)])):
 Rt 255 [.agg (nd a b c A)] [cB r]:=
 h.of
theorem qFl(h:Oo (y0J a b q c A d e [.b (d==e) false,.l [] [93,92,91] [] (qaa Tryz.f255 0) (qar A 0) (.exit 1) qa6])):
 Rt 255 [.agg (nd a b c A)] [cB true]:=
 h.of
theorem qFm(h:Oo (y0I a b q c A [.b ((A.length:Int)==2) false,.l [] [93,92,91] [] (qaa Tryz.f255 0) (qar A 0) .ret (qa3 r)])):
 Rt 255 [.agg (nd a b c A)] [cB r]:=
 h.of
theorem qFn(h:Oo (y0I a b q c A [.b ((A.length:Int)==2) false,.l [] [93,92,91] [] (qaa Tryz.f255 0) (qar A 0) (.exit 1) qa6])):
 Rt 255 [.agg (nd a b c A)] [cB true]:=
 h.of
def y0K(a b:Int)(q:Bool)(c:Int)(A:LL)(d e:Int)(l:List O):List O:=y0H a b q c A (.b (a==8) false::.b ((A.length:Int)==2) true::.p ((0:Int)≤0)::.p (0<(A.length:Int))::.e A 0 [I d]::.p ((0:Int)≤1)::.p (1<(A.length:Int))::.e A 1 [I e]::l)
theorem qFo(h:Oo (y0K a b q c A d e [.b (d==e) true])):
 Rt 255 [.agg (nd a b c A)] [cB false]:=
 h.of
theorem qFp(h:Oo (y0K a b q c A d e [.b (d==e) false,.l [] [93,92,91] [] (qaa Tryz.f255 0) (qar A 0) .ret (qa3 r)])):
 Rt 255 [.agg (nd a b c A)] [cB r]:=
 h.of
theorem qFq(h:Oo (y0K a b q c A d e [.b (d==e) false,.l [] [93,92,91] [] (qaa Tryz.f255 0) (qar A 0) (.exit 1) qa6])):
 Rt 255 [.agg (nd a b c A)] [cB true]:=
 h.of
theorem qFr(h:Oo (y0H a b q c A [.b (a==8) false,.b ((A.length:Int)==2) false,.l [] [93,92,91] [] (qaa Tryz.f255 0) (qar A 0) .ret (qa3 r)])):
 Rt 255 [.agg (nd a b c A)] [cB r]:=
 h.of
theorem qFs(h:Oo (y0H a b q c A [.b (a==8) false,.b ((A.length:Int)==2) false,.l [] [93,92,91] [] (qaa Tryz.f255 0) (qar A 0) (.exit 1) qa6])):
 Rt 255 [.agg (nd a b c A)] [cB true]:=
 h.of
def y0S(a b:Int)(q:Bool)(l:List O):List O:=y0O a (.r 158 [cI b,cI 1,cI 10] [cB q]::l)
theorem qFt(h:Oo (y0S a b q [.n q true])):
 Rt 255 [.agg (nd a b c A)] [cB false]:=
 h.of
def y0T(a b:Int)(q:Bool)(c:Int)(r:Bool)(l:List O):List O:=y0S a b q (.n q false::.a .wr::.r 158 [cI c,cI 0,cI (IntKind.i64.wrap (b-1))] [cB r]::l)
theorem qFu(h:Oo (y0T a b q c r [.n r true])):
 Rt 255 [.agg (nd a b c A)] [cB false]:=
 h.of
def y0U(a b:Int)(q:Bool)(c:Int)(r:Bool)(l:List O):List O:=y0T a b q c r (.n r false::l)
theorem qFv(h:Oo (y0U a b q c r [.b (decide ((A.length:Int)>2)) true])):
 Rt 255 [.agg (nd a b c A)] [cB false]:=
 h.of
def y0V(a b:Int)(q:Bool)(c:Int)(r:Bool)(A:LL)(l:List O):List O:=y0U a b q c r (.b (decide ((A.length:Int)>2)) false::l)
theorem qFw(h:Oo (y0V a b q c r A [.b (a==8) true,.b (decide ((A.length:Int)>0)) true])):
 Rt 255 [.agg (nd a b c A)] [cB false]:=
 h.of
def y0W(a b:Int)(q:Bool)(c:Int)(r:Bool)(A:LL)(l:List O):List O:=y0V a b q c r A (.b (a==8) true::.b (decide ((A.length:Int)>0)) false::l)
def y0X(a b:Int)(q:Bool)(c:Int)(r:Bool)(A:LL)(d e:Int)(l:List O):List O:=y0W a b q c r A (.b ((A.length:Int)==2) true::.p ((0:Int)≤0)::.p (0<(A.length:Int))::.e A 0 [I d]::.p ((0:Int)≤1)::.p (1<(A.length:Int))::.e A 1 [I e]::l)
theorem qFx(h:Oo (y0X a b q c r A d e [.b (d==e) true])):
 Rt 255 [.agg (nd a b c A)] [cB false]:=
 h.of
theorem qFy(h:Oo (y0X a b q c r A d e [.b (d==e) false,.l [] [93,92,91] [] (qaa Tryz.f255 0) (qar A 0) .ret (qa3 s)])):
 Rt 255 [.agg (nd a b c A)] [cB s]:=
 h.of
theorem qFz(h:Oo (y0X a b q c r A d e [.b (d==e) false,.l [] [93,92,91] [] (qaa Tryz.f255 0) (qar A 0) (.exit 1) qa6])):
 Rt 255 [.agg (nd a b c A)] [cB true]:=
 h.of
theorem qFA(h:Oo (y0W a b q c r A [.b ((A.length:Int)==2) false,.l [] [93,92,91] [] (qaa Tryz.f255 0) (qar A 0) .ret (qa3 s)])):
 Rt 255 [.agg (nd a b c A)] [cB s]:=
 h.of
theorem qFB(h:Oo (y0W a b q c r A [.b ((A.length:Int)==2) false,.l [] [93,92,91] [] (qaa Tryz.f255 0) (qar A 0) (.exit 1) qa6])):
 Rt 255 [.agg (nd a b c A)] [cB true]:=
 h.of
def y0Y(a b:Int)(q:Bool)(c:Int)(r:Bool)(A:LL)(d e:Int)(l:List O):List O:=y0V a b q c r A (.b (a==8) false::.b ((A.length:Int)==2) true::.p ((0:Int)≤0)::.p (0<(A.length:Int))::.e A 0 [I d]::.p ((0:Int)≤1)::.p (1<(A.length:Int))::.e A 1 [I e]::l)
theorem qFC(h:Oo (y0Y a b q c r A d e [.b (d==e) true])):
 Rt 255 [.agg (nd a b c A)] [cB false]:=
 h.of
theorem qFD(h:Oo (y0Y a b q c r A d e [.b (d==e) false,.l [] [93,92,91] [] (qaa Tryz.f255 0) (qar A 0) .ret (qa3 s)])):
 Rt 255 [.agg (nd a b c A)] [cB s]:=
 h.of
theorem qFE(h:Oo (y0Y a b q c r A d e [.b (d==e) false,.l [] [93,92,91] [] (qaa Tryz.f255 0) (qar A 0) (.exit 1) qa6])):
 Rt 255 [.agg (nd a b c A)] [cB true]:=
 h.of
theorem qFF(h:Oo (y0V a b q c r A [.b (a==8) false,.b ((A.length:Int)==2) false,.l [] [93,92,91] [] (qaa Tryz.f255 0) (qar A 0) .ret (qa3 s)])):
 Rt 255 [.agg (nd a b c A)] [cB s]:=
 h.of
theorem qFG(h:Oo (y0V a b q c r A [.b (a==8) false,.b ((A.length:Int)==2) false,.l [] [93,92,91] [] (qaa Tryz.f255 0) (qar A 0) (.exit 1) qa6])):
 Rt 255 [.agg (nd a b c A)] [cB true]:=
 h.of
def y15(a b:Int)(q:Bool)(l:List O):List O:=y10 a (.r 158 [cI b,cI 0,cI 99] [cB q]::l)
theorem qFH(h:Oo (y15 a b q [.n q true])):
 Rt 255 [.agg (nd a b c A)] [cB false]:=
 h.of
def y16(a b:Int)(q:Bool)(l:List O):List O:=y15 a b q (.n q false::l)
theorem qFI(h:Oo (y16 a b q [.b (c != 0) true])):
 Rt 255 [.agg (nd a b c A)] [cB false]:=
 h.of
def y17(a b:Int)(q:Bool)(c:Int)(l:List O):List O:=y16 a b q (.b (c != 0) false::l)
theorem qFJ(h:Oo (y17 a b q c [.b (decide ((A.length:Int)>2)) true])):
 Rt 255 [.agg (nd a b c A)] [cB false]:=
 h.of
def y18(a b:Int)(q:Bool)(c:Int)(A:LL)(l:List O):List O:=y17 a b q c (.b (decide ((A.length:Int)>2)) false::l)
theorem qFK(h:Oo (y18 a b q c A [.b (a==8) true,.b (decide ((A.length:Int)>0)) true])):
 Rt 255 [.agg (nd a b c A)] [cB false]:=
 h.of
def y19(a b:Int)(q:Bool)(c:Int)(A:LL)(l:List O):List O:=y18 a b q c A (.b (a==8) true::.b (decide ((A.length:Int)>0)) false::l)
def y1a(a b:Int)(q:Bool)(c:Int)(A:LL)(d e:Int)(l:List O):List O:=y19 a b q c A (.b ((A.length:Int)==2) true::.p ((0:Int)≤0)::.p (0<(A.length:Int))::.e A 0 [I d]::.p ((0:Int)≤1)::.p (1<(A.length:Int))::.e A 1 [I e]::l)
theorem qFL(h:Oo (y1a a b q c A d e [.b (d==e) true])):
 Rt 255 [.agg (nd a b c A)] [cB false]:=
 h.of
theorem qFM(h:Oo (y1a a b q c A d e [.b (d==e) false,.l [] [93,92,91] [] (qaa Tryz.f255 0) (qar A 0) .ret (qa3 r)])):
 Rt 255 [.agg (nd a b c A)] [cB r]:=
 h.of
theorem qFN(h:Oo (y1a a b q c A d e [.b (d==e) false,.l [] [93,92,91] [] (qaa Tryz.f255 0) (qar A 0) (.exit 1) qa6])):
 Rt 255 [.agg (nd a b c A)] [cB true]:=
 h.of
theorem qFO(h:Oo (y19 a b q c A [.b ((A.length:Int)==2) false,.l [] [93,92,91] [] (qaa Tryz.f255 0) (qar A 0) .ret (qa3 r)])):
 Rt 255 [.agg (nd a b c A)] [cB r]:=
 h.of
theorem qFP(h:Oo (y19 a b q c A [.b ((A.length:Int)==2) false,.l [] [93,92,91] [] (qaa Tryz.f255 0) (qar A 0) (.exit 1) qa6])):
 Rt 255 [.agg (nd a b c A)] [cB true]:=
 h.of
def y1b(a b:Int)(q:Bool)(c:Int)(A:LL)(d e:Int)(l:List O):List O:=y18 a b q c A (.b (a==8) false::.b ((A.length:Int)==2) true::.p ((0:Int)≤0)::.p (0<(A.length:Int))::.e A 0 [I d]::.p ((0:Int)≤1)::.p (1<(A.length:Int))::.e A 1 [I e]::l)
theorem qFQ(h:Oo (y1b a b q c A d e [.b (d==e) true])):
 Rt 255 [.agg (nd a b c A)] [cB false]:=
 h.of
theorem qFR(h:Oo (y1b a b q c A d e [.b (d==e) false,.l [] [93,92,91] [] (qaa Tryz.f255 0) (qar A 0) .ret (qa3 r)])):
 Rt 255 [.agg (nd a b c A)] [cB r]:=
 h.of
theorem qFS(h:Oo (y1b a b q c A d e [.b (d==e) false,.l [] [93,92,91] [] (qaa Tryz.f255 0) (qar A 0) (.exit 1) qa6])):
 Rt 255 [.agg (nd a b c A)] [cB true]:=
 h.of
theorem qFT(h:Oo (y18 a b q c A [.b (a==8) false,.b ((A.length:Int)==2) false,.l [] [93,92,91] [] (qaa Tryz.f255 0) (qar A 0) .ret (qa3 r)])):
 Rt 255 [.agg (nd a b c A)] [cB r]:=
 h.of
theorem qFU(h:Oo (y18 a b q c A [.b (a==8) false,.b ((A.length:Int)==2) false,.l [] [93,92,91] [] (qaa Tryz.f255 0) (qar A 0) (.exit 1) qa6])):
 Rt 255 [.agg (nd a b c A)] [cB true]:=
 h.of
def y1i(a:Int)(l:List O):List O:=y1c a (.b (a==1) true::.b (a==1) true::l)
theorem qFV(h:Oo (y1i a [.b (b != 0) true])):
 Rt 255 [.agg (nd a b c A)] [cB false]:=
 h.of
def y1j(a b:Int)(l:List O):List O:=y1i a (.b (b != 0) false::l)
theorem qFW(h:Oo (y1j a b [.b (c != 0) true])):
 Rt 255 [.agg (nd a b c A)] [cB false]:=
 h.of
def y1k(a b c:Int)(l:List O):List O:=y1j a b (.b (c != 0) false::l)
theorem qFX(h:Oo (y1k a b c [.b (decide ((A.length:Int)>2)) true])):
 Rt 255 [.agg (nd a b c A)] [cB false]:=
 h.of
def y1l(a b c:Int)(A:LL)(l:List O):List O:=y1k a b c (.b (decide ((A.length:Int)>2)) false::l)
def y1m(a b c:Int)(A:LL)(l:List O):List O:=y1l a b c A (.b (a==8) true::l)
theorem qFY(h:Oo (y1m a b c A [.b (decide ((A.length:Int)>0)) true])):
 Rt 255 [.agg (nd a b c A)] [cB false]:=
 h.of
def y1n(a b c:Int)(A:LL)(l:List O):List O:=y1m a b c A (.b (decide ((A.length:Int)>0)) false::l)
def y1o(a b c:Int)(A:LL)(d e:Int)(l:List O):List O:=y1n a b c A (.b ((A.length:Int)==2) true::.p ((0:Int)≤0)::.p (0<(A.length:Int))::.e A 0 [I d]::.p ((0:Int)≤1)::.p (1<(A.length:Int))::.e A 1 [I e]::l)
theorem qFZ(h:Oo (y1o a b c A d e [.b (d==e) true])):
 Rt 255 [.agg (nd a b c A)] [cB false]:=
 h.of
theorem qF0(h:Oo (y1o a b c A d e [.b (d==e) false,.l [] [93,92,91] [] (qaa Tryz.f255 0) (qar A 0) .ret (qa3 q)])):
 Rt 255 [.agg (nd a b c A)] [cB q]:=
 h.of
theorem qF1(h:Oo (y1o a b c A d e [.b (d==e) false,.l [] [93,92,91] [] (qaa Tryz.f255 0) (qar A 0) (.exit 1) qa6])):
 Rt 255 [.agg (nd a b c A)] [cB true]:=
 h.of
theorem qF2(h:Oo (y1n a b c A [.b ((A.length:Int)==2) false,.l [] [93,92,91] [] (qaa Tryz.f255 0) (qar A 0) .ret (qa3 q)])):
 Rt 255 [.agg (nd a b c A)] [cB q]:=
 h.of
theorem qF3(h:Oo (y1n a b c A [.b ((A.length:Int)==2) false,.l [] [93,92,91] [] (qaa Tryz.f255 0) (qar A 0) (.exit 1) qa6])):
 Rt 255 [.agg (nd a b c A)] [cB true]:=
 h.of
def y1p(a b c:Int)(A:LL)(d e:Int)(l:List O):List O:=y1l a b c A (.b (a==8) false::.b ((A.length:Int)==2) true::.p ((0:Int)≤0)::.p (0<(A.length:Int))::.e A 0 [I d]::.p ((0:Int)≤1)::.p (1<(A.length:Int))::.e A 1 [I e]::l)
theorem qF4(h:Oo (y1p a b c A d e [.b (d==e) true])):
 Rt 255 [.agg (nd a b c A)] [cB false]:=
 h.of
theorem qF5(h:Oo (y1p a b c A d e [.b (d==e) false,.l [] [93,92,91] [] (qaa Tryz.f255 0) (qar A 0) .ret (qa3 q)])):
 Rt 255 [.agg (nd a b c A)] [cB q]:=
 h.of
theorem qF6(h:Oo (y1p a b c A d e [.b (d==e) false,.l [] [93,92,91] [] (qaa Tryz.f255 0) (qar A 0) (.exit 1) qa6])):
 Rt 255 [.agg (nd a b c A)] [cB true]:=
 h.of
theorem qF7(h:Oo (y1l a b c A [.b (a==8) false,.b ((A.length:Int)==2) false,.l [] [93,92,91] [] (qaa Tryz.f255 0) (qar A 0) .ret (qa3 q)])):
 Rt 255 [.agg (nd a b c A)] [cB q]:=
 h.of
theorem qF8(h:Oo (y1l a b c A [.b (a==8) false,.b ((A.length:Int)==2) false,.l [] [93,92,91] [] (qaa Tryz.f255 0) (qar A 0) (.exit 1) qa6])):
 Rt 255 [.agg (nd a b c A)] [cB true]:=
 h.of
def y1q(a:Int)(l:List O):List O:=y1c a (.b (a==1) false::l)
def y1r(a:Int)(l:List O):List O:=y1q a (.b (a==5) true::.b (a==5) true::l)
theorem qF9(h:Oo (y1r a [.b (b != 0) true])):
 Rt 255 [.agg (nd a b c A)] [cB false]:=
 h.of
def y1s(a b:Int)(l:List O):List O:=y1r a (.b (b != 0) false::l)
theorem qGa(h:Oo (y1s a b [.b (c != 0) true])):
 Rt 255 [.agg (nd a b c A)] [cB false]:=
 h.of
def y1t(a b c:Int)(l:List O):List O:=y1s a b (.b (c != 0) false::l)
theorem qGb(h:Oo (y1t a b c [.b (decide ((A.length:Int)>2)) true])):
 Rt 255 [.agg (nd a b c A)] [cB false]:=
 h.of
def y1u(a b c:Int)(A:LL)(l:List O):List O:=y1t a b c (.b (decide ((A.length:Int)>2)) false::l)
def y1v(a b c:Int)(A:LL)(l:List O):List O:=y1u a b c A (.b (a==8) true::l)
theorem qGc(h:Oo (y1v a b c A [.b (decide ((A.length:Int)>0)) true])):
 Rt 255 [.agg (nd a b c A)] [cB false]:=
 h.of
def y1w(a b c:Int)(A:LL)(l:List O):List O:=y1v a b c A (.b (decide ((A.length:Int)>0)) false::l)
def y1x(a b c:Int)(A:LL)(d e:Int)(l:List O):List O:=y1w a b c A (.b ((A.length:Int)==2) true::.p ((0:Int)≤0)::.p (0<(A.length:Int))::.e A 0 [I d]::.p ((0:Int)≤1)::.p (1<(A.length:Int))::.e A 1 [I e]::l)
theorem qGd(h:Oo (y1x a b c A d e [.b (d==e) true])):
 Rt 255 [.agg (nd a b c A)] [cB false]:=
 h.of
theorem qGe(h:Oo (y1x a b c A d e [.b (d==e) false,.l [] [93,92,91] [] (qaa Tryz.f255 0) (qar A 0) .ret (qa3 q)])):
 Rt 255 [.agg (nd a b c A)] [cB q]:=
 h.of
theorem qGf(h:Oo (y1x a b c A d e [.b (d==e) false,.l [] [93,92,91] [] (qaa Tryz.f255 0) (qar A 0) (.exit 1) qa6])):
 Rt 255 [.agg (nd a b c A)] [cB true]:=
 h.of
theorem qGg(h:Oo (y1w a b c A [.b ((A.length:Int)==2) false,.l [] [93,92,91] [] (qaa Tryz.f255 0) (qar A 0) .ret (qa3 q)])):
 Rt 255 [.agg (nd a b c A)] [cB q]:=
 h.of
theorem qGh(h:Oo (y1w a b c A [.b ((A.length:Int)==2) false,.l [] [93,92,91] [] (qaa Tryz.f255 0) (qar A 0) (.exit 1) qa6])):
 Rt 255 [.agg (nd a b c A)] [cB true]:=
 h.of
def y1y(a b c:Int)(A:LL)(d e:Int)(l:List O):List O:=y1u a b c A (.b (a==8) false::.b ((A.length:Int)==2) true::.p ((0:Int)≤0)::.p (0<(A.length:Int))::.e A 0 [I d]::.p ((0:Int)≤1)::.p (1<(A.length:Int))::.e A 1 [I e]::l)
theorem qGi(h:Oo (y1y a b c A d e [.b (d==e) true])):
 Rt 255 [.agg (nd a b c A)] [cB false]:=
 h.of
theorem qGj(h:Oo (y1y a b c A d e [.b (d==e) false,.l [] [93,92,91] [] (qaa Tryz.f255 0) (qar A 0) .ret (qa3 q)])):
 Rt 255 [.agg (nd a b c A)] [cB q]:=
 h.of
theorem qGk(h:Oo (y1y a b c A d e [.b (d==e) false,.l [] [93,92,91] [] (qaa Tryz.f255 0) (qar A 0) (.exit 1) qa6])):
 Rt 255 [.agg (nd a b c A)] [cB true]:=
 h.of
theorem qGl(h:Oo (y1u a b c A [.b (a==8) false,.b ((A.length:Int)==2) false,.l [] [93,92,91] [] (qaa Tryz.f255 0) (qar A 0) .ret (qa3 q)])):
 Rt 255 [.agg (nd a b c A)] [cB q]:=
 h.of
theorem qGm(h:Oo (y1u a b c A [.b (a==8) false,.b ((A.length:Int)==2) false,.l [] [93,92,91] [] (qaa Tryz.f255 0) (qar A 0) (.exit 1) qa6])):
 Rt 255 [.agg (nd a b c A)] [cB true]:=
 h.of
def y1z(a:Int)(l:List O):List O:=y1q a (.b (a==5) false::l)
def y1A(a:Int)(l:List O):List O:=y1z a (.b (a==6) true::.b (a==6) true::l)
theorem qGn(h:Oo (y1A a [.b (b != 0) true])):
 Rt 255 [.agg (nd a b c A)] [cB false]:=
 h.of
def y1B(a b:Int)(l:List O):List O:=y1A a (.b (b != 0) false::l)
theorem qGo(h:Oo (y1B a b [.b (c != 0) true])):
 Rt 255 [.agg (nd a b c A)] [cB false]:=
 h.of
def y1C(a b c:Int)(l:List O):List O:=y1B a b (.b (c != 0) false::l)
theorem qGp(h:Oo (y1C a b c [.b (decide ((A.length:Int)>2)) true])):
 Rt 255 [.agg (nd a b c A)] [cB false]:=
 h.of
def y1D(a b c:Int)(A:LL)(l:List O):List O:=y1C a b c (.b (decide ((A.length:Int)>2)) false::l)
def y1E(a b c:Int)(A:LL)(l:List O):List O:=y1D a b c A (.b (a==8) true::l)
theorem qGq(h:Oo (y1E a b c A [.b (decide ((A.length:Int)>0)) true])):
 Rt 255 [.agg (nd a b c A)] [cB false]:=
 h.of
def y1F(a b c:Int)(A:LL)(l:List O):List O:=y1E a b c A (.b (decide ((A.length:Int)>0)) false::l)
def y1G(a b c:Int)(A:LL)(d e:Int)(l:List O):List O:=y1F a b c A (.b ((A.length:Int)==2) true::.p ((0:Int)≤0)::.p (0<(A.length:Int))::.e A 0 [I d]::.p ((0:Int)≤1)::.p (1<(A.length:Int))::.e A 1 [I e]::l)
theorem qGr(h:Oo (y1G a b c A d e [.b (d==e) true])):
 Rt 255 [.agg (nd a b c A)] [cB false]:=
 h.of
theorem qGs(h:Oo (y1G a b c A d e [.b (d==e) false,.l [] [93,92,91] [] (qaa Tryz.f255 0) (qar A 0) .ret (qa3 q)])):
 Rt 255 [.agg (nd a b c A)] [cB q]:=
 h.of
theorem qGt(h:Oo (y1G a b c A d e [.b (d==e) false,.l [] [93,92,91] [] (qaa Tryz.f255 0) (qar A 0) (.exit 1) qa6])):
 Rt 255 [.agg (nd a b c A)] [cB true]:=
 h.of
theorem qGu(h:Oo (y1F a b c A [.b ((A.length:Int)==2) false,.l [] [93,92,91] [] (qaa Tryz.f255 0) (qar A 0) .ret (qa3 q)])):
 Rt 255 [.agg (nd a b c A)] [cB q]:=
 h.of
theorem qGv(h:Oo (y1F a b c A [.b ((A.length:Int)==2) false,.l [] [93,92,91] [] (qaa Tryz.f255 0) (qar A 0) (.exit 1) qa6])):
 Rt 255 [.agg (nd a b c A)] [cB true]:=
 h.of
def y1H(a b c:Int)(A:LL)(d e:Int)(l:List O):List O:=y1D a b c A (.b (a==8) false::.b ((A.length:Int)==2) true::.p ((0:Int)≤0)::.p (0<(A.length:Int))::.e A 0 [I d]::.p ((0:Int)≤1)::.p (1<(A.length:Int))::.e A 1 [I e]::l)
theorem qGw(h:Oo (y1H a b c A d e [.b (d==e) true])):
 Rt 255 [.agg (nd a b c A)] [cB false]:=
 h.of
theorem qGx(h:Oo (y1H a b c A d e [.b (d==e) false,.l [] [93,92,91] [] (qaa Tryz.f255 0) (qar A 0) .ret (qa3 q)])):
 Rt 255 [.agg (nd a b c A)] [cB q]:=
 h.of
theorem qGy(h:Oo (y1H a b c A d e [.b (d==e) false,.l [] [93,92,91] [] (qaa Tryz.f255 0) (qar A 0) (.exit 1) qa6])):
 Rt 255 [.agg (nd a b c A)] [cB true]:=
 h.of
theorem qGz(h:Oo (y1D a b c A [.b (a==8) false,.b ((A.length:Int)==2) false,.l [] [93,92,91] [] (qaa Tryz.f255 0) (qar A 0) .ret (qa3 q)])):
 Rt 255 [.agg (nd a b c A)] [cB q]:=
 h.of
theorem qGA(h:Oo (y1D a b c A [.b (a==8) false,.b ((A.length:Int)==2) false,.l [] [93,92,91] [] (qaa Tryz.f255 0) (qar A 0) (.exit 1) qa6])):
 Rt 255 [.agg (nd a b c A)] [cB true]:=
 h.of
def y1I(a:Int)(l:List O):List O:=y1z a (.b (a==6) false::l)
def y1J(a:Int)(l:List O):List O:=y1I a (.b (a==7) true::.b (a==7) true::l)
theorem qGB(h:Oo (y1J a [.b (b != 0) true])):
 Rt 255 [.agg (nd a b c A)] [cB false]:=
 h.of
def y1K(a b:Int)(l:List O):List O:=y1J a (.b (b != 0) false::l)
theorem qGC(h:Oo (y1K a b [.b (c != 0) true])):
 Rt 255 [.agg (nd a b c A)] [cB false]:=
 h.of
def y1L(a b c:Int)(l:List O):List O:=y1K a b (.b (c != 0) false::l)
theorem qGD(h:Oo (y1L a b c [.b (decide ((A.length:Int)>2)) true])):
 Rt 255 [.agg (nd a b c A)] [cB false]:=
 h.of
def y1M(a b c:Int)(A:LL)(l:List O):List O:=y1L a b c (.b (decide ((A.length:Int)>2)) false::l)
def y1N(a b c:Int)(A:LL)(l:List O):List O:=y1M a b c A (.b (a==8) true::l)
theorem qGE(h:Oo (y1N a b c A [.b (decide ((A.length:Int)>0)) true])):
 Rt 255 [.agg (nd a b c A)] [cB false]:=
 h.of
def y1O(a b c:Int)(A:LL)(l:List O):List O:=y1N a b c A (.b (decide ((A.length:Int)>0)) false::l)
def y1P(a b c:Int)(A:LL)(d e:Int)(l:List O):List O:=y1O a b c A (.b ((A.length:Int)==2) true::.p ((0:Int)≤0)::.p (0<(A.length:Int))::.e A 0 [I d]::.p ((0:Int)≤1)::.p (1<(A.length:Int))::.e A 1 [I e]::l)
theorem qGF(h:Oo (y1P a b c A d e [.b (d==e) true])):
 Rt 255 [.agg (nd a b c A)] [cB false]:=
 h.of
theorem qGG(h:Oo (y1P a b c A d e [.b (d==e) false,.l [] [93,92,91] [] (qaa Tryz.f255 0) (qar A 0) .ret (qa3 q)])):
 Rt 255 [.agg (nd a b c A)] [cB q]:=
 h.of
theorem qGH(h:Oo (y1P a b c A d e [.b (d==e) false,.l [] [93,92,91] [] (qaa Tryz.f255 0) (qar A 0) (.exit 1) qa6])):
 Rt 255 [.agg (nd a b c A)] [cB true]:=
 h.of
theorem qGI(h:Oo (y1O a b c A [.b ((A.length:Int)==2) false,.l [] [93,92,91] [] (qaa Tryz.f255 0) (qar A 0) .ret (qa3 q)])):
 Rt 255 [.agg (nd a b c A)] [cB q]:=
 h.of
theorem qGJ(h:Oo (y1O a b c A [.b ((A.length:Int)==2) false,.l [] [93,92,91] [] (qaa Tryz.f255 0) (qar A 0) (.exit 1) qa6])):
 Rt 255 [.agg (nd a b c A)] [cB true]:=
 h.of
def y1Q(a b c:Int)(A:LL)(d e:Int)(l:List O):List O:=y1M a b c A (.b (a==8) false::.b ((A.length:Int)==2) true::.p ((0:Int)≤0)::.p (0<(A.length:Int))::.e A 0 [I d]::.p ((0:Int)≤1)::.p (1<(A.length:Int))::.e A 1 [I e]::l)
theorem qGK(h:Oo (y1Q a b c A d e [.b (d==e) true])):
 Rt 255 [.agg (nd a b c A)] [cB false]:=
 h.of
theorem qGL(h:Oo (y1Q a b c A d e [.b (d==e) false,.l [] [93,92,91] [] (qaa Tryz.f255 0) (qar A 0) .ret (qa3 q)])):
 Rt 255 [.agg (nd a b c A)] [cB q]:=
 h.of
theorem qGM(h:Oo (y1Q a b c A d e [.b (d==e) false,.l [] [93,92,91] [] (qaa Tryz.f255 0) (qar A 0) (.exit 1) qa6])):
 Rt 255 [.agg (nd a b c A)] [cB true]:=
 h.of
theorem qGN(h:Oo (y1M a b c A [.b (a==8) false,.b ((A.length:Int)==2) false,.l [] [93,92,91] [] (qaa Tryz.f255 0) (qar A 0) .ret (qa3 q)])):
 Rt 255 [.agg (nd a b c A)] [cB q]:=
 h.of
theorem qGO(h:Oo (y1M a b c A [.b (a==8) false,.b ((A.length:Int)==2) false,.l [] [93,92,91] [] (qaa Tryz.f255 0) (qar A 0) (.exit 1) qa6])):
 Rt 255 [.agg (nd a b c A)] [cB true]:=
 h.of
def y1R(a:Int)(l:List O):List O:=y1I a (.b (a==7) false::l)
def y1S(a:Int)(l:List O):List O:=y1R a (.b (a==8) true::l)
theorem qGP(h:Oo (y1S a [.b (b != 0) true])):
 Rt 255 [.agg (nd a b c A)] [cB false]:=
 h.of
def y1T(a b:Int)(l:List O):List O:=y1S a (.b (b != 0) false::l)
theorem qGQ(h:Oo (y1T a b [.b (c != 0) true])):
 Rt 255 [.agg (nd a b c A)] [cB false]:=
 h.of
def y1U(a b c:Int)(l:List O):List O:=y1T a b (.b (c != 0) false::l)
theorem qGR(h:Oo (y1U a b c [.b (decide ((A.length:Int)>2)) true])):
 Rt 255 [.agg (nd a b c A)] [cB false]:=
 h.of
def y1V(a b c:Int)(A:LL)(l:List O):List O:=y1U a b c (.b (decide ((A.length:Int)>2)) false::.b (a==8) true::l)
theorem qGS(h:Oo (y1V a b c A [.b (decide ((A.length:Int)>0)) true])):
 Rt 255 [.agg (nd a b c A)] [cB false]:=
 h.of
def y1W(a b c:Int)(A:LL)(l:List O):List O:=y1V a b c A (.b (decide ((A.length:Int)>0)) false::l)
def y1X(a b c:Int)(A:LL)(d e:Int)(l:List O):List O:=y1W a b c A (.b ((A.length:Int)==2) true::.p ((0:Int)≤0)::.p (0<(A.length:Int))::.e A 0 [I d]::.p ((0:Int)≤1)::.p (1<(A.length:Int))::.e A 1 [I e]::l)
theorem qGT(h:Oo (y1X a b c A d e [.b (d==e) true])):
 Rt 255 [.agg (nd a b c A)] [cB false]:=
 h.of
theorem qGU(h:Oo (y1X a b c A d e [.b (d==e) false,.l [] [93,92,91] [] (qaa Tryz.f255 0) (qar A 0) .ret (qa3 q)])):
 Rt 255 [.agg (nd a b c A)] [cB q]:=
 h.of
theorem qGV(h:Oo (y1X a b c A d e [.b (d==e) false,.l [] [93,92,91] [] (qaa Tryz.f255 0) (qar A 0) (.exit 1) qa6])):
 Rt 255 [.agg (nd a b c A)] [cB true]:=
 h.of
theorem qGW(h:Oo (y1W a b c A [.b ((A.length:Int)==2) false,.l [] [93,92,91] [] (qaa Tryz.f255 0) (qar A 0) .ret (qa3 q)])):
 Rt 255 [.agg (nd a b c A)] [cB q]:=
 h.of
theorem qGX(h:Oo (y1W a b c A [.b ((A.length:Int)==2) false,.l [] [93,92,91] [] (qaa Tryz.f255 0) (qar A 0) (.exit 1) qa6])):
 Rt 255 [.agg (nd a b c A)] [cB true]:=
 h.of
theorem qGY(h:Oo (y1R a [.b (a==8) false])):
 Rt 255 [.agg (nd a b c A)] [cB false]:=
 h.of
end Go.Proofs.YtdkobdhckkjmeaaGreat
