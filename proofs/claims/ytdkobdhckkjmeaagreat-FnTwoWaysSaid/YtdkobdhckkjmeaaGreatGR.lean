import Derived.Test.YtdkobdhckkjmeaaGreatRows
import Derived.Test.YtdkobdhckkjmeaaGreatGE
set_option linter.unusedVariables false
set_option linter.unusedSimpArgs false
namespace Go.Proofs.YtdkobdhckkjmeaaGreat
open Go.Sx Go.RowKit
variable {a b c d e f g : Int} {A : LL} {q r s t : Bool}
def y0r(a:Int)(l:List O):List O:=.b (a==2) true::l
def y0s(a b:Int)(q r:Bool)(l:List O):List O:=y0r a (.r 167 [cI b,cI 0,cI 999] [cB q]::.r 167 [cI a,cI 1,cI 8] [cB r]::l)
theorem qAK(h:Oo (y0s a b r q [.n q true])):
 Rt 243 [.agg (nd a b c A)] [cB false]:=
 h.of
def y0t(a b:Int)(q r:Bool)(l:List O):List O:=y0s a b q r (.n r false::l)
theorem qAL(h:Oo (y0t a b q r [.n q true])):
 Rt 243 [.agg (nd a b c A)] [cB false]:=
 h.of
theorem qAM(h:Oo (y0t a b q r [.n q false,.b (!c==0) true])):
 Rt 243 [.agg (nd a b c A)] [cB false]:=
 h.of
def y0u(a b:Int)(q r:Bool)(c:Int)(l:List O):List O:=y0t a b q r (.n q false::.b (!c==0) false::l)
theorem qAN(h:Oo (y0u a b q r c [.b (decide ((A.length:Int)>2)) true])):
 Rt 243 [.agg (nd a b c A)] [cB false]:=
 h.of
def y0v(a b:Int)(q r:Bool)(c:Int)(A:LL)(l:List O):List O:=y0u a b q r c (.b (decide ((A.length:Int)>2)) false::l)
theorem qAO(h:Oo (y0v a b q r c A [.b (a==8) true,.b (decide ((A.length:Int)>0)) true])):
 Rt 243 [.agg (nd a b c A)] [cB false]:=
 h.of
def qbe(a b c:Int)(A:LL)(d:Int):St:=
 { env:=envOf 93 [(1,vP 1),(5,vI d)],boxes:=[(1,[lI a,lI b,lI c,.sl .free 1 A])] }
def qc8(q:Bool):St:=
 { env:=envOf 93 [(2,.al (.one (.sb q)))],boxes:=[] }
def y0D(A:LL)(a b:Int)(q:Bool)(l:List O):List O:=.i A a [I b]::.r 167 [cI b,cI 0,cI 7] [cB q]::l
theorem qmy(h:Oo (y0D A a b q [.n q true])):
 Tp (qaa Tryz.f243 0) (qbe c d e A a) .ret (qc8 false):=
 h.lp [2] []
def y0E(A:LL)(a b:Int)(q:Bool)(c d:Int)(l:List O):List O:=y0D A a b q (.n q false::.b (decide (a>0)) true::.p ((0:Int)≤0)::.p (0<(A.length:Int))::.e A 0 [I c]::.p ((0:Int)≤1)::.p (1<(A.length:Int))::.e A 1 [I d]::l)
theorem qAP(h:Oo (y0E A a c q d b [.b (d==b) true])):
 Tp (qaa Tryz.f243 0) (qbe e f g A a) .ret (qc8 false):=
 h.lp [2] []
theorem qAQ(h:Oo (y0E A a f q g d [.b (g==d) false,.u a])):
 Tp (qaa Tryz.f243 0) (qbe b c e A a) .normal (qbe b c e A (a+1)):=
 h.lp [5,1] [1]
theorem qqM(h:Oo (y0D A a e q [.n q false,.b (decide (a>0)) false,.u a])):
 Tp (qaa Tryz.f243 0) (qbe b c d A a) .normal (qbe b c d A (a+1)):=
 h.lp [5,1] [1]
def qds:St:=
 { env:=envOf 93 [],boxes:=[] }
theorem qmz(h:Oo [.f A a false]):
 Tp (qaa Tryz.f243 0) (qbe b c d A a) (.exit 1) qds:=
 h.lp [] []
theorem qAR(h:Oo (y0v a b q r c A [.b (a==8) true,.b (decide ((A.length:Int)>0)) false,.l [] [5,1] [1] (qaa Tryz.f243 0) (qbe a b c A 0) .ret (qc8 s)])):
 Rt 243 [.agg (nd a b c A)] [cB s]:=
 h.of
theorem qAS(h:Oo (y0v a b q r c A [.b (a==8) true,.b (decide ((A.length:Int)>0)) false,.l [] [5,1] [1] (qaa Tryz.f243 0) (qbe a b c A 0) (.exit 1) qds])):
 Rt 243 [.agg (nd a b c A)] [cB true]:=
 h.of
theorem qAT(h:Oo (y0v a b q r c A [.b (a==8) false,.l [] [5,1] [1] (qaa Tryz.f243 0) (qbe a b c A 0) .ret (qc8 s)])):
 Rt 243 [.agg (nd a b c A)] [cB s]:=
 h.of
theorem qAU(h:Oo (y0v a b q r c A [.b (a==8) false,.l [] [5,1] [1] (qaa Tryz.f243 0) (qbe a b c A 0) (.exit 1) qds])):
 Rt 243 [.agg (nd a b c A)] [cB true]:=
 h.of
def y0F(a:Int)(l:List O):List O:=.b (a==2) false::l
def y0G(a:Int)(l:List O):List O:=y0F a (.b (a==3) true::l)
def y0H(a b:Int)(q:Bool)(c:Int)(r s:Bool)(l:List O):List O:=y0G a (.r 167 [cI b,cI 1,cI 10] [cB q]::.a .wr::.r 167 [cI c,cI 0,cI (IntKind.i64.wrap (b-1))] [cB r]::.r 167 [cI a,cI 1,cI 8] [cB s]::l)
theorem qAV(h:Oo (y0H a b r c s q [.n q true])):
 Rt 243 [.agg (nd a b c A)] [cB false]:=
 h.of
theorem qAW(h:Oo (y0H a b q c s r [.n r false,.n q true])):
 Rt 243 [.agg (nd a b c A)] [cB false]:=
 h.of
def y0I(a b:Int)(q:Bool)(c:Int)(r s:Bool)(l:List O):List O:=y0H a b q c r s (.n s false::.n q false::l)
theorem qAX(h:Oo (y0I a b q c r s [.n r true])):
 Rt 243 [.agg (nd a b c A)] [cB false]:=
 h.of
theorem qAY(h:Oo (y0I a b q c r s [.n r false,.b (decide ((A.length:Int)>2)) true])):
 Rt 243 [.agg (nd a b c A)] [cB false]:=
 h.of
def y0J(a b:Int)(q:Bool)(c:Int)(r s:Bool)(A:LL)(l:List O):List O:=y0I a b q c r s (.n r false::.b (decide ((A.length:Int)>2)) false::l)
theorem qAZ(h:Oo (y0J a b q c r s A [.b (a==8) true,.b (decide ((A.length:Int)>0)) true])):
 Rt 243 [.agg (nd a b c A)] [cB false]:=
 h.of
theorem qA0(h:Oo (y0J a b q c r s A [.b (a==8) true,.b (decide ((A.length:Int)>0)) false,.l [] [5,1] [1] (qaa Tryz.f243 0) (qbe a b c A 0) .ret (qc8 t)])):
 Rt 243 [.agg (nd a b c A)] [cB t]:=
 h.of
theorem qA1(h:Oo (y0J a b q c r s A [.b (a==8) true,.b (decide ((A.length:Int)>0)) false,.l [] [5,1] [1] (qaa Tryz.f243 0) (qbe a b c A 0) (.exit 1) qds])):
 Rt 243 [.agg (nd a b c A)] [cB true]:=
 h.of
theorem qA2(h:Oo (y0J a b q c r s A [.b (a==8) false,.l [] [5,1] [1] (qaa Tryz.f243 0) (qbe a b c A 0) .ret (qc8 t)])):
 Rt 243 [.agg (nd a b c A)] [cB t]:=
 h.of
theorem qA3(h:Oo (y0J a b q c r s A [.b (a==8) false,.l [] [5,1] [1] (qaa Tryz.f243 0) (qbe a b c A 0) (.exit 1) qds])):
 Rt 243 [.agg (nd a b c A)] [cB true]:=
 h.of
def y0R(a:Int)(l:List O):List O:=y0F a (.b (a==3) false::l)
def y0S(a:Int)(l:List O):List O:=y0R a (.b (a==4) true::l)
def y0T(a b:Int)(q r:Bool)(l:List O):List O:=y0S a (.r 167 [cI b,cI 0,cI 99] [cB q]::.r 167 [cI a,cI 1,cI 8] [cB r]::l)
theorem qA4(h:Oo (y0T a b r q [.n q true])):
 Rt 243 [.agg (nd a b c A)] [cB false]:=
 h.of
def y0U(a b:Int)(q r:Bool)(l:List O):List O:=y0T a b q r (.n r false::l)
theorem qA5(h:Oo (y0U a b q r [.n q true])):
 Rt 243 [.agg (nd a b c A)] [cB false]:=
 h.of
theorem qA6(h:Oo (y0U a b q r [.n q false,.b (!c==0) true])):
 Rt 243 [.agg (nd a b c A)] [cB false]:=
 h.of
def y0V(a b:Int)(q r:Bool)(c:Int)(l:List O):List O:=y0U a b q r (.n q false::.b (!c==0) false::l)
theorem qA7(h:Oo (y0V a b q r c [.b (decide ((A.length:Int)>2)) true])):
 Rt 243 [.agg (nd a b c A)] [cB false]:=
 h.of
def y0W(a b:Int)(q r:Bool)(c:Int)(A:LL)(l:List O):List O:=y0V a b q r c (.b (decide ((A.length:Int)>2)) false::l)
theorem qA8(h:Oo (y0W a b q r c A [.b (a==8) true,.b (decide ((A.length:Int)>0)) true])):
 Rt 243 [.agg (nd a b c A)] [cB false]:=
 h.of
theorem qA9(h:Oo (y0W a b q r c A [.b (a==8) true,.b (decide ((A.length:Int)>0)) false,.l [] [5,1] [1] (qaa Tryz.f243 0) (qbe a b c A 0) .ret (qc8 s)])):
 Rt 243 [.agg (nd a b c A)] [cB s]:=
 h.of
theorem qBa(h:Oo (y0W a b q r c A [.b (a==8) true,.b (decide ((A.length:Int)>0)) false,.l [] [5,1] [1] (qaa Tryz.f243 0) (qbe a b c A 0) (.exit 1) qds])):
 Rt 243 [.agg (nd a b c A)] [cB true]:=
 h.of
theorem qBb(h:Oo (y0W a b q r c A [.b (a==8) false,.l [] [5,1] [1] (qaa Tryz.f243 0) (qbe a b c A 0) .ret (qc8 s)])):
 Rt 243 [.agg (nd a b c A)] [cB s]:=
 h.of
theorem qBc(h:Oo (y0W a b q r c A [.b (a==8) false,.l [] [5,1] [1] (qaa Tryz.f243 0) (qbe a b c A 0) (.exit 1) qds])):
 Rt 243 [.agg (nd a b c A)] [cB true]:=
 h.of
def y14(a:Int)(l:List O):List O:=y0R a (.b (a==4) false::l)
def y15(a:Int)(q:Bool)(l:List O):List O:=y14 a (.r 167 [cI a,cI 1,cI 8] [cB q]::l)
theorem qBd(h:Oo (y15 a q [.n q true])):
 Rt 243 [.agg (nd a b c A)] [cB false]:=
 h.of
def y16(a:Int)(q:Bool)(l:List O):List O:=y15 a q (.n q false::l)
theorem qBe(h:Oo (y16 a q [.b (!b==0) true])):
 Rt 243 [.agg (nd a b c A)] [cB false]:=
 h.of
def y17(a:Int)(q:Bool)(b:Int)(l:List O):List O:=y16 a q (.b (!b==0) false::l)
theorem qBf(h:Oo (y17 a q b [.b (!c==0) true])):
 Rt 243 [.agg (nd a b c A)] [cB false]:=
 h.of
def y18(a:Int)(q:Bool)(b c:Int)(l:List O):List O:=y17 a q b (.b (!c==0) false::l)
theorem qBg(h:Oo (y18 a q b c [.b (decide ((A.length:Int)>2)) true])):
 Rt 243 [.agg (nd a b c A)] [cB false]:=
 h.of
def y19(a:Int)(q:Bool)(b c:Int)(A:LL)(l:List O):List O:=y18 a q b c (.b (decide ((A.length:Int)>2)) false::l)
theorem qBh(h:Oo (y19 a q b c A [.b (a==8) true,.b (decide ((A.length:Int)>0)) true])):
 Rt 243 [.agg (nd a b c A)] [cB false]:=
 h.of
theorem qBi(h:Oo (y19 a q b c A [.b (a==8) true,.b (decide ((A.length:Int)>0)) false,.l [] [5,1] [1] (qaa Tryz.f243 0) (qbe a b c A 0) .ret (qc8 r)])):
 Rt 243 [.agg (nd a b c A)] [cB r]:=
 h.of
theorem qBj(h:Oo (y19 a q b c A [.b (a==8) true,.b (decide ((A.length:Int)>0)) false,.l [] [5,1] [1] (qaa Tryz.f243 0) (qbe a b c A 0) (.exit 1) qds])):
 Rt 243 [.agg (nd a b c A)] [cB true]:=
 h.of
theorem qBk(h:Oo (y19 a q b c A [.b (a==8) false,.l [] [5,1] [1] (qaa Tryz.f243 0) (qbe a b c A 0) .ret (qc8 r)])):
 Rt 243 [.agg (nd a b c A)] [cB r]:=
 h.of
theorem qBl(h:Oo (y19 a q b c A [.b (a==8) false,.l [] [5,1] [1] (qaa Tryz.f243 0) (qbe a b c A 0) (.exit 1) qds])):
 Rt 243 [.agg (nd a b c A)] [cB true]:=
 h.of
def y0w(a b:Int)(q:Bool)(l:List O):List O:=y0r a (.r 158 [cI b,cI 0,cI 999] [cB q]::l)
theorem qBm(h:Oo (y0w a b q [.n q true])):
 Rt 255 [.agg (nd a b c A)] [cB false]:=
 h.of
def y0x(a b:Int)(q:Bool)(l:List O):List O:=y0w a b q (.n q false::l)
theorem qBn(h:Oo (y0x a b q [.b (c != 0) true])):
 Rt 255 [.agg (nd a b c A)] [cB false]:=
 h.of
def y0y(a b:Int)(q:Bool)(c:Int)(l:List O):List O:=y0x a b q (.b (c != 0) false::l)
theorem qBo(h:Oo (y0y a b q c [.b (decide ((A.length:Int)>2)) true])):
 Rt 255 [.agg (nd a b c A)] [cB false]:=
 h.of
def y0z(a b:Int)(q:Bool)(c:Int)(A:LL)(l:List O):List O:=y0y a b q c (.b (decide ((A.length:Int)>2)) false::l)
theorem qBp(h:Oo (y0z a b q c A [.b (a==8) true,.b (decide ((A.length:Int)>0)) true])):
 Rt 255 [.agg (nd a b c A)] [cB false]:=
 h.of
def y0A(a b:Int)(q:Bool)(c:Int)(A:LL)(l:List O):List O:=y0z a b q c A (.b (a==8) true::.b (decide ((A.length:Int)>0)) false::l)
def y0B(a b:Int)(q:Bool)(c:Int)(A:LL)(d e:Int)(l:List O):List O:=y0A a b q c A (.b ((A.length:Int)==2) true::.p ((0:Int)≤0)::.p (0<(A.length:Int))::.e A 0 [I d]::.p ((0:Int)≤1)::.p (1<(A.length:Int))::.e A 1 [I e]::l)
theorem qBq(h:Oo (y0B a b q c A d e [.b (d==e) true])):
 Rt 255 [.agg (nd a b c A)] [cB false]:=
 h.of
def qar(A:LL)(a:Int):St:=
 { env:=envOf 101 [(91,vF 1 A),(92,vI (A.length:Int)),(93,vI a)],boxes:=[] }
def qa4(q:Bool):St:=
 { env:=envOf 101 [(2,.al (.one (.sb q)))],boxes:=[] }
theorem qBr(h:Oo [.i A a [I b],.r 158 [cI b,cI 0,cI 7] [cB q],.n q true]):
 Tp (qaa Tryz.f255 0) (qar A a) .ret (qa4 false):=
 h.lp [2] []
theorem qBs(h:Oo [.i A a [I b],.r 158 [cI b,cI 0,cI 7] [cB q],.n q false,.u a]):
 Tp (qaa Tryz.f255 0) (qar A a) .normal (qar A (a+1)):=
 h.lp [93,92,91] []
def qa7:St:=
 { env:=envOf 101 [],boxes:=[] }
theorem qBt(h:Oo [.f A a false]):
 Tp (qaa Tryz.f255 0) (qar A a) (.exit 1) qa7:=
 h.lp [] []
theorem qBu(h:Oo (y0B a b q c A d e [.b (d==e) false,.l [] [93,92,91] [] (qaa Tryz.f255 0) (qar A 0) .ret (qa4 r)])):
 Rt 255 [.agg (nd a b c A)] [cB r]:=
 h.of
theorem qBv(h:Oo (y0B a b q c A d e [.b (d==e) false,.l [] [93,92,91] [] (qaa Tryz.f255 0) (qar A 0) (.exit 1) qa7])):
 Rt 255 [.agg (nd a b c A)] [cB true]:=
 h.of
theorem qBw(h:Oo (y0A a b q c A [.b ((A.length:Int)==2) false,.l [] [93,92,91] [] (qaa Tryz.f255 0) (qar A 0) .ret (qa4 r)])):
 Rt 255 [.agg (nd a b c A)] [cB r]:=
 h.of
theorem qBx(h:Oo (y0A a b q c A [.b ((A.length:Int)==2) false,.l [] [93,92,91] [] (qaa Tryz.f255 0) (qar A 0) (.exit 1) qa7])):
 Rt 255 [.agg (nd a b c A)] [cB true]:=
 h.of
def y0C(a b:Int)(q:Bool)(c:Int)(A:LL)(d e:Int)(l:List O):List O:=y0z a b q c A (.b (a==8) false::.b ((A.length:Int)==2) true::.p ((0:Int)≤0)::.p (0<(A.length:Int))::.e A 0 [I d]::.p ((0:Int)≤1)::.p (1<(A.length:Int))::.e A 1 [I e]::l)
theorem qBy(h:Oo (y0C a b q c A d e [.b (d==e) true])):
 Rt 255 [.agg (nd a b c A)] [cB false]:=
 h.of
theorem qBz(h:Oo (y0C a b q c A d e [.b (d==e) false,.l [] [93,92,91] [] (qaa Tryz.f255 0) (qar A 0) .ret (qa4 r)])):
 Rt 255 [.agg (nd a b c A)] [cB r]:=
 h.of
theorem qBA(h:Oo (y0C a b q c A d e [.b (d==e) false,.l [] [93,92,91] [] (qaa Tryz.f255 0) (qar A 0) (.exit 1) qa7])):
 Rt 255 [.agg (nd a b c A)] [cB true]:=
 h.of
theorem qBB(h:Oo (y0z a b q c A [.b (a==8) false,.b ((A.length:Int)==2) false,.l [] [93,92,91] [] (qaa Tryz.f255 0) (qar A 0) .ret (qa4 r)])):
 Rt 255 [.agg (nd a b c A)] [cB r]:=
 h.of
theorem qBC(h:Oo (y0z a b q c A [.b (a==8) false,.b ((A.length:Int)==2) false,.l [] [93,92,91] [] (qaa Tryz.f255 0) (qar A 0) (.exit 1) qa7])):
 Rt 255 [.agg (nd a b c A)] [cB true]:=
 h.of
def y0K(a b:Int)(q:Bool)(l:List O):List O:=y0G a (.r 158 [cI b,cI 1,cI 10] [cB q]::l)
theorem qBD(h:Oo (y0K a b q [.n q true])):
 Rt 255 [.agg (nd a b c A)] [cB false]:=
 h.of
def y0L(a b:Int)(q:Bool)(c:Int)(r:Bool)(l:List O):List O:=y0K a b q (.n q false::.a .wr::.r 158 [cI c,cI 0,cI (IntKind.i64.wrap (b-1))] [cB r]::l)
theorem qBE(h:Oo (y0L a b q c r [.n r true])):
 Rt 255 [.agg (nd a b c A)] [cB false]:=
 h.of
def y0M(a b:Int)(q:Bool)(c:Int)(r:Bool)(l:List O):List O:=y0L a b q c r (.n r false::l)
theorem qBF(h:Oo (y0M a b q c r [.b (decide ((A.length:Int)>2)) true])):
 Rt 255 [.agg (nd a b c A)] [cB false]:=
 h.of
def y0N(a b:Int)(q:Bool)(c:Int)(r:Bool)(A:LL)(l:List O):List O:=y0M a b q c r (.b (decide ((A.length:Int)>2)) false::l)
theorem qBG(h:Oo (y0N a b q c r A [.b (a==8) true,.b (decide ((A.length:Int)>0)) true])):
 Rt 255 [.agg (nd a b c A)] [cB false]:=
 h.of
def y0O(a b:Int)(q:Bool)(c:Int)(r:Bool)(A:LL)(l:List O):List O:=y0N a b q c r A (.b (a==8) true::.b (decide ((A.length:Int)>0)) false::l)
def y0P(a b:Int)(q:Bool)(c:Int)(r:Bool)(A:LL)(d e:Int)(l:List O):List O:=y0O a b q c r A (.b ((A.length:Int)==2) true::.p ((0:Int)≤0)::.p (0<(A.length:Int))::.e A 0 [I d]::.p ((0:Int)≤1)::.p (1<(A.length:Int))::.e A 1 [I e]::l)
theorem qBH(h:Oo (y0P a b q c r A d e [.b (d==e) true])):
 Rt 255 [.agg (nd a b c A)] [cB false]:=
 h.of
theorem qBI(h:Oo (y0P a b q c r A d e [.b (d==e) false,.l [] [93,92,91] [] (qaa Tryz.f255 0) (qar A 0) .ret (qa4 s)])):
 Rt 255 [.agg (nd a b c A)] [cB s]:=
 h.of
theorem qBJ(h:Oo (y0P a b q c r A d e [.b (d==e) false,.l [] [93,92,91] [] (qaa Tryz.f255 0) (qar A 0) (.exit 1) qa7])):
 Rt 255 [.agg (nd a b c A)] [cB true]:=
 h.of
theorem qBK(h:Oo (y0O a b q c r A [.b ((A.length:Int)==2) false,.l [] [93,92,91] [] (qaa Tryz.f255 0) (qar A 0) .ret (qa4 s)])):
 Rt 255 [.agg (nd a b c A)] [cB s]:=
 h.of
theorem qBL(h:Oo (y0O a b q c r A [.b ((A.length:Int)==2) false,.l [] [93,92,91] [] (qaa Tryz.f255 0) (qar A 0) (.exit 1) qa7])):
 Rt 255 [.agg (nd a b c A)] [cB true]:=
 h.of
def y0Q(a b:Int)(q:Bool)(c:Int)(r:Bool)(A:LL)(d e:Int)(l:List O):List O:=y0N a b q c r A (.b (a==8) false::.b ((A.length:Int)==2) true::.p ((0:Int)≤0)::.p (0<(A.length:Int))::.e A 0 [I d]::.p ((0:Int)≤1)::.p (1<(A.length:Int))::.e A 1 [I e]::l)
theorem qBM(h:Oo (y0Q a b q c r A d e [.b (d==e) true])):
 Rt 255 [.agg (nd a b c A)] [cB false]:=
 h.of
theorem qBN(h:Oo (y0Q a b q c r A d e [.b (d==e) false,.l [] [93,92,91] [] (qaa Tryz.f255 0) (qar A 0) .ret (qa4 s)])):
 Rt 255 [.agg (nd a b c A)] [cB s]:=
 h.of
theorem qBO(h:Oo (y0Q a b q c r A d e [.b (d==e) false,.l [] [93,92,91] [] (qaa Tryz.f255 0) (qar A 0) (.exit 1) qa7])):
 Rt 255 [.agg (nd a b c A)] [cB true]:=
 h.of
theorem qBP(h:Oo (y0N a b q c r A [.b (a==8) false,.b ((A.length:Int)==2) false,.l [] [93,92,91] [] (qaa Tryz.f255 0) (qar A 0) .ret (qa4 s)])):
 Rt 255 [.agg (nd a b c A)] [cB s]:=
 h.of
theorem qBQ(h:Oo (y0N a b q c r A [.b (a==8) false,.b ((A.length:Int)==2) false,.l [] [93,92,91] [] (qaa Tryz.f255 0) (qar A 0) (.exit 1) qa7])):
 Rt 255 [.agg (nd a b c A)] [cB true]:=
 h.of
def y0X(a b:Int)(q:Bool)(l:List O):List O:=y0S a (.r 158 [cI b,cI 0,cI 99] [cB q]::l)
theorem qBR(h:Oo (y0X a b q [.n q true])):
 Rt 255 [.agg (nd a b c A)] [cB false]:=
 h.of
def y0Y(a b:Int)(q:Bool)(l:List O):List O:=y0X a b q (.n q false::l)
theorem qBS(h:Oo (y0Y a b q [.b (c != 0) true])):
 Rt 255 [.agg (nd a b c A)] [cB false]:=
 h.of
def y0Z(a b:Int)(q:Bool)(c:Int)(l:List O):List O:=y0Y a b q (.b (c != 0) false::l)
theorem qBT(h:Oo (y0Z a b q c [.b (decide ((A.length:Int)>2)) true])):
 Rt 255 [.agg (nd a b c A)] [cB false]:=
 h.of
def y10(a b:Int)(q:Bool)(c:Int)(A:LL)(l:List O):List O:=y0Z a b q c (.b (decide ((A.length:Int)>2)) false::l)
theorem qBU(h:Oo (y10 a b q c A [.b (a==8) true,.b (decide ((A.length:Int)>0)) true])):
 Rt 255 [.agg (nd a b c A)] [cB false]:=
 h.of
def y11(a b:Int)(q:Bool)(c:Int)(A:LL)(l:List O):List O:=y10 a b q c A (.b (a==8) true::.b (decide ((A.length:Int)>0)) false::l)
def y12(a b:Int)(q:Bool)(c:Int)(A:LL)(d e:Int)(l:List O):List O:=y11 a b q c A (.b ((A.length:Int)==2) true::.p ((0:Int)≤0)::.p (0<(A.length:Int))::.e A 0 [I d]::.p ((0:Int)≤1)::.p (1<(A.length:Int))::.e A 1 [I e]::l)
theorem qBV(h:Oo (y12 a b q c A d e [.b (d==e) true])):
 Rt 255 [.agg (nd a b c A)] [cB false]:=
 h.of
theorem qBW(h:Oo (y12 a b q c A d e [.b (d==e) false,.l [] [93,92,91] [] (qaa Tryz.f255 0) (qar A 0) .ret (qa4 r)])):
 Rt 255 [.agg (nd a b c A)] [cB r]:=
 h.of
theorem qBX(h:Oo (y12 a b q c A d e [.b (d==e) false,.l [] [93,92,91] [] (qaa Tryz.f255 0) (qar A 0) (.exit 1) qa7])):
 Rt 255 [.agg (nd a b c A)] [cB true]:=
 h.of
theorem qBY(h:Oo (y11 a b q c A [.b ((A.length:Int)==2) false,.l [] [93,92,91] [] (qaa Tryz.f255 0) (qar A 0) .ret (qa4 r)])):
 Rt 255 [.agg (nd a b c A)] [cB r]:=
 h.of
theorem qBZ(h:Oo (y11 a b q c A [.b ((A.length:Int)==2) false,.l [] [93,92,91] [] (qaa Tryz.f255 0) (qar A 0) (.exit 1) qa7])):
 Rt 255 [.agg (nd a b c A)] [cB true]:=
 h.of
def y13(a b:Int)(q:Bool)(c:Int)(A:LL)(d e:Int)(l:List O):List O:=y10 a b q c A (.b (a==8) false::.b ((A.length:Int)==2) true::.p ((0:Int)≤0)::.p (0<(A.length:Int))::.e A 0 [I d]::.p ((0:Int)≤1)::.p (1<(A.length:Int))::.e A 1 [I e]::l)
theorem qB0(h:Oo (y13 a b q c A d e [.b (d==e) true])):
 Rt 255 [.agg (nd a b c A)] [cB false]:=
 h.of
theorem qB1(h:Oo (y13 a b q c A d e [.b (d==e) false,.l [] [93,92,91] [] (qaa Tryz.f255 0) (qar A 0) .ret (qa4 r)])):
 Rt 255 [.agg (nd a b c A)] [cB r]:=
 h.of
theorem qB2(h:Oo (y13 a b q c A d e [.b (d==e) false,.l [] [93,92,91] [] (qaa Tryz.f255 0) (qar A 0) (.exit 1) qa7])):
 Rt 255 [.agg (nd a b c A)] [cB true]:=
 h.of
theorem qB3(h:Oo (y10 a b q c A [.b (a==8) false,.b ((A.length:Int)==2) false,.l [] [93,92,91] [] (qaa Tryz.f255 0) (qar A 0) .ret (qa4 r)])):
 Rt 255 [.agg (nd a b c A)] [cB r]:=
 h.of
theorem qB4(h:Oo (y10 a b q c A [.b (a==8) false,.b ((A.length:Int)==2) false,.l [] [93,92,91] [] (qaa Tryz.f255 0) (qar A 0) (.exit 1) qa7])):
 Rt 255 [.agg (nd a b c A)] [cB true]:=
 h.of
def y1a(a:Int)(l:List O):List O:=y14 a (.b (a==1) true::.b (a==1) true::l)
theorem qB5(h:Oo (y1a a [.b (b != 0) true])):
 Rt 255 [.agg (nd a b c A)] [cB false]:=
 h.of
def y1b(a b:Int)(l:List O):List O:=y1a a (.b (b != 0) false::l)
theorem qB6(h:Oo (y1b a b [.b (c != 0) true])):
 Rt 255 [.agg (nd a b c A)] [cB false]:=
 h.of
def y1c(a b c:Int)(l:List O):List O:=y1b a b (.b (c != 0) false::l)
theorem qB7(h:Oo (y1c a b c [.b (decide ((A.length:Int)>2)) true])):
 Rt 255 [.agg (nd a b c A)] [cB false]:=
 h.of
def y1d(a b c:Int)(A:LL)(l:List O):List O:=y1c a b c (.b (decide ((A.length:Int)>2)) false::l)
def y1e(a b c:Int)(A:LL)(l:List O):List O:=y1d a b c A (.b (a==8) true::l)
theorem qB8(h:Oo (y1e a b c A [.b (decide ((A.length:Int)>0)) true])):
 Rt 255 [.agg (nd a b c A)] [cB false]:=
 h.of
def y1f(a b c:Int)(A:LL)(l:List O):List O:=y1e a b c A (.b (decide ((A.length:Int)>0)) false::l)
def y1g(a b c:Int)(A:LL)(d e:Int)(l:List O):List O:=y1f a b c A (.b ((A.length:Int)==2) true::.p ((0:Int)≤0)::.p (0<(A.length:Int))::.e A 0 [I d]::.p ((0:Int)≤1)::.p (1<(A.length:Int))::.e A 1 [I e]::l)
theorem qB9(h:Oo (y1g a b c A d e [.b (d==e) true])):
 Rt 255 [.agg (nd a b c A)] [cB false]:=
 h.of
theorem qCa(h:Oo (y1g a b c A d e [.b (d==e) false,.l [] [93,92,91] [] (qaa Tryz.f255 0) (qar A 0) .ret (qa4 q)])):
 Rt 255 [.agg (nd a b c A)] [cB q]:=
 h.of
theorem qCb(h:Oo (y1g a b c A d e [.b (d==e) false,.l [] [93,92,91] [] (qaa Tryz.f255 0) (qar A 0) (.exit 1) qa7])):
 Rt 255 [.agg (nd a b c A)] [cB true]:=
 h.of
theorem qCc(h:Oo (y1f a b c A [.b ((A.length:Int)==2) false,.l [] [93,92,91] [] (qaa Tryz.f255 0) (qar A 0) .ret (qa4 q)])):
 Rt 255 [.agg (nd a b c A)] [cB q]:=
 h.of
theorem qCd(h:Oo (y1f a b c A [.b ((A.length:Int)==2) false,.l [] [93,92,91] [] (qaa Tryz.f255 0) (qar A 0) (.exit 1) qa7])):
 Rt 255 [.agg (nd a b c A)] [cB true]:=
 h.of
def y1h(a b c:Int)(A:LL)(d e:Int)(l:List O):List O:=y1d a b c A (.b (a==8) false::.b ((A.length:Int)==2) true::.p ((0:Int)≤0)::.p (0<(A.length:Int))::.e A 0 [I d]::.p ((0:Int)≤1)::.p (1<(A.length:Int))::.e A 1 [I e]::l)
theorem qCe(h:Oo (y1h a b c A d e [.b (d==e) true])):
 Rt 255 [.agg (nd a b c A)] [cB false]:=
 h.of
theorem qCf(h:Oo (y1h a b c A d e [.b (d==e) false,.l [] [93,92,91] [] (qaa Tryz.f255 0) (qar A 0) .ret (qa4 q)])):
 Rt 255 [.agg (nd a b c A)] [cB q]:=
 h.of
theorem qCg(h:Oo (y1h a b c A d e [.b (d==e) false,.l [] [93,92,91] [] (qaa Tryz.f255 0) (qar A 0) (.exit 1) qa7])):
 Rt 255 [.agg (nd a b c A)] [cB true]:=
 h.of
theorem qCh(h:Oo (y1d a b c A [.b (a==8) false,.b ((A.length:Int)==2) false,.l [] [93,92,91] [] (qaa Tryz.f255 0) (qar A 0) .ret (qa4 q)])):
 Rt 255 [.agg (nd a b c A)] [cB q]:=
 h.of
theorem qCi(h:Oo (y1d a b c A [.b (a==8) false,.b ((A.length:Int)==2) false,.l [] [93,92,91] [] (qaa Tryz.f255 0) (qar A 0) (.exit 1) qa7])):
 Rt 255 [.agg (nd a b c A)] [cB true]:=
 h.of
def y1i(a:Int)(l:List O):List O:=y14 a (.b (a==1) false::l)
def y1j(a:Int)(l:List O):List O:=y1i a (.b (a==5) true::.b (a==5) true::l)
theorem qCj(h:Oo (y1j a [.b (b != 0) true])):
 Rt 255 [.agg (nd a b c A)] [cB false]:=
 h.of
def y1k(a b:Int)(l:List O):List O:=y1j a (.b (b != 0) false::l)
theorem qCk(h:Oo (y1k a b [.b (c != 0) true])):
 Rt 255 [.agg (nd a b c A)] [cB false]:=
 h.of
def y1l(a b c:Int)(l:List O):List O:=y1k a b (.b (c != 0) false::l)
theorem qCl(h:Oo (y1l a b c [.b (decide ((A.length:Int)>2)) true])):
 Rt 255 [.agg (nd a b c A)] [cB false]:=
 h.of
def y1m(a b c:Int)(A:LL)(l:List O):List O:=y1l a b c (.b (decide ((A.length:Int)>2)) false::l)
def y1n(a b c:Int)(A:LL)(l:List O):List O:=y1m a b c A (.b (a==8) true::l)
theorem qCm(h:Oo (y1n a b c A [.b (decide ((A.length:Int)>0)) true])):
 Rt 255 [.agg (nd a b c A)] [cB false]:=
 h.of
def y1o(a b c:Int)(A:LL)(l:List O):List O:=y1n a b c A (.b (decide ((A.length:Int)>0)) false::l)
def y1p(a b c:Int)(A:LL)(d e:Int)(l:List O):List O:=y1o a b c A (.b ((A.length:Int)==2) true::.p ((0:Int)≤0)::.p (0<(A.length:Int))::.e A 0 [I d]::.p ((0:Int)≤1)::.p (1<(A.length:Int))::.e A 1 [I e]::l)
theorem qCn(h:Oo (y1p a b c A d e [.b (d==e) true])):
 Rt 255 [.agg (nd a b c A)] [cB false]:=
 h.of
theorem qCo(h:Oo (y1p a b c A d e [.b (d==e) false,.l [] [93,92,91] [] (qaa Tryz.f255 0) (qar A 0) .ret (qa4 q)])):
 Rt 255 [.agg (nd a b c A)] [cB q]:=
 h.of
theorem qCp(h:Oo (y1p a b c A d e [.b (d==e) false,.l [] [93,92,91] [] (qaa Tryz.f255 0) (qar A 0) (.exit 1) qa7])):
 Rt 255 [.agg (nd a b c A)] [cB true]:=
 h.of
theorem qCq(h:Oo (y1o a b c A [.b ((A.length:Int)==2) false,.l [] [93,92,91] [] (qaa Tryz.f255 0) (qar A 0) .ret (qa4 q)])):
 Rt 255 [.agg (nd a b c A)] [cB q]:=
 h.of
theorem qCr(h:Oo (y1o a b c A [.b ((A.length:Int)==2) false,.l [] [93,92,91] [] (qaa Tryz.f255 0) (qar A 0) (.exit 1) qa7])):
 Rt 255 [.agg (nd a b c A)] [cB true]:=
 h.of
def y1q(a b c:Int)(A:LL)(d e:Int)(l:List O):List O:=y1m a b c A (.b (a==8) false::.b ((A.length:Int)==2) true::.p ((0:Int)≤0)::.p (0<(A.length:Int))::.e A 0 [I d]::.p ((0:Int)≤1)::.p (1<(A.length:Int))::.e A 1 [I e]::l)
theorem qCs(h:Oo (y1q a b c A d e [.b (d==e) true])):
 Rt 255 [.agg (nd a b c A)] [cB false]:=
 h.of
theorem qCt(h:Oo (y1q a b c A d e [.b (d==e) false,.l [] [93,92,91] [] (qaa Tryz.f255 0) (qar A 0) .ret (qa4 q)])):
 Rt 255 [.agg (nd a b c A)] [cB q]:=
 h.of
theorem qCu(h:Oo (y1q a b c A d e [.b (d==e) false,.l [] [93,92,91] [] (qaa Tryz.f255 0) (qar A 0) (.exit 1) qa7])):
 Rt 255 [.agg (nd a b c A)] [cB true]:=
 h.of
theorem qCv(h:Oo (y1m a b c A [.b (a==8) false,.b ((A.length:Int)==2) false,.l [] [93,92,91] [] (qaa Tryz.f255 0) (qar A 0) .ret (qa4 q)])):
 Rt 255 [.agg (nd a b c A)] [cB q]:=
 h.of
theorem qCw(h:Oo (y1m a b c A [.b (a==8) false,.b ((A.length:Int)==2) false,.l [] [93,92,91] [] (qaa Tryz.f255 0) (qar A 0) (.exit 1) qa7])):
 Rt 255 [.agg (nd a b c A)] [cB true]:=
 h.of
def y1r(a:Int)(l:List O):List O:=y1i a (.b (a==5) false::l)
def y1s(a:Int)(l:List O):List O:=y1r a (.b (a==6) true::.b (a==6) true::l)
theorem qCx(h:Oo (y1s a [.b (b != 0) true])):
 Rt 255 [.agg (nd a b c A)] [cB false]:=
 h.of
def y1t(a b:Int)(l:List O):List O:=y1s a (.b (b != 0) false::l)
theorem qCy(h:Oo (y1t a b [.b (c != 0) true])):
 Rt 255 [.agg (nd a b c A)] [cB false]:=
 h.of
def y1u(a b c:Int)(l:List O):List O:=y1t a b (.b (c != 0) false::l)
theorem qCz(h:Oo (y1u a b c [.b (decide ((A.length:Int)>2)) true])):
 Rt 255 [.agg (nd a b c A)] [cB false]:=
 h.of
def y1v(a b c:Int)(A:LL)(l:List O):List O:=y1u a b c (.b (decide ((A.length:Int)>2)) false::l)
def y1w(a b c:Int)(A:LL)(l:List O):List O:=y1v a b c A (.b (a==8) true::l)
theorem qCA(h:Oo (y1w a b c A [.b (decide ((A.length:Int)>0)) true])):
 Rt 255 [.agg (nd a b c A)] [cB false]:=
 h.of
def y1x(a b c:Int)(A:LL)(l:List O):List O:=y1w a b c A (.b (decide ((A.length:Int)>0)) false::l)
def y1y(a b c:Int)(A:LL)(d e:Int)(l:List O):List O:=y1x a b c A (.b ((A.length:Int)==2) true::.p ((0:Int)≤0)::.p (0<(A.length:Int))::.e A 0 [I d]::.p ((0:Int)≤1)::.p (1<(A.length:Int))::.e A 1 [I e]::l)
theorem qCB(h:Oo (y1y a b c A d e [.b (d==e) true])):
 Rt 255 [.agg (nd a b c A)] [cB false]:=
 h.of
theorem qCC(h:Oo (y1y a b c A d e [.b (d==e) false,.l [] [93,92,91] [] (qaa Tryz.f255 0) (qar A 0) .ret (qa4 q)])):
 Rt 255 [.agg (nd a b c A)] [cB q]:=
 h.of
theorem qCD(h:Oo (y1y a b c A d e [.b (d==e) false,.l [] [93,92,91] [] (qaa Tryz.f255 0) (qar A 0) (.exit 1) qa7])):
 Rt 255 [.agg (nd a b c A)] [cB true]:=
 h.of
theorem qCE(h:Oo (y1x a b c A [.b ((A.length:Int)==2) false,.l [] [93,92,91] [] (qaa Tryz.f255 0) (qar A 0) .ret (qa4 q)])):
 Rt 255 [.agg (nd a b c A)] [cB q]:=
 h.of
theorem qCF(h:Oo (y1x a b c A [.b ((A.length:Int)==2) false,.l [] [93,92,91] [] (qaa Tryz.f255 0) (qar A 0) (.exit 1) qa7])):
 Rt 255 [.agg (nd a b c A)] [cB true]:=
 h.of
def y1z(a b c:Int)(A:LL)(d e:Int)(l:List O):List O:=y1v a b c A (.b (a==8) false::.b ((A.length:Int)==2) true::.p ((0:Int)≤0)::.p (0<(A.length:Int))::.e A 0 [I d]::.p ((0:Int)≤1)::.p (1<(A.length:Int))::.e A 1 [I e]::l)
theorem qCG(h:Oo (y1z a b c A d e [.b (d==e) true])):
 Rt 255 [.agg (nd a b c A)] [cB false]:=
 h.of
theorem qCH(h:Oo (y1z a b c A d e [.b (d==e) false,.l [] [93,92,91] [] (qaa Tryz.f255 0) (qar A 0) .ret (qa4 q)])):
 Rt 255 [.agg (nd a b c A)] [cB q]:=
 h.of
theorem qCI(h:Oo (y1z a b c A d e [.b (d==e) false,.l [] [93,92,91] [] (qaa Tryz.f255 0) (qar A 0) (.exit 1) qa7])):
 Rt 255 [.agg (nd a b c A)] [cB true]:=
 h.of
theorem qCJ(h:Oo (y1v a b c A [.b (a==8) false,.b ((A.length:Int)==2) false,.l [] [93,92,91] [] (qaa Tryz.f255 0) (qar A 0) .ret (qa4 q)])):
 Rt 255 [.agg (nd a b c A)] [cB q]:=
 h.of
theorem qCK(h:Oo (y1v a b c A [.b (a==8) false,.b ((A.length:Int)==2) false,.l [] [93,92,91] [] (qaa Tryz.f255 0) (qar A 0) (.exit 1) qa7])):
 Rt 255 [.agg (nd a b c A)] [cB true]:=
 h.of
def y1A(a:Int)(l:List O):List O:=y1r a (.b (a==6) false::l)
def y1B(a:Int)(l:List O):List O:=y1A a (.b (a==7) true::.b (a==7) true::l)
theorem qCL(h:Oo (y1B a [.b (b != 0) true])):
 Rt 255 [.agg (nd a b c A)] [cB false]:=
 h.of
def y1C(a b:Int)(l:List O):List O:=y1B a (.b (b != 0) false::l)
theorem qCM(h:Oo (y1C a b [.b (c != 0) true])):
 Rt 255 [.agg (nd a b c A)] [cB false]:=
 h.of
def y1D(a b c:Int)(l:List O):List O:=y1C a b (.b (c != 0) false::l)
theorem qCN(h:Oo (y1D a b c [.b (decide ((A.length:Int)>2)) true])):
 Rt 255 [.agg (nd a b c A)] [cB false]:=
 h.of
def y1E(a b c:Int)(A:LL)(l:List O):List O:=y1D a b c (.b (decide ((A.length:Int)>2)) false::l)
def y1F(a b c:Int)(A:LL)(l:List O):List O:=y1E a b c A (.b (a==8) true::l)
theorem qCO(h:Oo (y1F a b c A [.b (decide ((A.length:Int)>0)) true])):
 Rt 255 [.agg (nd a b c A)] [cB false]:=
 h.of
def y1G(a b c:Int)(A:LL)(l:List O):List O:=y1F a b c A (.b (decide ((A.length:Int)>0)) false::l)
def y1H(a b c:Int)(A:LL)(d e:Int)(l:List O):List O:=y1G a b c A (.b ((A.length:Int)==2) true::.p ((0:Int)≤0)::.p (0<(A.length:Int))::.e A 0 [I d]::.p ((0:Int)≤1)::.p (1<(A.length:Int))::.e A 1 [I e]::l)
theorem qCP(h:Oo (y1H a b c A d e [.b (d==e) true])):
 Rt 255 [.agg (nd a b c A)] [cB false]:=
 h.of
theorem qCQ(h:Oo (y1H a b c A d e [.b (d==e) false,.l [] [93,92,91] [] (qaa Tryz.f255 0) (qar A 0) .ret (qa4 q)])):
 Rt 255 [.agg (nd a b c A)] [cB q]:=
 h.of
theorem qCR(h:Oo (y1H a b c A d e [.b (d==e) false,.l [] [93,92,91] [] (qaa Tryz.f255 0) (qar A 0) (.exit 1) qa7])):
 Rt 255 [.agg (nd a b c A)] [cB true]:=
 h.of
theorem qCS(h:Oo (y1G a b c A [.b ((A.length:Int)==2) false,.l [] [93,92,91] [] (qaa Tryz.f255 0) (qar A 0) .ret (qa4 q)])):
 Rt 255 [.agg (nd a b c A)] [cB q]:=
 h.of
theorem qCT(h:Oo (y1G a b c A [.b ((A.length:Int)==2) false,.l [] [93,92,91] [] (qaa Tryz.f255 0) (qar A 0) (.exit 1) qa7])):
 Rt 255 [.agg (nd a b c A)] [cB true]:=
 h.of
def y1I(a b c:Int)(A:LL)(d e:Int)(l:List O):List O:=y1E a b c A (.b (a==8) false::.b ((A.length:Int)==2) true::.p ((0:Int)≤0)::.p (0<(A.length:Int))::.e A 0 [I d]::.p ((0:Int)≤1)::.p (1<(A.length:Int))::.e A 1 [I e]::l)
theorem qCU(h:Oo (y1I a b c A d e [.b (d==e) true])):
 Rt 255 [.agg (nd a b c A)] [cB false]:=
 h.of
theorem qCV(h:Oo (y1I a b c A d e [.b (d==e) false,.l [] [93,92,91] [] (qaa Tryz.f255 0) (qar A 0) .ret (qa4 q)])):
 Rt 255 [.agg (nd a b c A)] [cB q]:=
 h.of
theorem qCW(h:Oo (y1I a b c A d e [.b (d==e) false,.l [] [93,92,91] [] (qaa Tryz.f255 0) (qar A 0) (.exit 1) qa7])):
 Rt 255 [.agg (nd a b c A)] [cB true]:=
 h.of
theorem qCX(h:Oo (y1E a b c A [.b (a==8) false,.b ((A.length:Int)==2) false,.l [] [93,92,91] [] (qaa Tryz.f255 0) (qar A 0) .ret (qa4 q)])):
 Rt 255 [.agg (nd a b c A)] [cB q]:=
 h.of
theorem qCY(h:Oo (y1E a b c A [.b (a==8) false,.b ((A.length:Int)==2) false,.l [] [93,92,91] [] (qaa Tryz.f255 0) (qar A 0) (.exit 1) qa7])):
 Rt 255 [.agg (nd a b c A)] [cB true]:=
 h.of
def y1J(a:Int)(l:List O):List O:=y1A a (.b (a==7) false::l)
def y1K(a:Int)(l:List O):List O:=y1J a (.b (a==8) true::l)
theorem qCZ(h:Oo (y1K a [.b (b != 0) true])):
 Rt 255 [.agg (nd a b c A)] [cB false]:=
 h.of
def y1L(a b:Int)(l:List O):List O:=y1K a (.b (b != 0) false::l)
theorem qC0(h:Oo (y1L a b [.b (c != 0) true])):
 Rt 255 [.agg (nd a b c A)] [cB false]:=
 h.of
def y1M(a b c:Int)(l:List O):List O:=y1L a b (.b (c != 0) false::l)
theorem qC1(h:Oo (y1M a b c [.b (decide ((A.length:Int)>2)) true])):
 Rt 255 [.agg (nd a b c A)] [cB false]:=
 h.of
def y1N(a b c:Int)(A:LL)(l:List O):List O:=y1M a b c (.b (decide ((A.length:Int)>2)) false::.b (a==8) true::l)
theorem qC2(h:Oo (y1N a b c A [.b (decide ((A.length:Int)>0)) true])):
 Rt 255 [.agg (nd a b c A)] [cB false]:=
 h.of
def y1O(a b c:Int)(A:LL)(l:List O):List O:=y1N a b c A (.b (decide ((A.length:Int)>0)) false::l)
def y1P(a b c:Int)(A:LL)(d e:Int)(l:List O):List O:=y1O a b c A (.b ((A.length:Int)==2) true::.p ((0:Int)≤0)::.p (0<(A.length:Int))::.e A 0 [I d]::.p ((0:Int)≤1)::.p (1<(A.length:Int))::.e A 1 [I e]::l)
theorem qC3(h:Oo (y1P a b c A d e [.b (d==e) true])):
 Rt 255 [.agg (nd a b c A)] [cB false]:=
 h.of
theorem qC4(h:Oo (y1P a b c A d e [.b (d==e) false,.l [] [93,92,91] [] (qaa Tryz.f255 0) (qar A 0) .ret (qa4 q)])):
 Rt 255 [.agg (nd a b c A)] [cB q]:=
 h.of
theorem qC5(h:Oo (y1P a b c A d e [.b (d==e) false,.l [] [93,92,91] [] (qaa Tryz.f255 0) (qar A 0) (.exit 1) qa7])):
 Rt 255 [.agg (nd a b c A)] [cB true]:=
 h.of
theorem qC6(h:Oo (y1O a b c A [.b ((A.length:Int)==2) false,.l [] [93,92,91] [] (qaa Tryz.f255 0) (qar A 0) .ret (qa4 q)])):
 Rt 255 [.agg (nd a b c A)] [cB q]:=
 h.of
theorem qC7(h:Oo (y1O a b c A [.b ((A.length:Int)==2) false,.l [] [93,92,91] [] (qaa Tryz.f255 0) (qar A 0) (.exit 1) qa7])):
 Rt 255 [.agg (nd a b c A)] [cB true]:=
 h.of
theorem qC8(h:Oo (y1J a [.b (a==8) false])):
 Rt 255 [.agg (nd a b c A)] [cB false]:=
 h.of
end Go.Proofs.YtdkobdhckkjmeaaGreat
