import Derived.Test.YtdkobdhckkjmeaaGreatRows
import Derived.Test.YtdkobdhckkjmeaaGreatGE
set_option linter.unusedVariables false
set_option linter.unusedSimpArgs false
namespace Go.Proofs.YtdkobdhckkjmeaaGreat
open Go.Sx Go.RowKit
variable {a b c d e f g : Int} {A : LL} {q r s t : Bool}
def y0X(a:Int)(l:List O):List O:=.b (a==2) true::l
def y0Y(a b:Int)(q r:Bool)(l:List O):List O:=y0X a (.r 167 [cI b,cI 0,cI 999] [cB q]::.r 167 [cI a,cI 1,cI 8] [cB r]::l)
theorem qBb(h:Oo (y0Y a b r q [.n q true])):
 Rt 243 [.agg (nd a b c A)] [cB false]:=
 h.of
def y0Z(a b:Int)(q r:Bool)(l:List O):List O:=y0Y a b q r (.n r false::l)
theorem qBc(h:Oo (y0Z a b q r [.n q true])):
 Rt 243 [.agg (nd a b c A)] [cB false]:=
 h.of
theorem qBd(h:Oo (y0Z a b q r [.n q false,.b (!c==0) true])):
 Rt 243 [.agg (nd a b c A)] [cB false]:=
 h.of
def y10(a b:Int)(q r:Bool)(c:Int)(l:List O):List O:=y0Z a b q r (.n q false::.b (!c==0) false::l)
theorem qBe(h:Oo (y10 a b q r c [.b (decide ((A.length:Int)>2)) true])):
 Rt 243 [.agg (nd a b c A)] [cB false]:=
 h.of
def y11(a b:Int)(q r:Bool)(c:Int)(A:LL)(l:List O):List O:=y10 a b q r c (.b (decide ((A.length:Int)>2)) false::l)
theorem qBf(h:Oo (y11 a b q r c A [.b (a==8) true,.b (decide ((A.length:Int)>0)) true])):
 Rt 243 [.agg (nd a b c A)] [cB false]:=
 h.of
def qbe(a b c:Int)(A:LL)(d:Int):St:=
 { env:=envOf 93 [(1,vP 1),(5,vI d)],boxes:=[(1,[lI a,lI b,lI c,.sl .free 1 A])] }
def qc7(q:Bool):St:=
 { env:=envOf 93 [(2,.al (.one (.sb q)))],boxes:=[] }
def y19(A:LL)(a b:Int)(q:Bool)(l:List O):List O:=.i A a [I b]::.r 167 [cI b,cI 0,cI 7] [cB q]::l
theorem qmy(h:Oo (y19 A a b q [.n q true])):
 Tp (qaa Tryz.f243 0) (qbe c d e A a) .ret (qc7 false):=
 h.lp [2] []
def y1a(A:LL)(a b:Int)(q:Bool)(c d:Int)(l:List O):List O:=y19 A a b q (.n q false::.b (decide (a>0)) true::.p ((0:Int)≤0)::.p (0<(A.length:Int))::.e A 0 [I c]::.p ((0:Int)≤1)::.p (1<(A.length:Int))::.e A 1 [I d]::l)
theorem qBg(h:Oo (y1a A a c q d b [.b (d==b) true])):
 Tp (qaa Tryz.f243 0) (qbe e f g A a) .ret (qc7 false):=
 h.lp [2] []
theorem qBh(h:Oo (y1a A a f q g d [.b (g==d) false,.u a])):
 Tp (qaa Tryz.f243 0) (qbe b c e A a) .normal (qbe b c e A (a+1)):=
 h.lp [5,1] [1]
theorem qqO(h:Oo (y19 A a e q [.n q false,.b (decide (a>0)) false,.u a])):
 Tp (qaa Tryz.f243 0) (qbe b c d A a) .normal (qbe b c d A (a+1)):=
 h.lp [5,1] [1]
def qdr:St:=
 { env:=envOf 93 [],boxes:=[] }
theorem qmz(h:Oo [.f A a false]):
 Tp (qaa Tryz.f243 0) (qbe b c d A a) (.exit 1) qdr:=
 h.lp [] []
theorem qBi(h:Oo (y11 a b q r c A [.b (a==8) true,.b (decide ((A.length:Int)>0)) false,.l [] [5,1] [1] (qaa Tryz.f243 0) (qbe a b c A 0) .ret (qc7 s)])):
 Rt 243 [.agg (nd a b c A)] [cB s]:=
 h.of
theorem qBj(h:Oo (y11 a b q r c A [.b (a==8) true,.b (decide ((A.length:Int)>0)) false,.l [] [5,1] [1] (qaa Tryz.f243 0) (qbe a b c A 0) (.exit 1) qdr])):
 Rt 243 [.agg (nd a b c A)] [cB true]:=
 h.of
theorem qBk(h:Oo (y11 a b q r c A [.b (a==8) false,.l [] [5,1] [1] (qaa Tryz.f243 0) (qbe a b c A 0) .ret (qc7 s)])):
 Rt 243 [.agg (nd a b c A)] [cB s]:=
 h.of
theorem qBl(h:Oo (y11 a b q r c A [.b (a==8) false,.l [] [5,1] [1] (qaa Tryz.f243 0) (qbe a b c A 0) (.exit 1) qdr])):
 Rt 243 [.agg (nd a b c A)] [cB true]:=
 h.of
def y1b(a:Int)(l:List O):List O:=.b (a==2) false::l
def y1c(a:Int)(l:List O):List O:=y1b a (.b (a==3) true::l)
def y1d(a b:Int)(q:Bool)(c:Int)(r s:Bool)(l:List O):List O:=y1c a (.r 167 [cI b,cI 1,cI 10] [cB q]::.a .wr::.r 167 [cI c,cI 0,cI (IntKind.i64.wrap (b-1))] [cB r]::.r 167 [cI a,cI 1,cI 8] [cB s]::l)
theorem qBm(h:Oo (y1d a b r c s q [.n q true])):
 Rt 243 [.agg (nd a b c A)] [cB false]:=
 h.of
theorem qBn(h:Oo (y1d a b q c s r [.n r false,.n q true])):
 Rt 243 [.agg (nd a b c A)] [cB false]:=
 h.of
def y1e(a b:Int)(q:Bool)(c:Int)(r s:Bool)(l:List O):List O:=y1d a b q c r s (.n s false::.n q false::l)
theorem qBo(h:Oo (y1e a b q c r s [.n r true])):
 Rt 243 [.agg (nd a b c A)] [cB false]:=
 h.of
theorem qBp(h:Oo (y1e a b q c r s [.n r false,.b (decide ((A.length:Int)>2)) true])):
 Rt 243 [.agg (nd a b c A)] [cB false]:=
 h.of
def y1f(a b:Int)(q:Bool)(c:Int)(r s:Bool)(A:LL)(l:List O):List O:=y1e a b q c r s (.n r false::.b (decide ((A.length:Int)>2)) false::l)
theorem qBq(h:Oo (y1f a b q c r s A [.b (a==8) true,.b (decide ((A.length:Int)>0)) true])):
 Rt 243 [.agg (nd a b c A)] [cB false]:=
 h.of
theorem qBr(h:Oo (y1f a b q c r s A [.b (a==8) true,.b (decide ((A.length:Int)>0)) false,.l [] [5,1] [1] (qaa Tryz.f243 0) (qbe a b c A 0) .ret (qc7 t)])):
 Rt 243 [.agg (nd a b c A)] [cB t]:=
 h.of
theorem qBs(h:Oo (y1f a b q c r s A [.b (a==8) true,.b (decide ((A.length:Int)>0)) false,.l [] [5,1] [1] (qaa Tryz.f243 0) (qbe a b c A 0) (.exit 1) qdr])):
 Rt 243 [.agg (nd a b c A)] [cB true]:=
 h.of
theorem qBt(h:Oo (y1f a b q c r s A [.b (a==8) false,.l [] [5,1] [1] (qaa Tryz.f243 0) (qbe a b c A 0) .ret (qc7 t)])):
 Rt 243 [.agg (nd a b c A)] [cB t]:=
 h.of
theorem qBu(h:Oo (y1f a b q c r s A [.b (a==8) false,.l [] [5,1] [1] (qaa Tryz.f243 0) (qbe a b c A 0) (.exit 1) qdr])):
 Rt 243 [.agg (nd a b c A)] [cB true]:=
 h.of
def y1n(a:Int)(l:List O):List O:=y1b a (.b (a==3) false::l)
def y1o(a:Int)(l:List O):List O:=y1n a (.b (a==4) true::l)
def y1p(a b:Int)(q r:Bool)(l:List O):List O:=y1o a (.r 167 [cI b,cI 0,cI 99] [cB q]::.r 167 [cI a,cI 1,cI 8] [cB r]::l)
theorem qBv(h:Oo (y1p a b r q [.n q true])):
 Rt 243 [.agg (nd a b c A)] [cB false]:=
 h.of
def y1q(a b:Int)(q r:Bool)(l:List O):List O:=y1p a b q r (.n r false::l)
theorem qBw(h:Oo (y1q a b q r [.n q true])):
 Rt 243 [.agg (nd a b c A)] [cB false]:=
 h.of
theorem qBx(h:Oo (y1q a b q r [.n q false,.b (!c==0) true])):
 Rt 243 [.agg (nd a b c A)] [cB false]:=
 h.of
def y1r(a b:Int)(q r:Bool)(c:Int)(l:List O):List O:=y1q a b q r (.n q false::.b (!c==0) false::l)
theorem qBy(h:Oo (y1r a b q r c [.b (decide ((A.length:Int)>2)) true])):
 Rt 243 [.agg (nd a b c A)] [cB false]:=
 h.of
def y1s(a b:Int)(q r:Bool)(c:Int)(A:LL)(l:List O):List O:=y1r a b q r c (.b (decide ((A.length:Int)>2)) false::l)
theorem qBz(h:Oo (y1s a b q r c A [.b (a==8) true,.b (decide ((A.length:Int)>0)) true])):
 Rt 243 [.agg (nd a b c A)] [cB false]:=
 h.of
theorem qBA(h:Oo (y1s a b q r c A [.b (a==8) true,.b (decide ((A.length:Int)>0)) false,.l [] [5,1] [1] (qaa Tryz.f243 0) (qbe a b c A 0) .ret (qc7 s)])):
 Rt 243 [.agg (nd a b c A)] [cB s]:=
 h.of
theorem qBB(h:Oo (y1s a b q r c A [.b (a==8) true,.b (decide ((A.length:Int)>0)) false,.l [] [5,1] [1] (qaa Tryz.f243 0) (qbe a b c A 0) (.exit 1) qdr])):
 Rt 243 [.agg (nd a b c A)] [cB true]:=
 h.of
theorem qBC(h:Oo (y1s a b q r c A [.b (a==8) false,.l [] [5,1] [1] (qaa Tryz.f243 0) (qbe a b c A 0) .ret (qc7 s)])):
 Rt 243 [.agg (nd a b c A)] [cB s]:=
 h.of
theorem qBD(h:Oo (y1s a b q r c A [.b (a==8) false,.l [] [5,1] [1] (qaa Tryz.f243 0) (qbe a b c A 0) (.exit 1) qdr])):
 Rt 243 [.agg (nd a b c A)] [cB true]:=
 h.of
def y1A(a:Int)(l:List O):List O:=y1n a (.b (a==4) false::l)
def y1B(a:Int)(q:Bool)(l:List O):List O:=y1A a (.r 167 [cI a,cI 1,cI 8] [cB q]::l)
theorem qBE(h:Oo (y1B a q [.n q true])):
 Rt 243 [.agg (nd a b c A)] [cB false]:=
 h.of
def y1C(a:Int)(q:Bool)(l:List O):List O:=y1B a q (.n q false::l)
theorem qBF(h:Oo (y1C a q [.b (!b==0) true])):
 Rt 243 [.agg (nd a b c A)] [cB false]:=
 h.of
def y1D(a:Int)(q:Bool)(b:Int)(l:List O):List O:=y1C a q (.b (!b==0) false::l)
theorem qBG(h:Oo (y1D a q b [.b (!c==0) true])):
 Rt 243 [.agg (nd a b c A)] [cB false]:=
 h.of
def y1E(a:Int)(q:Bool)(b c:Int)(l:List O):List O:=y1D a q b (.b (!c==0) false::l)
theorem qBH(h:Oo (y1E a q b c [.b (decide ((A.length:Int)>2)) true])):
 Rt 243 [.agg (nd a b c A)] [cB false]:=
 h.of
def y1F(a:Int)(q:Bool)(b c:Int)(A:LL)(l:List O):List O:=y1E a q b c (.b (decide ((A.length:Int)>2)) false::l)
theorem qBI(h:Oo (y1F a q b c A [.b (a==8) true,.b (decide ((A.length:Int)>0)) true])):
 Rt 243 [.agg (nd a b c A)] [cB false]:=
 h.of
theorem qBJ(h:Oo (y1F a q b c A [.b (a==8) true,.b (decide ((A.length:Int)>0)) false,.l [] [5,1] [1] (qaa Tryz.f243 0) (qbe a b c A 0) .ret (qc7 r)])):
 Rt 243 [.agg (nd a b c A)] [cB r]:=
 h.of
theorem qBK(h:Oo (y1F a q b c A [.b (a==8) true,.b (decide ((A.length:Int)>0)) false,.l [] [5,1] [1] (qaa Tryz.f243 0) (qbe a b c A 0) (.exit 1) qdr])):
 Rt 243 [.agg (nd a b c A)] [cB true]:=
 h.of
theorem qBL(h:Oo (y1F a q b c A [.b (a==8) false,.l [] [5,1] [1] (qaa Tryz.f243 0) (qbe a b c A 0) .ret (qc7 r)])):
 Rt 243 [.agg (nd a b c A)] [cB r]:=
 h.of
theorem qBM(h:Oo (y1F a q b c A [.b (a==8) false,.l [] [5,1] [1] (qaa Tryz.f243 0) (qbe a b c A 0) (.exit 1) qdr])):
 Rt 243 [.agg (nd a b c A)] [cB true]:=
 h.of
def y12(a b:Int)(q:Bool)(l:List O):List O:=y0X a (.r 158 [cI b,cI 0,cI 999] [cB q]::l)
theorem qBN(h:Oo (y12 a b q [.n q true])):
 Rt 255 [.agg (nd a b c A)] [cB false]:=
 h.of
def y13(a b:Int)(q:Bool)(l:List O):List O:=y12 a b q (.n q false::l)
theorem qBO(h:Oo (y13 a b q [.b (c != 0) true])):
 Rt 255 [.agg (nd a b c A)] [cB false]:=
 h.of
def y14(a b:Int)(q:Bool)(c:Int)(l:List O):List O:=y13 a b q (.b (c != 0) false::l)
theorem qBP(h:Oo (y14 a b q c [.b (decide ((A.length:Int)>2)) true])):
 Rt 255 [.agg (nd a b c A)] [cB false]:=
 h.of
def y15(a b:Int)(q:Bool)(c:Int)(A:LL)(l:List O):List O:=y14 a b q c (.b (decide ((A.length:Int)>2)) false::l)
theorem qBQ(h:Oo (y15 a b q c A [.b (a==8) true,.b (decide ((A.length:Int)>0)) true])):
 Rt 255 [.agg (nd a b c A)] [cB false]:=
 h.of
def y16(a b:Int)(q:Bool)(c:Int)(A:LL)(l:List O):List O:=y15 a b q c A (.b (a==8) true::.b (decide ((A.length:Int)>0)) false::l)
def y17(a b:Int)(q:Bool)(c:Int)(A:LL)(d e:Int)(l:List O):List O:=y16 a b q c A (.b ((A.length:Int)==2) true::.p ((0:Int)≤0)::.p (0<(A.length:Int))::.e A 0 [I d]::.p ((0:Int)≤1)::.p (1<(A.length:Int))::.e A 1 [I e]::l)
theorem qBR(h:Oo (y17 a b q c A d e [.b (d==e) true])):
 Rt 255 [.agg (nd a b c A)] [cB false]:=
 h.of
def qar(A:LL)(a:Int):St:=
 { env:=envOf 101 [(91,vF 1 A),(92,vI (A.length:Int)),(93,vI a)],boxes:=[] }
def qa3(q:Bool):St:=
 { env:=envOf 101 [(2,.al (.one (.sb q)))],boxes:=[] }
theorem qBS(h:Oo [.i A a [I b],.r 158 [cI b,cI 0,cI 7] [cB q],.n q true]):
 Tp (qaa Tryz.f255 0) (qar A a) .ret (qa3 false):=
 h.lp [2] []
theorem qBT(h:Oo [.i A a [I b],.r 158 [cI b,cI 0,cI 7] [cB q],.n q false,.u a]):
 Tp (qaa Tryz.f255 0) (qar A a) .normal (qar A (a+1)):=
 h.lp [93,92,91] []
def qa5:St:=
 { env:=envOf 101 [],boxes:=[] }
theorem qBU(h:Oo [.f A a false]):
 Tp (qaa Tryz.f255 0) (qar A a) (.exit 1) qa5:=
 h.lp [] []
theorem qBV(h:Oo (y17 a b q c A d e [.b (d==e) false,.l [] [93,92,91] [] (qaa Tryz.f255 0) (qar A 0) .ret (qa3 r)])):
 Rt 255 [.agg (nd a b c A)] [cB r]:=
 h.of
theorem qBW(h:Oo (y17 a b q c A d e [.b (d==e) false,.l [] [93,92,91] [] (qaa Tryz.f255 0) (qar A 0) (.exit 1) qa5])):
 Rt 255 [.agg (nd a b c A)] [cB true]:=
 h.of
theorem qBX(h:Oo (y16 a b q c A [.b ((A.length:Int)==2) false,.l [] [93,92,91] [] (qaa Tryz.f255 0) (qar A 0) .ret (qa3 r)])):
 Rt 255 [.agg (nd a b c A)] [cB r]:=
 h.of
theorem qBY(h:Oo (y16 a b q c A [.b ((A.length:Int)==2) false,.l [] [93,92,91] [] (qaa Tryz.f255 0) (qar A 0) (.exit 1) qa5])):
 Rt 255 [.agg (nd a b c A)] [cB true]:=
 h.of
def y18(a b:Int)(q:Bool)(c:Int)(A:LL)(d e:Int)(l:List O):List O:=y15 a b q c A (.b (a==8) false::.b ((A.length:Int)==2) true::.p ((0:Int)≤0)::.p (0<(A.length:Int))::.e A 0 [I d]::.p ((0:Int)≤1)::.p (1<(A.length:Int))::.e A 1 [I e]::l)
theorem qBZ(h:Oo (y18 a b q c A d e [.b (d==e) true])):
 Rt 255 [.agg (nd a b c A)] [cB false]:=
 h.of
theorem qB0(h:Oo (y18 a b q c A d e [.b (d==e) false,.l [] [93,92,91] [] (qaa Tryz.f255 0) (qar A 0) .ret (qa3 r)])):
 Rt 255 [.agg (nd a b c A)] [cB r]:=
 h.of
theorem qB1(h:Oo (y18 a b q c A d e [.b (d==e) false,.l [] [93,92,91] [] (qaa Tryz.f255 0) (qar A 0) (.exit 1) qa5])):
 Rt 255 [.agg (nd a b c A)] [cB true]:=
 h.of
theorem qB2(h:Oo (y15 a b q c A [.b (a==8) false,.b ((A.length:Int)==2) false,.l [] [93,92,91] [] (qaa Tryz.f255 0) (qar A 0) .ret (qa3 r)])):
 Rt 255 [.agg (nd a b c A)] [cB r]:=
 h.of
theorem qB3(h:Oo (y15 a b q c A [.b (a==8) false,.b ((A.length:Int)==2) false,.l [] [93,92,91] [] (qaa Tryz.f255 0) (qar A 0) (.exit 1) qa5])):
 Rt 255 [.agg (nd a b c A)] [cB true]:=
 h.of
def y1g(a b:Int)(q:Bool)(l:List O):List O:=y1c a (.r 158 [cI b,cI 1,cI 10] [cB q]::l)
theorem qB4(h:Oo (y1g a b q [.n q true])):
 Rt 255 [.agg (nd a b c A)] [cB false]:=
 h.of
def y1h(a b:Int)(q:Bool)(c:Int)(r:Bool)(l:List O):List O:=y1g a b q (.n q false::.a .wr::.r 158 [cI c,cI 0,cI (IntKind.i64.wrap (b-1))] [cB r]::l)
theorem qB5(h:Oo (y1h a b q c r [.n r true])):
 Rt 255 [.agg (nd a b c A)] [cB false]:=
 h.of
def y1i(a b:Int)(q:Bool)(c:Int)(r:Bool)(l:List O):List O:=y1h a b q c r (.n r false::l)
theorem qB6(h:Oo (y1i a b q c r [.b (decide ((A.length:Int)>2)) true])):
 Rt 255 [.agg (nd a b c A)] [cB false]:=
 h.of
def y1j(a b:Int)(q:Bool)(c:Int)(r:Bool)(A:LL)(l:List O):List O:=y1i a b q c r (.b (decide ((A.length:Int)>2)) false::l)
theorem qB7(h:Oo (y1j a b q c r A [.b (a==8) true,.b (decide ((A.length:Int)>0)) true])):
 Rt 255 [.agg (nd a b c A)] [cB false]:=
 h.of
def y1k(a b:Int)(q:Bool)(c:Int)(r:Bool)(A:LL)(l:List O):List O:=y1j a b q c r A (.b (a==8) true::.b (decide ((A.length:Int)>0)) false::l)
def y1l(a b:Int)(q:Bool)(c:Int)(r:Bool)(A:LL)(d e:Int)(l:List O):List O:=y1k a b q c r A (.b ((A.length:Int)==2) true::.p ((0:Int)≤0)::.p (0<(A.length:Int))::.e A 0 [I d]::.p ((0:Int)≤1)::.p (1<(A.length:Int))::.e A 1 [I e]::l)
theorem qB8(h:Oo (y1l a b q c r A d e [.b (d==e) true])):
 Rt 255 [.agg (nd a b c A)] [cB false]:=
 h.of
theorem qB9(h:Oo (y1l a b q c r A d e [.b (d==e) false,.l [] [93,92,91] [] (qaa Tryz.f255 0) (qar A 0) .ret (qa3 s)])):
 Rt 255 [.agg (nd a b c A)] [cB s]:=
 h.of
theorem qCa(h:Oo (y1l a b q c r A d e [.b (d==e) false,.l [] [93,92,91] [] (qaa Tryz.f255 0) (qar A 0) (.exit 1) qa5])):
 Rt 255 [.agg (nd a b c A)] [cB true]:=
 h.of
theorem qCb(h:Oo (y1k a b q c r A [.b ((A.length:Int)==2) false,.l [] [93,92,91] [] (qaa Tryz.f255 0) (qar A 0) .ret (qa3 s)])):
 Rt 255 [.agg (nd a b c A)] [cB s]:=
 h.of
theorem qCc(h:Oo (y1k a b q c r A [.b ((A.length:Int)==2) false,.l [] [93,92,91] [] (qaa Tryz.f255 0) (qar A 0) (.exit 1) qa5])):
 Rt 255 [.agg (nd a b c A)] [cB true]:=
 h.of
def y1m(a b:Int)(q:Bool)(c:Int)(r:Bool)(A:LL)(d e:Int)(l:List O):List O:=y1j a b q c r A (.b (a==8) false::.b ((A.length:Int)==2) true::.p ((0:Int)≤0)::.p (0<(A.length:Int))::.e A 0 [I d]::.p ((0:Int)≤1)::.p (1<(A.length:Int))::.e A 1 [I e]::l)
theorem qCd(h:Oo (y1m a b q c r A d e [.b (d==e) true])):
 Rt 255 [.agg (nd a b c A)] [cB false]:=
 h.of
theorem qCe(h:Oo (y1m a b q c r A d e [.b (d==e) false,.l [] [93,92,91] [] (qaa Tryz.f255 0) (qar A 0) .ret (qa3 s)])):
 Rt 255 [.agg (nd a b c A)] [cB s]:=
 h.of
theorem qCf(h:Oo (y1m a b q c r A d e [.b (d==e) false,.l [] [93,92,91] [] (qaa Tryz.f255 0) (qar A 0) (.exit 1) qa5])):
 Rt 255 [.agg (nd a b c A)] [cB true]:=
 h.of
theorem qCg(h:Oo (y1j a b q c r A [.b (a==8) false,.b ((A.length:Int)==2) false,.l [] [93,92,91] [] (qaa Tryz.f255 0) (qar A 0) .ret (qa3 s)])):
 Rt 255 [.agg (nd a b c A)] [cB s]:=
 h.of
theorem qCh(h:Oo (y1j a b q c r A [.b (a==8) false,.b ((A.length:Int)==2) false,.l [] [93,92,91] [] (qaa Tryz.f255 0) (qar A 0) (.exit 1) qa5])):
 Rt 255 [.agg (nd a b c A)] [cB true]:=
 h.of
def y1t(a b:Int)(q:Bool)(l:List O):List O:=y1o a (.r 158 [cI b,cI 0,cI 99] [cB q]::l)
theorem qCi(h:Oo (y1t a b q [.n q true])):
 Rt 255 [.agg (nd a b c A)] [cB false]:=
 h.of
def y1u(a b:Int)(q:Bool)(l:List O):List O:=y1t a b q (.n q false::l)
theorem qCj(h:Oo (y1u a b q [.b (c != 0) true])):
 Rt 255 [.agg (nd a b c A)] [cB false]:=
 h.of
def y1v(a b:Int)(q:Bool)(c:Int)(l:List O):List O:=y1u a b q (.b (c != 0) false::l)
theorem qCk(h:Oo (y1v a b q c [.b (decide ((A.length:Int)>2)) true])):
 Rt 255 [.agg (nd a b c A)] [cB false]:=
 h.of
def y1w(a b:Int)(q:Bool)(c:Int)(A:LL)(l:List O):List O:=y1v a b q c (.b (decide ((A.length:Int)>2)) false::l)
theorem qCl(h:Oo (y1w a b q c A [.b (a==8) true,.b (decide ((A.length:Int)>0)) true])):
 Rt 255 [.agg (nd a b c A)] [cB false]:=
 h.of
def y1x(a b:Int)(q:Bool)(c:Int)(A:LL)(l:List O):List O:=y1w a b q c A (.b (a==8) true::.b (decide ((A.length:Int)>0)) false::l)
def y1y(a b:Int)(q:Bool)(c:Int)(A:LL)(d e:Int)(l:List O):List O:=y1x a b q c A (.b ((A.length:Int)==2) true::.p ((0:Int)≤0)::.p (0<(A.length:Int))::.e A 0 [I d]::.p ((0:Int)≤1)::.p (1<(A.length:Int))::.e A 1 [I e]::l)
theorem qCm(h:Oo (y1y a b q c A d e [.b (d==e) true])):
 Rt 255 [.agg (nd a b c A)] [cB false]:=
 h.of
theorem qCn(h:Oo (y1y a b q c A d e [.b (d==e) false,.l [] [93,92,91] [] (qaa Tryz.f255 0) (qar A 0) .ret (qa3 r)])):
 Rt 255 [.agg (nd a b c A)] [cB r]:=
 h.of
theorem qCo(h:Oo (y1y a b q c A d e [.b (d==e) false,.l [] [93,92,91] [] (qaa Tryz.f255 0) (qar A 0) (.exit 1) qa5])):
 Rt 255 [.agg (nd a b c A)] [cB true]:=
 h.of
theorem qCp(h:Oo (y1x a b q c A [.b ((A.length:Int)==2) false,.l [] [93,92,91] [] (qaa Tryz.f255 0) (qar A 0) .ret (qa3 r)])):
 Rt 255 [.agg (nd a b c A)] [cB r]:=
 h.of
theorem qCq(h:Oo (y1x a b q c A [.b ((A.length:Int)==2) false,.l [] [93,92,91] [] (qaa Tryz.f255 0) (qar A 0) (.exit 1) qa5])):
 Rt 255 [.agg (nd a b c A)] [cB true]:=
 h.of
def y1z(a b:Int)(q:Bool)(c:Int)(A:LL)(d e:Int)(l:List O):List O:=y1w a b q c A (.b (a==8) false::.b ((A.length:Int)==2) true::.p ((0:Int)≤0)::.p (0<(A.length:Int))::.e A 0 [I d]::.p ((0:Int)≤1)::.p (1<(A.length:Int))::.e A 1 [I e]::l)
theorem qCr(h:Oo (y1z a b q c A d e [.b (d==e) true])):
 Rt 255 [.agg (nd a b c A)] [cB false]:=
 h.of
theorem qCs(h:Oo (y1z a b q c A d e [.b (d==e) false,.l [] [93,92,91] [] (qaa Tryz.f255 0) (qar A 0) .ret (qa3 r)])):
 Rt 255 [.agg (nd a b c A)] [cB r]:=
 h.of
theorem qCt(h:Oo (y1z a b q c A d e [.b (d==e) false,.l [] [93,92,91] [] (qaa Tryz.f255 0) (qar A 0) (.exit 1) qa5])):
 Rt 255 [.agg (nd a b c A)] [cB true]:=
 h.of
theorem qCu(h:Oo (y1w a b q c A [.b (a==8) false,.b ((A.length:Int)==2) false,.l [] [93,92,91] [] (qaa Tryz.f255 0) (qar A 0) .ret (qa3 r)])):
 Rt 255 [.agg (nd a b c A)] [cB r]:=
 h.of
theorem qCv(h:Oo (y1w a b q c A [.b (a==8) false,.b ((A.length:Int)==2) false,.l [] [93,92,91] [] (qaa Tryz.f255 0) (qar A 0) (.exit 1) qa5])):
 Rt 255 [.agg (nd a b c A)] [cB true]:=
 h.of
def y1G(a:Int)(l:List O):List O:=y1A a (.b (a==1) true::.b (a==1) true::l)
theorem qCw(h:Oo (y1G a [.b (b != 0) true])):
 Rt 255 [.agg (nd a b c A)] [cB false]:=
 h.of
def y1H(a b:Int)(l:List O):List O:=y1G a (.b (b != 0) false::l)
theorem qCx(h:Oo (y1H a b [.b (c != 0) true])):
 Rt 255 [.agg (nd a b c A)] [cB false]:=
 h.of
def y1I(a b c:Int)(l:List O):List O:=y1H a b (.b (c != 0) false::l)
theorem qCy(h:Oo (y1I a b c [.b (decide ((A.length:Int)>2)) true])):
 Rt 255 [.agg (nd a b c A)] [cB false]:=
 h.of
def y1J(a b c:Int)(A:LL)(l:List O):List O:=y1I a b c (.b (decide ((A.length:Int)>2)) false::l)
def y1K(a b c:Int)(A:LL)(l:List O):List O:=y1J a b c A (.b (a==8) true::l)
theorem qCz(h:Oo (y1K a b c A [.b (decide ((A.length:Int)>0)) true])):
 Rt 255 [.agg (nd a b c A)] [cB false]:=
 h.of
def y1L(a b c:Int)(A:LL)(l:List O):List O:=y1K a b c A (.b (decide ((A.length:Int)>0)) false::l)
def y1M(a b c:Int)(A:LL)(d e:Int)(l:List O):List O:=y1L a b c A (.b ((A.length:Int)==2) true::.p ((0:Int)≤0)::.p (0<(A.length:Int))::.e A 0 [I d]::.p ((0:Int)≤1)::.p (1<(A.length:Int))::.e A 1 [I e]::l)
theorem qCA(h:Oo (y1M a b c A d e [.b (d==e) true])):
 Rt 255 [.agg (nd a b c A)] [cB false]:=
 h.of
theorem qCB(h:Oo (y1M a b c A d e [.b (d==e) false,.l [] [93,92,91] [] (qaa Tryz.f255 0) (qar A 0) .ret (qa3 q)])):
 Rt 255 [.agg (nd a b c A)] [cB q]:=
 h.of
theorem qCC(h:Oo (y1M a b c A d e [.b (d==e) false,.l [] [93,92,91] [] (qaa Tryz.f255 0) (qar A 0) (.exit 1) qa5])):
 Rt 255 [.agg (nd a b c A)] [cB true]:=
 h.of
theorem qCD(h:Oo (y1L a b c A [.b ((A.length:Int)==2) false,.l [] [93,92,91] [] (qaa Tryz.f255 0) (qar A 0) .ret (qa3 q)])):
 Rt 255 [.agg (nd a b c A)] [cB q]:=
 h.of
theorem qCE(h:Oo (y1L a b c A [.b ((A.length:Int)==2) false,.l [] [93,92,91] [] (qaa Tryz.f255 0) (qar A 0) (.exit 1) qa5])):
 Rt 255 [.agg (nd a b c A)] [cB true]:=
 h.of
def y1N(a b c:Int)(A:LL)(d e:Int)(l:List O):List O:=y1J a b c A (.b (a==8) false::.b ((A.length:Int)==2) true::.p ((0:Int)≤0)::.p (0<(A.length:Int))::.e A 0 [I d]::.p ((0:Int)≤1)::.p (1<(A.length:Int))::.e A 1 [I e]::l)
theorem qCF(h:Oo (y1N a b c A d e [.b (d==e) true])):
 Rt 255 [.agg (nd a b c A)] [cB false]:=
 h.of
theorem qCG(h:Oo (y1N a b c A d e [.b (d==e) false,.l [] [93,92,91] [] (qaa Tryz.f255 0) (qar A 0) .ret (qa3 q)])):
 Rt 255 [.agg (nd a b c A)] [cB q]:=
 h.of
theorem qCH(h:Oo (y1N a b c A d e [.b (d==e) false,.l [] [93,92,91] [] (qaa Tryz.f255 0) (qar A 0) (.exit 1) qa5])):
 Rt 255 [.agg (nd a b c A)] [cB true]:=
 h.of
theorem qCI(h:Oo (y1J a b c A [.b (a==8) false,.b ((A.length:Int)==2) false,.l [] [93,92,91] [] (qaa Tryz.f255 0) (qar A 0) .ret (qa3 q)])):
 Rt 255 [.agg (nd a b c A)] [cB q]:=
 h.of
theorem qCJ(h:Oo (y1J a b c A [.b (a==8) false,.b ((A.length:Int)==2) false,.l [] [93,92,91] [] (qaa Tryz.f255 0) (qar A 0) (.exit 1) qa5])):
 Rt 255 [.agg (nd a b c A)] [cB true]:=
 h.of
def y1O(a:Int)(l:List O):List O:=y1A a (.b (a==1) false::l)
def y1P(a:Int)(l:List O):List O:=y1O a (.b (a==5) true::.b (a==5) true::l)
theorem qCK(h:Oo (y1P a [.b (b != 0) true])):
 Rt 255 [.agg (nd a b c A)] [cB false]:=
 h.of
def y1Q(a b:Int)(l:List O):List O:=y1P a (.b (b != 0) false::l)
theorem qCL(h:Oo (y1Q a b [.b (c != 0) true])):
 Rt 255 [.agg (nd a b c A)] [cB false]:=
 h.of
def y1R(a b c:Int)(l:List O):List O:=y1Q a b (.b (c != 0) false::l)
theorem qCM(h:Oo (y1R a b c [.b (decide ((A.length:Int)>2)) true])):
 Rt 255 [.agg (nd a b c A)] [cB false]:=
 h.of
def y1S(a b c:Int)(A:LL)(l:List O):List O:=y1R a b c (.b (decide ((A.length:Int)>2)) false::l)
def y1T(a b c:Int)(A:LL)(l:List O):List O:=y1S a b c A (.b (a==8) true::l)
theorem qCN(h:Oo (y1T a b c A [.b (decide ((A.length:Int)>0)) true])):
 Rt 255 [.agg (nd a b c A)] [cB false]:=
 h.of
def y1U(a b c:Int)(A:LL)(l:List O):List O:=y1T a b c A (.b (decide ((A.length:Int)>0)) false::l)
def y1V(a b c:Int)(A:LL)(d e:Int)(l:List O):List O:=y1U a b c A (.b ((A.length:Int)==2) true::.p ((0:Int)≤0)::.p (0<(A.length:Int))::.e A 0 [I d]::.p ((0:Int)≤1)::.p (1<(A.length:Int))::.e A 1 [I e]::l)
theorem qCO(h:Oo (y1V a b c A d e [.b (d==e) true])):
 Rt 255 [.agg (nd a b c A)] [cB false]:=
 h.of
theorem qCP(h:Oo (y1V a b c A d e [.b (d==e) false,.l [] [93,92,91] [] (qaa Tryz.f255 0) (qar A 0) .ret (qa3 q)])):
 Rt 255 [.agg (nd a b c A)] [cB q]:=
 h.of
theorem qCQ(h:Oo (y1V a b c A d e [.b (d==e) false,.l [] [93,92,91] [] (qaa Tryz.f255 0) (qar A 0) (.exit 1) qa5])):
 Rt 255 [.agg (nd a b c A)] [cB true]:=
 h.of
theorem qCR(h:Oo (y1U a b c A [.b ((A.length:Int)==2) false,.l [] [93,92,91] [] (qaa Tryz.f255 0) (qar A 0) .ret (qa3 q)])):
 Rt 255 [.agg (nd a b c A)] [cB q]:=
 h.of
theorem qCS(h:Oo (y1U a b c A [.b ((A.length:Int)==2) false,.l [] [93,92,91] [] (qaa Tryz.f255 0) (qar A 0) (.exit 1) qa5])):
 Rt 255 [.agg (nd a b c A)] [cB true]:=
 h.of
def y1W(a b c:Int)(A:LL)(d e:Int)(l:List O):List O:=y1S a b c A (.b (a==8) false::.b ((A.length:Int)==2) true::.p ((0:Int)≤0)::.p (0<(A.length:Int))::.e A 0 [I d]::.p ((0:Int)≤1)::.p (1<(A.length:Int))::.e A 1 [I e]::l)
theorem qCT(h:Oo (y1W a b c A d e [.b (d==e) true])):
 Rt 255 [.agg (nd a b c A)] [cB false]:=
 h.of
theorem qCU(h:Oo (y1W a b c A d e [.b (d==e) false,.l [] [93,92,91] [] (qaa Tryz.f255 0) (qar A 0) .ret (qa3 q)])):
 Rt 255 [.agg (nd a b c A)] [cB q]:=
 h.of
theorem qCV(h:Oo (y1W a b c A d e [.b (d==e) false,.l [] [93,92,91] [] (qaa Tryz.f255 0) (qar A 0) (.exit 1) qa5])):
 Rt 255 [.agg (nd a b c A)] [cB true]:=
 h.of
theorem qCW(h:Oo (y1S a b c A [.b (a==8) false,.b ((A.length:Int)==2) false,.l [] [93,92,91] [] (qaa Tryz.f255 0) (qar A 0) .ret (qa3 q)])):
 Rt 255 [.agg (nd a b c A)] [cB q]:=
 h.of
theorem qCX(h:Oo (y1S a b c A [.b (a==8) false,.b ((A.length:Int)==2) false,.l [] [93,92,91] [] (qaa Tryz.f255 0) (qar A 0) (.exit 1) qa5])):
 Rt 255 [.agg (nd a b c A)] [cB true]:=
 h.of
def y1X(a:Int)(l:List O):List O:=y1O a (.b (a==5) false::l)
def y1Y(a:Int)(l:List O):List O:=y1X a (.b (a==6) true::.b (a==6) true::l)
theorem qCY(h:Oo (y1Y a [.b (b != 0) true])):
 Rt 255 [.agg (nd a b c A)] [cB false]:=
 h.of
def y1Z(a b:Int)(l:List O):List O:=y1Y a (.b (b != 0) false::l)
theorem qCZ(h:Oo (y1Z a b [.b (c != 0) true])):
 Rt 255 [.agg (nd a b c A)] [cB false]:=
 h.of
def y20(a b c:Int)(l:List O):List O:=y1Z a b (.b (c != 0) false::l)
theorem qC0(h:Oo (y20 a b c [.b (decide ((A.length:Int)>2)) true])):
 Rt 255 [.agg (nd a b c A)] [cB false]:=
 h.of
def y21(a b c:Int)(A:LL)(l:List O):List O:=y20 a b c (.b (decide ((A.length:Int)>2)) false::l)
def y22(a b c:Int)(A:LL)(l:List O):List O:=y21 a b c A (.b (a==8) true::l)
theorem qC1(h:Oo (y22 a b c A [.b (decide ((A.length:Int)>0)) true])):
 Rt 255 [.agg (nd a b c A)] [cB false]:=
 h.of
def y23(a b c:Int)(A:LL)(l:List O):List O:=y22 a b c A (.b (decide ((A.length:Int)>0)) false::l)
def y24(a b c:Int)(A:LL)(d e:Int)(l:List O):List O:=y23 a b c A (.b ((A.length:Int)==2) true::.p ((0:Int)≤0)::.p (0<(A.length:Int))::.e A 0 [I d]::.p ((0:Int)≤1)::.p (1<(A.length:Int))::.e A 1 [I e]::l)
theorem qC2(h:Oo (y24 a b c A d e [.b (d==e) true])):
 Rt 255 [.agg (nd a b c A)] [cB false]:=
 h.of
theorem qC3(h:Oo (y24 a b c A d e [.b (d==e) false,.l [] [93,92,91] [] (qaa Tryz.f255 0) (qar A 0) .ret (qa3 q)])):
 Rt 255 [.agg (nd a b c A)] [cB q]:=
 h.of
theorem qC4(h:Oo (y24 a b c A d e [.b (d==e) false,.l [] [93,92,91] [] (qaa Tryz.f255 0) (qar A 0) (.exit 1) qa5])):
 Rt 255 [.agg (nd a b c A)] [cB true]:=
 h.of
theorem qC5(h:Oo (y23 a b c A [.b ((A.length:Int)==2) false,.l [] [93,92,91] [] (qaa Tryz.f255 0) (qar A 0) .ret (qa3 q)])):
 Rt 255 [.agg (nd a b c A)] [cB q]:=
 h.of
theorem qC6(h:Oo (y23 a b c A [.b ((A.length:Int)==2) false,.l [] [93,92,91] [] (qaa Tryz.f255 0) (qar A 0) (.exit 1) qa5])):
 Rt 255 [.agg (nd a b c A)] [cB true]:=
 h.of
def y25(a b c:Int)(A:LL)(d e:Int)(l:List O):List O:=y21 a b c A (.b (a==8) false::.b ((A.length:Int)==2) true::.p ((0:Int)≤0)::.p (0<(A.length:Int))::.e A 0 [I d]::.p ((0:Int)≤1)::.p (1<(A.length:Int))::.e A 1 [I e]::l)
theorem qC7(h:Oo (y25 a b c A d e [.b (d==e) true])):
 Rt 255 [.agg (nd a b c A)] [cB false]:=
 h.of
theorem qC8(h:Oo (y25 a b c A d e [.b (d==e) false,.l [] [93,92,91] [] (qaa Tryz.f255 0) (qar A 0) .ret (qa3 q)])):
 Rt 255 [.agg (nd a b c A)] [cB q]:=
 h.of
theorem qC9(h:Oo (y25 a b c A d e [.b (d==e) false,.l [] [93,92,91] [] (qaa Tryz.f255 0) (qar A 0) (.exit 1) qa5])):
 Rt 255 [.agg (nd a b c A)] [cB true]:=
 h.of
theorem qDa(h:Oo (y21 a b c A [.b (a==8) false,.b ((A.length:Int)==2) false,.l [] [93,92,91] [] (qaa Tryz.f255 0) (qar A 0) .ret (qa3 q)])):
 Rt 255 [.agg (nd a b c A)] [cB q]:=
 h.of
theorem qDb(h:Oo (y21 a b c A [.b (a==8) false,.b ((A.length:Int)==2) false,.l [] [93,92,91] [] (qaa Tryz.f255 0) (qar A 0) (.exit 1) qa5])):
 Rt 255 [.agg (nd a b c A)] [cB true]:=
 h.of
def y26(a:Int)(l:List O):List O:=y1X a (.b (a==6) false::l)
def y27(a:Int)(l:List O):List O:=y26 a (.b (a==7) true::.b (a==7) true::l)
theorem qDc(h:Oo (y27 a [.b (b != 0) true])):
 Rt 255 [.agg (nd a b c A)] [cB false]:=
 h.of
def y28(a b:Int)(l:List O):List O:=y27 a (.b (b != 0) false::l)
theorem qDd(h:Oo (y28 a b [.b (c != 0) true])):
 Rt 255 [.agg (nd a b c A)] [cB false]:=
 h.of
def y29(a b c:Int)(l:List O):List O:=y28 a b (.b (c != 0) false::l)
theorem qDe(h:Oo (y29 a b c [.b (decide ((A.length:Int)>2)) true])):
 Rt 255 [.agg (nd a b c A)] [cB false]:=
 h.of
def y2a(a b c:Int)(A:LL)(l:List O):List O:=y29 a b c (.b (decide ((A.length:Int)>2)) false::l)
def y2b(a b c:Int)(A:LL)(l:List O):List O:=y2a a b c A (.b (a==8) true::l)
theorem qDf(h:Oo (y2b a b c A [.b (decide ((A.length:Int)>0)) true])):
 Rt 255 [.agg (nd a b c A)] [cB false]:=
 h.of
def y2c(a b c:Int)(A:LL)(l:List O):List O:=y2b a b c A (.b (decide ((A.length:Int)>0)) false::l)
def y2d(a b c:Int)(A:LL)(d e:Int)(l:List O):List O:=y2c a b c A (.b ((A.length:Int)==2) true::.p ((0:Int)≤0)::.p (0<(A.length:Int))::.e A 0 [I d]::.p ((0:Int)≤1)::.p (1<(A.length:Int))::.e A 1 [I e]::l)
theorem qDg(h:Oo (y2d a b c A d e [.b (d==e) true])):
 Rt 255 [.agg (nd a b c A)] [cB false]:=
 h.of
theorem qDh(h:Oo (y2d a b c A d e [.b (d==e) false,.l [] [93,92,91] [] (qaa Tryz.f255 0) (qar A 0) .ret (qa3 q)])):
 Rt 255 [.agg (nd a b c A)] [cB q]:=
 h.of
theorem qDi(h:Oo (y2d a b c A d e [.b (d==e) false,.l [] [93,92,91] [] (qaa Tryz.f255 0) (qar A 0) (.exit 1) qa5])):
 Rt 255 [.agg (nd a b c A)] [cB true]:=
 h.of
theorem qDj(h:Oo (y2c a b c A [.b ((A.length:Int)==2) false,.l [] [93,92,91] [] (qaa Tryz.f255 0) (qar A 0) .ret (qa3 q)])):
 Rt 255 [.agg (nd a b c A)] [cB q]:=
 h.of
theorem qDk(h:Oo (y2c a b c A [.b ((A.length:Int)==2) false,.l [] [93,92,91] [] (qaa Tryz.f255 0) (qar A 0) (.exit 1) qa5])):
 Rt 255 [.agg (nd a b c A)] [cB true]:=
 h.of
def y2e(a b c:Int)(A:LL)(d e:Int)(l:List O):List O:=y2a a b c A (.b (a==8) false::.b ((A.length:Int)==2) true::.p ((0:Int)≤0)::.p (0<(A.length:Int))::.e A 0 [I d]::.p ((0:Int)≤1)::.p (1<(A.length:Int))::.e A 1 [I e]::l)
theorem qDl(h:Oo (y2e a b c A d e [.b (d==e) true])):
 Rt 255 [.agg (nd a b c A)] [cB false]:=
 h.of
theorem qDm(h:Oo (y2e a b c A d e [.b (d==e) false,.l [] [93,92,91] [] (qaa Tryz.f255 0) (qar A 0) .ret (qa3 q)])):
 Rt 255 [.agg (nd a b c A)] [cB q]:=
 h.of
theorem qDn(h:Oo (y2e a b c A d e [.b (d==e) false,.l [] [93,92,91] [] (qaa Tryz.f255 0) (qar A 0) (.exit 1) qa5])):
 Rt 255 [.agg (nd a b c A)] [cB true]:=
 h.of
theorem qDo(h:Oo (y2a a b c A [.b (a==8) false,.b ((A.length:Int)==2) false,.l [] [93,92,91] [] (qaa Tryz.f255 0) (qar A 0) .ret (qa3 q)])):
 Rt 255 [.agg (nd a b c A)] [cB q]:=
 h.of
theorem qDp(h:Oo (y2a a b c A [.b (a==8) false,.b ((A.length:Int)==2) false,.l [] [93,92,91] [] (qaa Tryz.f255 0) (qar A 0) (.exit 1) qa5])):
 Rt 255 [.agg (nd a b c A)] [cB true]:=
 h.of
def y2f(a:Int)(l:List O):List O:=y26 a (.b (a==7) false::l)
def y2g(a:Int)(l:List O):List O:=y2f a (.b (a==8) true::l)
theorem qDq(h:Oo (y2g a [.b (b != 0) true])):
 Rt 255 [.agg (nd a b c A)] [cB false]:=
 h.of
def y2h(a b:Int)(l:List O):List O:=y2g a (.b (b != 0) false::l)
theorem qDr(h:Oo (y2h a b [.b (c != 0) true])):
 Rt 255 [.agg (nd a b c A)] [cB false]:=
 h.of
def y2i(a b c:Int)(l:List O):List O:=y2h a b (.b (c != 0) false::l)
theorem qDs(h:Oo (y2i a b c [.b (decide ((A.length:Int)>2)) true])):
 Rt 255 [.agg (nd a b c A)] [cB false]:=
 h.of
def y2j(a b c:Int)(A:LL)(l:List O):List O:=y2i a b c (.b (decide ((A.length:Int)>2)) false::.b (a==8) true::l)
theorem qDt(h:Oo (y2j a b c A [.b (decide ((A.length:Int)>0)) true])):
 Rt 255 [.agg (nd a b c A)] [cB false]:=
 h.of
def y2k(a b c:Int)(A:LL)(l:List O):List O:=y2j a b c A (.b (decide ((A.length:Int)>0)) false::l)
def y2l(a b c:Int)(A:LL)(d e:Int)(l:List O):List O:=y2k a b c A (.b ((A.length:Int)==2) true::.p ((0:Int)≤0)::.p (0<(A.length:Int))::.e A 0 [I d]::.p ((0:Int)≤1)::.p (1<(A.length:Int))::.e A 1 [I e]::l)
theorem qDu(h:Oo (y2l a b c A d e [.b (d==e) true])):
 Rt 255 [.agg (nd a b c A)] [cB false]:=
 h.of
theorem qDv(h:Oo (y2l a b c A d e [.b (d==e) false,.l [] [93,92,91] [] (qaa Tryz.f255 0) (qar A 0) .ret (qa3 q)])):
 Rt 255 [.agg (nd a b c A)] [cB q]:=
 h.of
theorem qDw(h:Oo (y2l a b c A d e [.b (d==e) false,.l [] [93,92,91] [] (qaa Tryz.f255 0) (qar A 0) (.exit 1) qa5])):
 Rt 255 [.agg (nd a b c A)] [cB true]:=
 h.of
theorem qDx(h:Oo (y2k a b c A [.b ((A.length:Int)==2) false,.l [] [93,92,91] [] (qaa Tryz.f255 0) (qar A 0) .ret (qa3 q)])):
 Rt 255 [.agg (nd a b c A)] [cB q]:=
 h.of
theorem qDy(h:Oo (y2k a b c A [.b ((A.length:Int)==2) false,.l [] [93,92,91] [] (qaa Tryz.f255 0) (qar A 0) (.exit 1) qa5])):
 Rt 255 [.agg (nd a b c A)] [cB true]:=
 h.of
theorem qDz(h:Oo (y2f a [.b (a==8) false])):
 Rt 255 [.agg (nd a b c A)] [cB false]:=
 h.of
