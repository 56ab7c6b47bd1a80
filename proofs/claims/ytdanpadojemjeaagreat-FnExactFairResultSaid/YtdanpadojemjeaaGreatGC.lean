import Derived.Test.YtdanpadojemjeaaGreatRows
import Derived.Test.YtdanpadojemjeaaGreatGE
namespace Go.Proofs.YtdanpadojemjeaaGreat
open Go.Sx Go.RowKit
variable {a b c d e f g i j k l : Int} {A C E F : LL} {q : Bool}
theorem qtq(h:Oo [.b (a != b) true]):
 Rt 180 [.agg [I a,I c],.agg [I b,I d]] [cB false]:=
 h.of
theorem qtr(h:Oo [.b (a != c) false,.b (b != d) true]):
 Rt 180 [.agg [I a,I b],.agg [I c,I d]] [cB false]:=
 h.of
theorem qts(h:Oo [.b (a != c) false,.b (b != d) false]):
 Rt 180 [.agg [I a,I b],.agg [I c,I d]] [cB true]:=
 h.of
theorem qtt(h:Oo [.b (a != b) true]):
 Rt 108 [.agg (ri a c d e f),.agg (ri b g i j k)] [cB false]:=
 h.of
theorem qtu(h:Oo [.b (a != d) false,.r 180 [.agg [I b,I c],.agg [I e,I f]] [cB q],.n q true]):
 Rt 108 [.agg (ri a b c g i),.agg (ri d e f j k)] [cB false]:=
 h.of
theorem qtv(h:Oo [.b (a != e) false,.r 180 [.agg [I b,I c],.agg [I f,I g]] [cB q],.n q false,.b (d != i) true]):
 Rt 108 [.agg (ri a b c d j),.agg (ri e f g i k)] [cB false]:=
 h.of
theorem qtw(h:Oo [.b (a != f) false,.r 180 [.agg [I b,I c],.agg [I g,I i]] [cB q],.n q false,.b (d != j) false,.b (e != k) true]):
 Rt 108 [.agg (ri a b c d e),.agg (ri f g i j k)] [cB false]:=
 h.of
theorem qtx(h:Oo [.b (a != f) false,.r 180 [.agg [I b,I c],.agg [I g,I i]] [cB q],.n q false,.b (d != j) false,.b (e != k) false]):
 Rt 108 [.agg (ri a b c d e),.agg (ri f g i j k)] [cB true]:=
 h.of
theorem qty(h:Oo [.b ((A.length:Int) != (C.length:Int)) true]):
 Rt 46 [cS 5 A,cS 5 C] [cB false]:=
 h.of
def qeD(A C:LL)(a:Int):St:=
 { env:=envOf 27 [(0,vF 5 A),(1,vF 5 C),(5,vI a)],boxes:=[] }
def qnQ(q:Bool):St:=
 { env:=envOf 27 [(4,.al (.one (.sb q)))],boxes:=[] }
theorem qtz(h:Oo [.b (decide (a<(A.length:Int))) true,.p (0≤a),.p (a<(A.length:Int)),.e A a.toNat (ri e f g i j),.p (0≤a),.p (a<(C.length:Int)),.e C a.toNat (ri k l b c d),.r 108 [.agg (ri e f g i j),.agg (ri k l b c d)] [cB q],.n q true]):
 Tp (qaa Tryz.f46 0) (qeD A C a) .ret (qnQ false):=
 h.lp [4] []
theorem qtA(h:Oo [.b (decide (a<(A.length:Int))) true,.p (0≤a),.p (a<(A.length:Int)),.e A a.toNat (ri e f g i j),.p (0≤a),.p (a<(C.length:Int)),.e C a.toNat (ri k l b c d),.r 108 [.agg (ri e f g i j),.agg (ri k l b c d)] [cB q],.n q false,.u a]):
 Tp (qaa Tryz.f46 0) (qeD A C a) .normal (qeD A C (a+1)):=
 h.lp [5,0,1] []
def qnR:St:=
 { env:=envOf 27 [],boxes:=[] }
theorem qtB(h:Oo [.b (decide (a<(A.length:Int))) false]):
 Tp (qaa Tryz.f46 0) (qeD A C a) (.exit 0) qnR:=
 h.lp [] []
theorem qtC(A C:LL)(q:Bool)(h:Oo [.b ((A.length:Int) != (C.length:Int)) false,.l [] [5,0,1] [] (qaa Tryz.f46 0) (qeD A C 0) .ret (qnQ q)]):
 Rt 46 [cS 5 A,cS 5 C] [cB q]:=
 h.of
theorem qtD(h:Oo [.b ((A.length:Int) != (C.length:Int)) false,.l [] [5,0,1] [] (qaa Tryz.f46 0) (qeD A C 0) (.exit 0) qnR]):
 Rt 46 [cS 5 A,cS 5 C] [cB true]:=
 h.of
theorem qtE(h:Oo [.b (a != b) true]):
 Rt 106 [.agg [I a,I c,I d,I e],.agg [I b,I f,I g,I i]] [cB false]:=
 h.of
theorem qtF(h:Oo [.b (a != c) false,.b (b != d) true]):
 Rt 106 [.agg [I a,I b,I e,I f],.agg [I c,I d,I g,I i]] [cB false]:=
 h.of
theorem qtG(h:Oo [.b (a != d) false,.b (b != e) false,.b (c != f) true]):
 Rt 106 [.agg [I a,I b,I c,I g],.agg [I d,I e,I f,I i]] [cB false]:=
 h.of
theorem qtH(h:Oo [.b (a != e) false,.b (b != f) false,.b (c != g) false,.b (d != i) true]):
 Rt 106 [.agg [I a,I b,I c,I d],.agg [I e,I f,I g,I i]] [cB false]:=
 h.of
theorem qtI(h:Oo [.b (a != e) false,.b (b != f) false,.b (c != g) false,.b (d != i) false]):
 Rt 106 [.agg [I a,I b,I c,I d],.agg [I e,I f,I g,I i]] [cB true]:=
 h.of
theorem qtJ(h:Oo [.b ((A.length:Int) != (C.length:Int)) true]):
 Rt 44 [cS 4 A,cS 4 C] [cB false]:=
 h.of
def qeE(A C:LL)(a:Int):St:=
 { env:=envOf 27 [(0,vF 4 A),(1,vF 4 C),(5,vI a)],boxes:=[] }
def qnS(q:Bool):St:=
 { env:=envOf 27 [(4,.al (.one (.sb q)))],boxes:=[] }
theorem qtK(h:Oo [.b (decide (a<(A.length:Int))) true,.p (0≤a),.p (a<(A.length:Int)),.e A a.toNat [I c,I d,I e,I f],.p (0≤a),.p (a<(C.length:Int)),.e C a.toNat [I g,I i,I j,I b],.r 106 [.agg [I c,I d,I e,I f],.agg [I g,I i,I j,I b]] [cB q],.n q true]):
 Tp (qaa Tryz.f44 0) (qeE A C a) .ret (qnS false):=
 h.lp [4] []
theorem qtL(h:Oo [.b (decide (a<(A.length:Int))) true,.p (0≤a),.p (a<(A.length:Int)),.e A a.toNat [I c,I d,I e,I f],.p (0≤a),.p (a<(C.length:Int)),.e C a.toNat [I g,I i,I j,I b],.r 106 [.agg [I c,I d,I e,I f],.agg [I g,I i,I j,I b]] [cB q],.n q false,.u a]):
 Tp (qaa Tryz.f44 0) (qeE A C a) .normal (qeE A C (a+1)):=
 h.lp [5,0,1] []
def qnT:St:=
 { env:=envOf 27 [],boxes:=[] }
theorem qtM(h:Oo [.b (decide (a<(A.length:Int))) false]):
 Tp (qaa Tryz.f44 0) (qeE A C a) (.exit 0) qnT:=
 h.lp [] []
theorem qtN(A C:LL)(q:Bool)(h:Oo [.b ((A.length:Int) != (C.length:Int)) false,.l [] [5,0,1] [] (qaa Tryz.f44 0) (qeE A C 0) .ret (qnS q)]):
 Rt 44 [cS 4 A,cS 4 C] [cB q]:=
 h.of
theorem qtO(h:Oo [.b ((A.length:Int) != (C.length:Int)) false,.l [] [5,0,1] [] (qaa Tryz.f44 0) (qeE A C 0) (.exit 0) qnT]):
 Rt 44 [cS 4 A,cS 4 C] [cB true]:=
 h.of
theorem qtP(h:Oo [.b ((A.length:Int) != (C.length:Int)) true]):
 Rt 203 [cS 1 A,cS 1 C] [cB false]:=
 h.of
def qeF(A C:LL)(a:Int):St:=
 { env:=envOf 26 [(0,vF 1 A),(1,vF 1 C),(5,vI a)],boxes:=[] }
def qnU(q:Bool):St:=
 { env:=envOf 26 [(4,.al (.one (.sb q)))],boxes:=[] }
theorem qtQ(h:Oo [.b (decide (a<(A.length:Int))) true,.p (0≤a),.p (a<(A.length:Int)),.e A a.toNat [I b],.p (0≤a),.p (a<(C.length:Int)),.e C a.toNat [I c],.b (b != c) true]):
 Tp (qaa Tryz.f203 0) (qeF A C a) .ret (qnU false):=
 h.lp [4] []
theorem qtR(h:Oo [.b (decide (a<(A.length:Int))) true,.p (0≤a),.p (a<(A.length:Int)),.e A a.toNat [I b],.p (0≤a),.p (a<(C.length:Int)),.e C a.toNat [I c],.b (b != c) false,.u a]):
 Tp (qaa Tryz.f203 0) (qeF A C a) .normal (qeF A C (a+1)):=
 h.lp [5,0,1] []
def qnV:St:=
 { env:=envOf 26 [],boxes:=[] }
theorem qtS(h:Oo [.b (decide (a<(A.length:Int))) false]):
 Tp (qaa Tryz.f203 0) (qeF A C a) (.exit 0) qnV:=
 h.lp [] []
theorem qtT(A C:LL)(q:Bool)(h:Oo [.b ((A.length:Int) != (C.length:Int)) false,.l [] [5,0,1] [] (qaa Tryz.f203 0) (qeF A C 0) .ret (qnU q)]):
 Rt 203 [cS 1 A,cS 1 C] [cB q]:=
 h.of
theorem qtU(h:Oo [.b ((A.length:Int) != (C.length:Int)) false,.l [] [5,0,1] [] (qaa Tryz.f203 0) (qeF A C 0) (.exit 0) qnV]):
 Rt 203 [cS 1 A,cS 1 C] [cB true]:=
 h.of
theorem qtV(h:Oo [.b (a != b) true]):
 Rt 179 [.agg (nd a c d A),.agg (nd b e f C)] [cB false]:=
 h.of
theorem qtW(h:Oo [.b (a != c) false,.b (b != d) true]):
 Rt 179 [.agg (nd a b e A),.agg (nd c d f C)] [cB false]:=
 h.of
theorem qtX(h:Oo [.b (a != d) false,.b (b != e) false,.b (c != f) true]):
 Rt 179 [.agg (nd a b c A),.agg (nd d e f C)] [cB false]:=
 h.of
theorem qtY(h:Oo [.b (a != d) false,.b (b != e) false,.b (c != f) false,.r 203 [cS 1 A,cS 1 C] [cB q],.n q true]):
 Rt 179 [.agg (nd a b c A),.agg (nd d e f C)] [cB false]:=
 h.of
theorem qtZ(h:Oo [.b (a != d) false,.b (b != e) false,.b (c != f) false,.r 203 [cS 1 A,cS 1 C] [cB q],.n q false]):
 Rt 179 [.agg (nd a b c A),.agg (nd d e f C)] [cB true]:=
 h.of
theorem qt0(h:Oo [.b ((A.length:Int) != (C.length:Int)) true]):
 Rt 107 [cS 4 A,cS 4 C] [cB false]:=
 h.of
def qeG(A C:LL)(a:Int):St:=
 { env:=envOf 27 [(0,vF 4 A),(1,vF 4 C),(5,vI a)],boxes:=[] }
def qnW(q:Bool):St:=
 { env:=envOf 27 [(4,.al (.one (.sb q)))],boxes:=[] }
theorem qt1(h:Oo [.b (decide (a<(A.length:Int))) true,.p (0≤a),.p (a<(A.length:Int)),.e A a.toNat (nd b c d F),.p (0≤a),.p (a<(C.length:Int)),.e C a.toNat (nd e f g E),.r 179 [.agg (nd b c d F),.agg (nd e f g E)] [cB q],.n q true]):
 Tp (qaa Tryz.f107 0) (qeG A C a) .ret (qnW false):=
 h.lp [4] []
theorem qt2(h:Oo [.b (decide (a<(A.length:Int))) true,.p (0≤a),.p (a<(A.length:Int)),.e A a.toNat (nd b c d F),.p (0≤a),.p (a<(C.length:Int)),.e C a.toNat (nd e f g E),.r 179 [.agg (nd b c d F),.agg (nd e f g E)] [cB q],.n q false,.u a]):
 Tp (qaa Tryz.f107 0) (qeG A C a) .normal (qeG A C (a+1)):=
 h.lp [5,0,1] []
def qnX:St:=
 { env:=envOf 27 [],boxes:=[] }
theorem qt3(h:Oo [.b (decide (a<(A.length:Int))) false]):
 Tp (qaa Tryz.f107 0) (qeG A C a) (.exit 0) qnX:=
 h.lp [] []
theorem qt4(A C:LL)(q:Bool)(h:Oo [.b ((A.length:Int) != (C.length:Int)) false,.l [] [5,0,1] [] (qaa Tryz.f107 0) (qeG A C 0) .ret (qnW q)]):
 Rt 107 [cS 4 A,cS 4 C] [cB q]:=
 h.of
theorem qt5(h:Oo [.b ((A.length:Int) != (C.length:Int)) false,.l [] [5,0,1] [] (qaa Tryz.f107 0) (qeG A C 0) (.exit 0) qnX]):
 Rt 107 [cS 4 A,cS 4 C] [cB true]:=
 h.of
theorem qt6(h:Oo [.r 107 [cS 4 A,cS 4 C] [cB q],.n q true]):
 Rt 45 [.agg (gr A a b),.agg (gr C c d)] [cB false]:=
 h.of
theorem qt7(h:Oo [.r 107 [cS 4 A,cS 4 C] [cB q],.n q false,.b (a != b) true]):
 Rt 45 [.agg (gr A a c),.agg (gr C b d)] [cB false]:=
 h.of
theorem qt8(h:Oo [.r 107 [cS 4 A,cS 4 C] [cB q],.n q false,.b (a != c) false,.b (b != d) true]):
 Rt 45 [.agg (gr A a b),.agg (gr C c d)] [cB false]:=
 h.of
theorem qt9(h:Oo [.r 107 [cS 4 A,cS 4 C] [cB q],.n q false,.b (a != c) false,.b (b != d) false]):
 Rt 45 [.agg (gr A a b),.agg (gr C c d)] [cB true]:=
 h.of
end Go.Proofs.YtdanpadojemjeaaGreat
