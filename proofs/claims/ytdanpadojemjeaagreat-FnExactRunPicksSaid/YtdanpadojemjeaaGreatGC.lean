import Derived.Test.YtdanpadojemjeaaGreatRows
import Derived.Test.YtdanpadojemjeaaGreatGE
namespace Go.Proofs.YtdanpadojemjeaaGreat
open Go.Sx Go.RowKit
variable {a b c d e f g i j k l : Int} {A C E F G H J K L M N P Q R S U V W : LL} {q r s t u v w x : Bool}
theorem qvR(h:Oo [.b (a != b) true]):
 Rt 180 [.agg [I a,I c],.agg [I b,I d]] [cB false]:=
 h.of
theorem qvS(h:Oo [.b (a != c) false,.b (b != d) true]):
 Rt 180 [.agg [I a,I b],.agg [I c,I d]] [cB false]:=
 h.of
theorem qvT(h:Oo [.b (a != c) false,.b (b != d) false]):
 Rt 180 [.agg [I a,I b],.agg [I c,I d]] [cB true]:=
 h.of
theorem qvU(h:Oo [.b (a != b) true]):
 Rt 108 [.agg (ri a c d e f),.agg (ri b g i j k)] [cB false]:=
 h.of
theorem qvV(h:Oo [.b (a != d) false,.r 180 [.agg [I b,I c],.agg [I e,I f]] [cB q],.n q true]):
 Rt 108 [.agg (ri a b c g i),.agg (ri d e f j k)] [cB false]:=
 h.of
theorem qvW(h:Oo [.b (a != e) false,.r 180 [.agg [I b,I c],.agg [I f,I g]] [cB q],.n q false,.b (d != i) true]):
 Rt 108 [.agg (ri a b c d j),.agg (ri e f g i k)] [cB false]:=
 h.of
theorem qvX(h:Oo [.b (a != f) false,.r 180 [.agg [I b,I c],.agg [I g,I i]] [cB q],.n q false,.b (d != j) false,.b (e != k) true]):
 Rt 108 [.agg (ri a b c d e),.agg (ri f g i j k)] [cB false]:=
 h.of
theorem qvY(h:Oo [.b (a != f) false,.r 180 [.agg [I b,I c],.agg [I g,I i]] [cB q],.n q false,.b (d != j) false,.b (e != k) false]):
 Rt 108 [.agg (ri a b c d e),.agg (ri f g i j k)] [cB true]:=
 h.of
theorem qvZ(h:Oo [.b ((A.length:Int) != (C.length:Int)) true]):
 Rt 46 [cS 5 A,cS 5 C] [cB false]:=
 h.of
def qeG(A C:LL)(a:Int):St:=
 { env:=envOf 27 [(0,vF 5 A),(1,vF 5 C),(5,vI a)],boxes:=[] }
def qoE(q:Bool):St:=
 { env:=envOf 27 [(4,.al (.one (.sb q)))],boxes:=[] }
theorem qv0(h:Oo [.b (decide (a<(A.length:Int))) true,.p (0≤a),.p (a<(A.length:Int)),.e A a.toNat (ri e f g i j),.p (0≤a),.p (a<(C.length:Int)),.e C a.toNat (ri k l b c d),.r 108 [.agg (ri e f g i j),.agg (ri k l b c d)] [cB q],.n q true]):
 Tp (qaa Tryz.f46 0) (qeG A C a) .ret (qoE false):=
 h.lp [4] []
theorem qv1(h:Oo [.b (decide (a<(A.length:Int))) true,.p (0≤a),.p (a<(A.length:Int)),.e A a.toNat (ri e f g i j),.p (0≤a),.p (a<(C.length:Int)),.e C a.toNat (ri k l b c d),.r 108 [.agg (ri e f g i j),.agg (ri k l b c d)] [cB q],.n q false,.u a]):
 Tp (qaa Tryz.f46 0) (qeG A C a) .normal (qeG A C (a+1)):=
 h.lp [5,0,1] []
def qoF:St:=
 { env:=envOf 27 [],boxes:=[] }
theorem qv2(h:Oo [.b (decide (a<(A.length:Int))) false]):
 Tp (qaa Tryz.f46 0) (qeG A C a) (.exit 0) qoF:=
 h.lp [] []
theorem qv3(A C:LL)(q:Bool)(h:Oo [.b ((A.length:Int) != (C.length:Int)) false,.l [] [5,0,1] [] (qaa Tryz.f46 0) (qeG A C 0) .ret (qoE q)]):
 Rt 46 [cS 5 A,cS 5 C] [cB q]:=
 h.of
theorem qv4(h:Oo [.b ((A.length:Int) != (C.length:Int)) false,.l [] [5,0,1] [] (qaa Tryz.f46 0) (qeG A C 0) (.exit 0) qoF]):
 Rt 46 [cS 5 A,cS 5 C] [cB true]:=
 h.of
theorem qv5(h:Oo [.b (a != b) true]):
 Rt 106 [.agg [I a,I c,I d,I e],.agg [I b,I f,I g,I i]] [cB false]:=
 h.of
theorem qv6(h:Oo [.b (a != c) false,.b (b != d) true]):
 Rt 106 [.agg [I a,I b,I e,I f],.agg [I c,I d,I g,I i]] [cB false]:=
 h.of
theorem qv7(h:Oo [.b (a != d) false,.b (b != e) false,.b (c != f) true]):
 Rt 106 [.agg [I a,I b,I c,I g],.agg [I d,I e,I f,I i]] [cB false]:=
 h.of
theorem qv8(h:Oo [.b (a != e) false,.b (b != f) false,.b (c != g) false,.b (d != i) true]):
 Rt 106 [.agg [I a,I b,I c,I d],.agg [I e,I f,I g,I i]] [cB false]:=
 h.of
theorem qv9(h:Oo [.b (a != e) false,.b (b != f) false,.b (c != g) false,.b (d != i) false]):
 Rt 106 [.agg [I a,I b,I c,I d],.agg [I e,I f,I g,I i]] [cB true]:=
 h.of
theorem qwa(h:Oo [.b ((A.length:Int) != (C.length:Int)) true]):
 Rt 44 [cS 4 A,cS 4 C] [cB false]:=
 h.of
def qeH(A C:LL)(a:Int):St:=
 { env:=envOf 27 [(0,vF 4 A),(1,vF 4 C),(5,vI a)],boxes:=[] }
def qoG(q:Bool):St:=
 { env:=envOf 27 [(4,.al (.one (.sb q)))],boxes:=[] }
theorem qwb(h:Oo [.b (decide (a<(A.length:Int))) true,.p (0≤a),.p (a<(A.length:Int)),.e A a.toNat [I c,I d,I e,I f],.p (0≤a),.p (a<(C.length:Int)),.e C a.toNat [I g,I i,I j,I b],.r 106 [.agg [I c,I d,I e,I f],.agg [I g,I i,I j,I b]] [cB q],.n q true]):
 Tp (qaa Tryz.f44 0) (qeH A C a) .ret (qoG false):=
 h.lp [4] []
theorem qwc(h:Oo [.b (decide (a<(A.length:Int))) true,.p (0≤a),.p (a<(A.length:Int)),.e A a.toNat [I c,I d,I e,I f],.p (0≤a),.p (a<(C.length:Int)),.e C a.toNat [I g,I i,I j,I b],.r 106 [.agg [I c,I d,I e,I f],.agg [I g,I i,I j,I b]] [cB q],.n q false,.u a]):
 Tp (qaa Tryz.f44 0) (qeH A C a) .normal (qeH A C (a+1)):=
 h.lp [5,0,1] []
def qoH:St:=
 { env:=envOf 27 [],boxes:=[] }
theorem qwd(h:Oo [.b (decide (a<(A.length:Int))) false]):
 Tp (qaa Tryz.f44 0) (qeH A C a) (.exit 0) qoH:=
 h.lp [] []
theorem qwe(A C:LL)(q:Bool)(h:Oo [.b ((A.length:Int) != (C.length:Int)) false,.l [] [5,0,1] [] (qaa Tryz.f44 0) (qeH A C 0) .ret (qoG q)]):
 Rt 44 [cS 4 A,cS 4 C] [cB q]:=
 h.of
theorem qwf(h:Oo [.b ((A.length:Int) != (C.length:Int)) false,.l [] [5,0,1] [] (qaa Tryz.f44 0) (qeH A C 0) (.exit 0) qoH]):
 Rt 44 [cS 4 A,cS 4 C] [cB true]:=
 h.of
theorem qwg(h:Oo [.b ((A.length:Int) != (C.length:Int)) true]):
 Rt 203 [cS 1 A,cS 1 C] [cB false]:=
 h.of
def qeI(A C:LL)(a:Int):St:=
 { env:=envOf 26 [(0,vF 1 A),(1,vF 1 C),(5,vI a)],boxes:=[] }
def qoI(q:Bool):St:=
 { env:=envOf 26 [(4,.al (.one (.sb q)))],boxes:=[] }
theorem qwh(h:Oo [.b (decide (a<(A.length:Int))) true,.p (0≤a),.p (a<(A.length:Int)),.e A a.toNat [I b],.p (0≤a),.p (a<(C.length:Int)),.e C a.toNat [I c],.b (b != c) true]):
 Tp (qaa Tryz.f203 0) (qeI A C a) .ret (qoI false):=
 h.lp [4] []
theorem qwi(h:Oo [.b (decide (a<(A.length:Int))) true,.p (0≤a),.p (a<(A.length:Int)),.e A a.toNat [I b],.p (0≤a),.p (a<(C.length:Int)),.e C a.toNat [I c],.b (b != c) false,.u a]):
 Tp (qaa Tryz.f203 0) (qeI A C a) .normal (qeI A C (a+1)):=
 h.lp [5,0,1] []
def qoJ:St:=
 { env:=envOf 26 [],boxes:=[] }
theorem qwj(h:Oo [.b (decide (a<(A.length:Int))) false]):
 Tp (qaa Tryz.f203 0) (qeI A C a) (.exit 0) qoJ:=
 h.lp [] []
theorem qwk(A C:LL)(q:Bool)(h:Oo [.b ((A.length:Int) != (C.length:Int)) false,.l [] [5,0,1] [] (qaa Tryz.f203 0) (qeI A C 0) .ret (qoI q)]):
 Rt 203 [cS 1 A,cS 1 C] [cB q]:=
 h.of
theorem qwl(h:Oo [.b ((A.length:Int) != (C.length:Int)) false,.l [] [5,0,1] [] (qaa Tryz.f203 0) (qeI A C 0) (.exit 0) qoJ]):
 Rt 203 [cS 1 A,cS 1 C] [cB true]:=
 h.of
theorem qwm(h:Oo [.b ((A.length:Int) != (C.length:Int)) true]):
 Rt 29 [cS 1 A,cS 1 C] [cB false]:=
 h.of
def qeJ(A C:LL)(a:Int):St:=
 { env:=envOf 26 [(0,vF 1 A),(1,vF 1 C),(5,vI a)],boxes:=[] }
def qoK(q:Bool):St:=
 { env:=envOf 26 [(4,.al (.one (.sb q)))],boxes:=[] }
theorem qwn(h:Oo [.b (decide (a<(A.length:Int))) true,.p (0≤a),.p (a<(A.length:Int)),.e A a.toNat [B q],.p (0≤a),.p (a<(C.length:Int)),.e C a.toNat [B r],.b (!q==r) true]):
 Tp (qaa Tryz.f29 0) (qeJ A C a) .ret (qoK false):=
 h.lp [4] []
theorem qwo(h:Oo [.b (decide (a<(A.length:Int))) true,.p (0≤a),.p (a<(A.length:Int)),.e A a.toNat [B q],.p (0≤a),.p (a<(C.length:Int)),.e C a.toNat [B r],.b (!q==r) false,.u a]):
 Tp (qaa Tryz.f29 0) (qeJ A C a) .normal (qeJ A C (a+1)):=
 h.lp [5,0,1] []
def qoL:St:=
 { env:=envOf 26 [],boxes:=[] }
theorem qwp(h:Oo [.b (decide (a<(A.length:Int))) false]):
 Tp (qaa Tryz.f29 0) (qeJ A C a) (.exit 0) qoL:=
 h.lp [] []
theorem qwq(A C:LL)(q:Bool)(h:Oo [.b ((A.length:Int) != (C.length:Int)) false,.l [] [5,0,1] [] (qaa Tryz.f29 0) (qeJ A C 0) .ret (qoK q)]):
 Rt 29 [cS 1 A,cS 1 C] [cB q]:=
 h.of
theorem qwr(h:Oo [.b ((A.length:Int) != (C.length:Int)) false,.l [] [5,0,1] [] (qaa Tryz.f29 0) (qeJ A C 0) (.exit 0) qoL]):
 Rt 29 [cS 1 A,cS 1 C] [cB true]:=
 h.of
theorem qws(h:Oo [.b (a != b) true]):
 Rt 232 [.agg [I a,B q],.agg [I b,B r]] [cB false]:=
 h.of
theorem qwt(h:Oo [.b (a != b) false,.b (!q==r) true]):
 Rt 232 [.agg [I a,B q],.agg [I b,B r]] [cB false]:=
 h.of
theorem qwu(h:Oo [.b (a != b) false,.b (!q==r) false]):
 Rt 232 [.agg [I a,B q],.agg [I b,B r]] [cB true]:=
 h.of
theorem qwv(h:Oo [.b ((A.length:Int) != (C.length:Int)) true]):
 Rt 204 [cS 2 A,cS 2 C] [cB false]:=
 h.of
def qeK(A C:LL)(a:Int):St:=
 { env:=envOf 27 [(0,vF 2 A),(1,vF 2 C),(5,vI a)],boxes:=[] }
def qoM(q:Bool):St:=
 { env:=envOf 27 [(4,.al (.one (.sb q)))],boxes:=[] }
theorem qww(h:Oo [.b (decide (a<(A.length:Int))) true,.p (0≤a),.p (a<(A.length:Int)),.e A a.toNat [I b,B q],.p (0≤a),.p (a<(C.length:Int)),.e C a.toNat [I c,B r],.r 232 [.agg [I b,B q],.agg [I c,B r]] [cB s],.n s true]):
 Tp (qaa Tryz.f204 0) (qeK A C a) .ret (qoM false):=
 h.lp [4] []
theorem qwx(h:Oo [.b (decide (a<(A.length:Int))) true,.p (0≤a),.p (a<(A.length:Int)),.e A a.toNat [I b,B q],.p (0≤a),.p (a<(C.length:Int)),.e C a.toNat [I c,B r],.r 232 [.agg [I b,B q],.agg [I c,B r]] [cB s],.n s false,.u a]):
 Tp (qaa Tryz.f204 0) (qeK A C a) .normal (qeK A C (a+1)):=
 h.lp [5,0,1] []
def qoN:St:=
 { env:=envOf 27 [],boxes:=[] }
theorem qwy(h:Oo [.b (decide (a<(A.length:Int))) false]):
 Tp (qaa Tryz.f204 0) (qeK A C a) (.exit 0) qoN:=
 h.lp [] []
theorem qwz(A C:LL)(q:Bool)(h:Oo [.b ((A.length:Int) != (C.length:Int)) false,.l [] [5,0,1] [] (qaa Tryz.f204 0) (qeK A C 0) .ret (qoM q)]):
 Rt 204 [cS 2 A,cS 2 C] [cB q]:=
 h.of
theorem qwA(h:Oo [.b ((A.length:Int) != (C.length:Int)) false,.l [] [5,0,1] [] (qaa Tryz.f204 0) (qeK A C 0) (.exit 0) qoN]):
 Rt 204 [cS 2 A,cS 2 C] [cB true]:=
 h.of
theorem qwB(h:Oo [.b (!q==r) true]):
 Rt 129 [.agg [B q,I a,I b,B s,B t],.agg [B r,I c,I d,B u,B v]] [cB false]:=
 h.of
theorem qwC(h:Oo [.b (!q==r) false,.b (a != b) true]):
 Rt 129 [.agg [B q,I a,I c,B s,B t],.agg [B r,I b,I d,B u,B v]] [cB false]:=
 h.of
theorem qwD(h:Oo [.b (!q==r) false,.b (a != c) false,.b (b != d) true]):
 Rt 129 [.agg [B q,I a,I b,B s,B t],.agg [B r,I c,I d,B u,B v]] [cB false]:=
 h.of
theorem qwE(h:Oo [.b (!q==s) false,.b (a != c) false,.b (b != d) false,.b (!r==t) true]):
 Rt 129 [.agg [B q,I a,I b,B r,B u],.agg [B s,I c,I d,B t,B v]] [cB false]:=
 h.of
theorem qwF(h:Oo [.b (!q==t) false,.b (a != c) false,.b (b != d) false,.b (!r==u) false,.b (!s==v) true]):
 Rt 129 [.agg [B q,I a,I b,B r,B s],.agg [B t,I c,I d,B u,B v]] [cB false]:=
 h.of
theorem qwG(h:Oo [.b (!q==t) false,.b (a != c) false,.b (b != d) false,.b (!r==u) false,.b (!s==v) false]):
 Rt 129 [.agg [B q,I a,I b,B r,B s],.agg [B t,I c,I d,B u,B v]] [cB true]:=
 h.of
theorem qwH(h:Oo [.b ((A.length:Int) != (C.length:Int)) true]):
 Rt 69 [cS 5 A,cS 5 C] [cB false]:=
 h.of
def qeL(A C:LL)(a:Int):St:=
 { env:=envOf 27 [(0,vF 5 A),(1,vF 5 C),(5,vI a)],boxes:=[] }
def qoO(q:Bool):St:=
 { env:=envOf 27 [(4,.al (.one (.sb q)))],boxes:=[] }
theorem qwI(h:Oo [.b (decide (a<(A.length:Int))) true,.p (0≤a),.p (a<(A.length:Int)),.e A a.toNat [B t,I c,I d,B u,B v],.p (0≤a),.p (a<(C.length:Int)),.e C a.toNat [B w,I e,I b,B q,B r],.r 129 [.agg [B t,I c,I d,B u,B v],.agg [B w,I e,I b,B q,B r]] [cB s],.n s true]):
 Tp (qaa Tryz.f69 0) (qeL A C a) .ret (qoO false):=
 h.lp [4] []
theorem qwJ(h:Oo [.b (decide (a<(A.length:Int))) true,.p (0≤a),.p (a<(A.length:Int)),.e A a.toNat [B t,I c,I d,B u,B v],.p (0≤a),.p (a<(C.length:Int)),.e C a.toNat [B w,I e,I b,B q,B r],.r 129 [.agg [B t,I c,I d,B u,B v],.agg [B w,I e,I b,B q,B r]] [cB s],.n s false,.u a]):
 Tp (qaa Tryz.f69 0) (qeL A C a) .normal (qeL A C (a+1)):=
 h.lp [5,0,1] []
def qoP:St:=
 { env:=envOf 27 [],boxes:=[] }
theorem qwK(h:Oo [.b (decide (a<(A.length:Int))) false]):
 Tp (qaa Tryz.f69 0) (qeL A C a) (.exit 0) qoP:=
 h.lp [] []
theorem qwL(A C:LL)(q:Bool)(h:Oo [.b ((A.length:Int) != (C.length:Int)) false,.l [] [5,0,1] [] (qaa Tryz.f69 0) (qeL A C 0) .ret (qoO q)]):
 Rt 69 [cS 5 A,cS 5 C] [cB q]:=
 h.of
theorem qwM(h:Oo [.b ((A.length:Int) != (C.length:Int)) false,.l [] [5,0,1] [] (qaa Tryz.f69 0) (qeL A C 0) (.exit 0) qoP]):
 Rt 69 [cS 5 A,cS 5 C] [cB true]:=
 h.of
theorem qwN(h:Oo [.b (a != b) true]):
 Rt 130 [.agg [I a,I c,B q],.agg [I b,I d,B r]] [cB false]:=
 h.of
theorem qwO(h:Oo [.b (a != c) false,.b (b != d) true]):
 Rt 130 [.agg [I a,I b,B q],.agg [I c,I d,B r]] [cB false]:=
 h.of
theorem qwP(h:Oo [.b (a != c) false,.b (b != d) false,.b (!q==r) true]):
 Rt 130 [.agg [I a,I b,B q],.agg [I c,I d,B r]] [cB false]:=
 h.of
theorem qwQ(h:Oo [.b (a != c) false,.b (b != d) false,.b (!q==r) false]):
 Rt 130 [.agg [I a,I b,B q],.agg [I c,I d,B r]] [cB true]:=
 h.of
theorem qwR(h:Oo [.b ((A.length:Int) != (C.length:Int)) true]):
 Rt 70 [cS 3 A,cS 3 C] [cB false]:=
 h.of
def qeM(A C:LL)(a:Int):St:=
 { env:=envOf 27 [(0,vF 3 A),(1,vF 3 C),(5,vI a)],boxes:=[] }
def qoQ(q:Bool):St:=
 { env:=envOf 27 [(4,.al (.one (.sb q)))],boxes:=[] }
theorem qwS(h:Oo [.b (decide (a<(A.length:Int))) true,.p (0≤a),.p (a<(A.length:Int)),.e A a.toNat [I b,I c,B q],.p (0≤a),.p (a<(C.length:Int)),.e C a.toNat [I d,I e,B r],.r 130 [.agg [I b,I c,B q],.agg [I d,I e,B r]] [cB s],.n s true]):
 Tp (qaa Tryz.f70 0) (qeM A C a) .ret (qoQ false):=
 h.lp [4] []
theorem qwT(h:Oo [.b (decide (a<(A.length:Int))) true,.p (0≤a),.p (a<(A.length:Int)),.e A a.toNat [I b,I c,B q],.p (0≤a),.p (a<(C.length:Int)),.e C a.toNat [I d,I e,B r],.r 130 [.agg [I b,I c,B q],.agg [I d,I e,B r]] [cB s],.n s false,.u a]):
 Tp (qaa Tryz.f70 0) (qeM A C a) .normal (qeM A C (a+1)):=
 h.lp [5,0,1] []
def qoR:St:=
 { env:=envOf 27 [],boxes:=[] }
theorem qwU(h:Oo [.b (decide (a<(A.length:Int))) false]):
 Tp (qaa Tryz.f70 0) (qeM A C a) (.exit 0) qoR:=
 h.lp [] []
theorem qwV(A C:LL)(q:Bool)(h:Oo [.b ((A.length:Int) != (C.length:Int)) false,.l [] [5,0,1] [] (qaa Tryz.f70 0) (qeM A C 0) .ret (qoQ q)]):
 Rt 70 [cS 3 A,cS 3 C] [cB q]:=
 h.of
theorem qwW(h:Oo [.b ((A.length:Int) != (C.length:Int)) false,.l [] [5,0,1] [] (qaa Tryz.f70 0) (qeM A C 0) (.exit 0) qoR]):
 Rt 70 [cS 3 A,cS 3 C] [cB true]:=
 h.of
theorem qwX(h:Oo [.b (a != b) true]):
 Rt 179 [.agg (nd a c d A),.agg (nd b e f C)] [cB false]:=
 h.of
theorem qwY(h:Oo [.b (a != c) false,.b (b != d) true]):
 Rt 179 [.agg (nd a b e A),.agg (nd c d f C)] [cB false]:=
 h.of
theorem qwZ(h:Oo [.b (a != d) false,.b (b != e) false,.b (c != f) true]):
 Rt 179 [.agg (nd a b c A),.agg (nd d e f C)] [cB false]:=
 h.of
theorem qw0(h:Oo [.b (a != d) false,.b (b != e) false,.b (c != f) false,.r 203 [cS 1 A,cS 1 C] [cB q],.n q true]):
 Rt 179 [.agg (nd a b c A),.agg (nd d e f C)] [cB false]:=
 h.of
theorem qw1(h:Oo [.b (a != d) false,.b (b != e) false,.b (c != f) false,.r 203 [cS 1 A,cS 1 C] [cB q],.n q false]):
 Rt 179 [.agg (nd a b c A),.agg (nd d e f C)] [cB true]:=
 h.of
theorem qw2(h:Oo [.b ((A.length:Int) != (C.length:Int)) true]):
 Rt 107 [cS 4 A,cS 4 C] [cB false]:=
 h.of
def qeN(A C:LL)(a:Int):St:=
 { env:=envOf 27 [(0,vF 4 A),(1,vF 4 C),(5,vI a)],boxes:=[] }
def qoS(q:Bool):St:=
 { env:=envOf 27 [(4,.al (.one (.sb q)))],boxes:=[] }
theorem qw3(h:Oo [.b (decide (a<(A.length:Int))) true,.p (0≤a),.p (a<(A.length:Int)),.e A a.toNat (nd b c d F),.p (0≤a),.p (a<(C.length:Int)),.e C a.toNat (nd e f g E),.r 179 [.agg (nd b c d F),.agg (nd e f g E)] [cB q],.n q true]):
 Tp (qaa Tryz.f107 0) (qeN A C a) .ret (qoS false):=
 h.lp [4] []
theorem qw4(h:Oo [.b (decide (a<(A.length:Int))) true,.p (0≤a),.p (a<(A.length:Int)),.e A a.toNat (nd b c d F),.p (0≤a),.p (a<(C.length:Int)),.e C a.toNat (nd e f g E),.r 179 [.agg (nd b c d F),.agg (nd e f g E)] [cB q],.n q false,.u a]):
 Tp (qaa Tryz.f107 0) (qeN A C a) .normal (qeN A C (a+1)):=
 h.lp [5,0,1] []
def qoT:St:=
 { env:=envOf 27 [],boxes:=[] }
theorem qw5(h:Oo [.b (decide (a<(A.length:Int))) false]):
 Tp (qaa Tryz.f107 0) (qeN A C a) (.exit 0) qoT:=
 h.lp [] []
theorem qw6(A C:LL)(q:Bool)(h:Oo [.b ((A.length:Int) != (C.length:Int)) false,.l [] [5,0,1] [] (qaa Tryz.f107 0) (qeN A C 0) .ret (qoS q)]):
 Rt 107 [cS 4 A,cS 4 C] [cB q]:=
 h.of
theorem qw7(h:Oo [.b ((A.length:Int) != (C.length:Int)) false,.l [] [5,0,1] [] (qaa Tryz.f107 0) (qeN A C 0) (.exit 0) qoT]):
 Rt 107 [cS 4 A,cS 4 C] [cB true]:=
 h.of
theorem qw8(h:Oo [.b (a != b) true]):
 Rt 128 [.agg (lk a A e f g i),.agg (lk b C j k c d)] [cB false]:=
 h.of
theorem qw9(h:Oo [.b (a != b) false,.r 46 [cS 5 A,cS 5 C] [cB q],.n q true]):
 Rt 128 [.agg (lk a A e f g i),.agg (lk b C j k c d)] [cB false]:=
 h.of
theorem qxa(h:Oo [.b (a != c) false,.r 46 [cS 5 A,cS 5 C] [cB q],.n q false,.b (b != d) true]):
 Rt 128 [.agg (lk a A b g i j),.agg (lk c C d k e f)] [cB false]:=
 h.of
theorem qxb(h:Oo [.b (a != d) false,.r 46 [cS 5 A,cS 5 C] [cB q],.n q false,.b (b != e) false,.b (c != f) true]):
 Rt 128 [.agg (lk a A b c j k),.agg (lk d C e f g i)] [cB false]:=
 h.of
theorem qxc(h:Oo [.b (a != f) false,.r 46 [cS 5 A,cS 5 C] [cB q],.n q false,.b (c != g) false,.b (d != i) false,.b (e != b) true]):
 Rt 128 [.agg (lk a A c d e k),.agg (lk f C g i b j)] [cB false]:=
 h.of
theorem qxd(h:Oo [.b (a != i) false,.r 46 [cS 5 A,cS 5 C] [cB q],.n q false,.b (d != j) false,.b (e != k) false,.b (f != b) false,.b (g != c) true]):
 Rt 128 [.agg (lk a A d e f g),.agg (lk i C j k b c)] [cB false]:=
 h.of
theorem qxe(h:Oo [.b (a != i) false,.r 46 [cS 5 A,cS 5 C] [cB q],.n q false,.b (d != j) false,.b (e != k) false,.b (f != b) false,.b (g != c) false]):
 Rt 128 [.agg (lk a A d e f g),.agg (lk i C j k b c)] [cB true]:=
 h.of
theorem qxf(h:Oo [.b ((A.length:Int) != (C.length:Int)) true]):
 Rt 68 [cS 6 A,cS 6 C] [cB false]:=
 h.of
def qeO(A C:LL)(a:Int):St:=
 { env:=envOf 27 [(0,vF 6 A),(1,vF 6 C),(5,vI a)],boxes:=[] }
def qoU(q:Bool):St:=
 { env:=envOf 27 [(4,.al (.one (.sb q)))],boxes:=[] }
theorem qxg(h:Oo [.b (decide (a<(A.length:Int))) true,.p (0≤a),.p (a<(A.length:Int)),.e A a.toNat (lk f F g i j k),.p (0≤a),.p (a<(C.length:Int)),.e C a.toNat (lk l E b c d e),.r 128 [.agg (lk f F g i j k),.agg (lk l E b c d e)] [cB q],.n q true]):
 Tp (qaa Tryz.f68 0) (qeO A C a) .ret (qoU false):=
 h.lp [4] []
theorem qxh(h:Oo [.b (decide (a<(A.length:Int))) true,.p (0≤a),.p (a<(A.length:Int)),.e A a.toNat (lk f F g i j k),.p (0≤a),.p (a<(C.length:Int)),.e C a.toNat (lk l E b c d e),.r 128 [.agg (lk f F g i j k),.agg (lk l E b c d e)] [cB q],.n q false,.u a]):
 Tp (qaa Tryz.f68 0) (qeO A C a) .normal (qeO A C (a+1)):=
 h.lp [5,0,1] []
def qoV:St:=
 { env:=envOf 27 [],boxes:=[] }
theorem qxi(h:Oo [.b (decide (a<(A.length:Int))) false]):
 Tp (qaa Tryz.f68 0) (qeO A C a) (.exit 0) qoV:=
 h.lp [] []
theorem qxj(A C:LL)(q:Bool)(h:Oo [.b ((A.length:Int) != (C.length:Int)) false,.l [] [5,0,1] [] (qaa Tryz.f68 0) (qeO A C 0) .ret (qoU q)]):
 Rt 68 [cS 6 A,cS 6 C] [cB q]:=
 h.of
theorem qxk(h:Oo [.b ((A.length:Int) != (C.length:Int)) false,.l [] [5,0,1] [] (qaa Tryz.f68 0) (qeO A C 0) (.exit 0) qoV]):
 Rt 68 [cS 6 A,cS 6 C] [cB true]:=
 h.of
theorem qxl(h:Oo [.r 107 [cS 4 A,cS 4 C] [cB q],.n q true]):
 Rt 45 [.agg (gr A a b),.agg (gr C c d)] [cB false]:=
 h.of
theorem qxm(h:Oo [.r 107 [cS 4 A,cS 4 C] [cB q],.n q false,.b (a != b) true]):
 Rt 45 [.agg (gr A a c),.agg (gr C b d)] [cB false]:=
 h.of
theorem qxn(h:Oo [.r 107 [cS 4 A,cS 4 C] [cB q],.n q false,.b (a != c) false,.b (b != d) true]):
 Rt 45 [.agg (gr A a b),.agg (gr C c d)] [cB false]:=
 h.of
theorem qxo(h:Oo [.r 107 [cS 4 A,cS 4 C] [cB q],.n q false,.b (a != c) false,.b (b != d) false]):
 Rt 45 [.agg (gr A a b),.agg (gr C c d)] [cB true]:=
 h.of
theorem qxp(h:Oo [.r 46 [cS 5 A,cS 5 C] [cB q],.n q true]):
 Rt 127 [.agg (wk A E M N P Q R S),.agg (wk C U F G H J K L)] [cB false]:=
 h.of
theorem qxq(h:Oo [.r 46 [cS 5 A,cS 5 E] [cB q],.n q false,.r 46 [cS 5 C,cS 5 F] [cB r],.n r true]):
 Rt 127 [.agg (wk A C N P Q R S U),.agg (wk E F G H J K L M)] [cB false]:=
 h.of
theorem qxr(h:Oo [.r 46 [cS 5 A,cS 5 G] [cB q],.n q false,.r 46 [cS 5 C,cS 5 H] [cB r],.n r false,.r 46 [cS 5 F,cS 5 E] [cB s],.n s true]):
 Rt 127 [.agg (wk A C F P Q R S U),.agg (wk G H E J K L M N)] [cB false]:=
 h.of
theorem qxs(h:Oo [.r 46 [cS 5 A,cS 5 J] [cB q],.n q false,.r 46 [cS 5 C,cS 5 K] [cB r],.n r false,.r 46 [cS 5 G,cS 5 E] [cB s],.n s false,.r 44 [cS 4 H,cS 4 F] [cB t],.n t true]):
 Rt 127 [.agg (wk A C G H Q R S U),.agg (wk J K E F L M N P)] [cB false]:=
 h.of
theorem qxt(h:Oo [.r 46 [cS 5 A,cS 5 L] [cB q],.n q false,.r 46 [cS 5 C,cS 5 M] [cB r],.n r false,.r 46 [cS 5 H,cS 5 E] [cB s],.n s false,.r 44 [cS 4 J,cS 4 F] [cB t],.n t false,.r 203 [cS 1 K,cS 1 G] [cB u],.n u true]):
 Rt 127 [.agg (wk A C H J K R S U),.agg (wk L M E F G N P Q)] [cB false]:=
 h.of
theorem qxu(h:Oo [.r 46 [cS 5 A,cS 5 N] [cB q],.n q false,.r 46 [cS 5 C,cS 5 P] [cB r],.n r false,.r 46 [cS 5 J,cS 5 E] [cB s],.n s false,.r 44 [cS 4 K,cS 4 F] [cB t],.n t false,.r 203 [cS 1 L,cS 1 G] [cB u],.n u false,.r 29 [cS 1 M,cS 1 H] [cB v],.n v true]):
 Rt 127 [.agg (wk A C J K L M S U),.agg (wk N P E F G H Q R)] [cB false]:=
 h.of
theorem qxv(h:Oo [.r 46 [cS 5 A,cS 5 Q] [cB q],.n q false,.r 46 [cS 5 C,cS 5 R] [cB r],.n r false,.r 46 [cS 5 K,cS 5 E] [cB s],.n s false,.r 44 [cS 4 L,cS 4 F] [cB t],.n t false,.r 203 [cS 1 M,cS 1 G] [cB u],.n u false,.r 29 [cS 1 N,cS 1 H] [cB v],.n v false,.r 29 [cS 1 P,cS 1 J] [cB w],.n w true]):
 Rt 127 [.agg (wk A C K L M N P U),.agg (wk Q R E F G H J S)] [cB false]:=
 h.of
theorem qxw(h:Oo [.r 46 [cS 5 A,cS 5 S] [cB q],.n q false,.r 46 [cS 5 C,cS 5 U] [cB r],.n r false,.r 46 [cS 5 L,cS 5 E] [cB s],.n s false,.r 44 [cS 4 M,cS 4 F] [cB t],.n t false,.r 203 [cS 1 N,cS 1 G] [cB u],.n u false,.r 29 [cS 1 P,cS 1 H] [cB v],.n v false,.r 29 [cS 1 Q,cS 1 J] [cB w],.n w false,.r 204 [cS 2 R,cS 2 K] [cB x],.n x true]):
 Rt 127 [.agg (wk A C L M N P Q R),.agg (wk S U E F G H J K)] [cB false]:=
 h.of
theorem qxx(h:Oo [.r 46 [cS 5 A,cS 5 S] [cB q],.n q false,.r 46 [cS 5 C,cS 5 U] [cB r],.n r false,.r 46 [cS 5 L,cS 5 E] [cB s],.n s false,.r 44 [cS 4 M,cS 4 F] [cB t],.n t false,.r 203 [cS 1 N,cS 1 G] [cB u],.n u false,.r 29 [cS 1 P,cS 1 H] [cB v],.n v false,.r 29 [cS 1 Q,cS 1 J] [cB w],.n w false,.r 204 [cS 2 R,cS 2 K] [cB x],.n x false]):
 Rt 127 [.agg (wk A C L M N P Q R),.agg (wk S U E F G H J K)] [cB true]:=
 h.of
theorem qxy(h:Oo [.b ((A.length:Int) != (C.length:Int)) true]):
 Rt 67 [cS 8 A,cS 8 C] [cB false]:=
 h.of
def qeP(A C:LL)(a:Int):St:=
 { env:=envOf 27 [(0,vF 8 A),(1,vF 8 C),(5,vI a)],boxes:=[] }
def qoW(q:Bool):St:=
 { env:=envOf 27 [(4,.al (.one (.sb q)))],boxes:=[] }
theorem qxz(h:Oo [.b (decide (a<(A.length:Int))) true,.p (0≤a),.p (a<(A.length:Int)),.e A a.toNat (wk P Q R S U V W E),.p (0≤a),.p (a<(C.length:Int)),.e C a.toNat (wk F G H J K L M N),.r 127 [.agg (wk P Q R S U V W E),.agg (wk F G H J K L M N)] [cB q],.n q true]):
 Tp (qaa Tryz.f67 0) (qeP A C a) .ret (qoW false):=
 h.lp [4] []
theorem qxA(h:Oo [.b (decide (a<(A.length:Int))) true,.p (0≤a),.p (a<(A.length:Int)),.e A a.toNat (wk P Q R S U V W E),.p (0≤a),.p (a<(C.length:Int)),.e C a.toNat (wk F G H J K L M N),.r 127 [.agg (wk P Q R S U V W E),.agg (wk F G H J K L M N)] [cB q],.n q false,.u a]):
 Tp (qaa Tryz.f67 0) (qeP A C a) .normal (qeP A C (a+1)):=
 h.lp [5,0,1] []
def qoX:St:=
 { env:=envOf 27 [],boxes:=[] }
theorem qxB(h:Oo [.b (decide (a<(A.length:Int))) false]):
 Tp (qaa Tryz.f67 0) (qeP A C a) (.exit 0) qoX:=
 h.lp [] []
theorem qxC(A C:LL)(q:Bool)(h:Oo [.b ((A.length:Int) != (C.length:Int)) false,.l [] [5,0,1] [] (qaa Tryz.f67 0) (qeP A C 0) .ret (qoW q)]):
 Rt 67 [cS 8 A,cS 8 C] [cB q]:=
 h.of
theorem qxD(h:Oo [.b ((A.length:Int) != (C.length:Int)) false,.l [] [5,0,1] [] (qaa Tryz.f67 0) (qeP A C 0) (.exit 0) qoX]):
 Rt 67 [cS 8 A,cS 8 C] [cB true]:=
 h.of
theorem qxE(h:Oo [.r 45 [.agg (gr A a b),.agg (gr C c d)] [cB q],.n q true]):
 Rt 15 [.agg (cl A a b J K L M),.agg (cl C c d E F G H)] [cB false]:=
 h.of
theorem qxF(h:Oo [.r 45 [.agg (gr A a b),.agg (gr F c d)] [cB q],.n q false,.r 67 [cS 8 E,cS 8 C] [cB r],.n r true]):
 Rt 15 [.agg (cl A a b E K L M),.agg (cl F c d C G H J)] [cB false]:=
 h.of
theorem qxG(h:Oo [.r 45 [.agg (gr A a b),.agg (gr H c d)] [cB q],.n q false,.r 67 [cS 8 F,cS 8 C] [cB r],.n r false,.r 68 [cS 6 G,cS 6 E] [cB s],.n s true]):
 Rt 15 [.agg (cl A a b F G L M),.agg (cl H c d C E J K)] [cB false]:=
 h.of
theorem qxH(h:Oo [.r 45 [.agg (gr A a b),.agg (gr K c d)] [cB q],.n q false,.r 67 [cS 8 G,cS 8 C] [cB r],.n r false,.r 68 [cS 6 H,cS 6 E] [cB s],.n s false,.r 69 [cS 5 J,cS 5 F] [cB t],.n t true]):
 Rt 15 [.agg (cl A a b G H J M),.agg (cl K c d C E F L)] [cB false]:=
 h.of
theorem qxI(h:Oo [.r 45 [.agg (gr A a b),.agg (gr M c d)] [cB q],.n q false,.r 67 [cS 8 H,cS 8 C] [cB r],.n r false,.r 68 [cS 6 J,cS 6 E] [cB s],.n s false,.r 69 [cS 5 K,cS 5 F] [cB t],.n t false,.r 70 [cS 3 L,cS 3 G] [cB u],.n u true]):
 Rt 15 [.agg (cl A a b H J K L),.agg (cl M c d C E F G)] [cB false]:=
 h.of
theorem qxJ(h:Oo [.r 45 [.agg (gr A a b),.agg (gr M c d)] [cB q],.n q false,.r 67 [cS 8 H,cS 8 C] [cB r],.n r false,.r 68 [cS 6 J,cS 6 E] [cB s],.n s false,.r 69 [cS 5 K,cS 5 F] [cB t],.n t false,.r 70 [cS 3 L,cS 3 G] [cB u],.n u false]):
 Rt 15 [.agg (cl A a b H J K L),.agg (cl M c d C E F G)] [cB true]:=
 h.of
theorem qxK(h:Oo [.b (a != b) true]):
 Rt 93 [.agg [I a,I c,I d],.agg [I b,I e,I f]] [cB false]:=
 h.of
theorem qxL(h:Oo [.b (a != c) false,.b (b != d) true]):
 Rt 93 [.agg [I a,I b,I e],.agg [I c,I d,I f]] [cB false]:=
 h.of
theorem qxM(h:Oo [.b (a != d) false,.b (b != e) false,.b (c != f) true]):
 Rt 93 [.agg [I a,I b,I c],.agg [I d,I e,I f]] [cB false]:=
 h.of
theorem qxN(h:Oo [.b (a != d) false,.b (b != e) false,.b (c != f) false]):
 Rt 93 [.agg [I a,I b,I c],.agg [I d,I e,I f]] [cB true]:=
 h.of
theorem qxO(h:Oo [.b ((A.length:Int) != (C.length:Int)) true]):
 Rt 30 [cS 3 A,cS 3 C] [cB false]:=
 h.of
def qeQ(A C:LL)(a:Int):St:=
 { env:=envOf 27 [(0,vF 3 A),(1,vF 3 C),(5,vI a)],boxes:=[] }
def qoY(q:Bool):St:=
 { env:=envOf 27 [(4,.al (.one (.sb q)))],boxes:=[] }
theorem qxP(h:Oo [.b (decide (a<(A.length:Int))) true,.p (0≤a),.p (a<(A.length:Int)),.e A a.toNat [I b,I c,I d],.p (0≤a),.p (a<(C.length:Int)),.e C a.toNat [I e,I f,I g],.r 93 [.agg [I b,I c,I d],.agg [I e,I f,I g]] [cB q],.n q true]):
 Tp (qaa Tryz.f30 0) (qeQ A C a) .ret (qoY false):=
 h.lp [4] []
theorem qxQ(h:Oo [.b (decide (a<(A.length:Int))) true,.p (0≤a),.p (a<(A.length:Int)),.e A a.toNat [I b,I c,I d],.p (0≤a),.p (a<(C.length:Int)),.e C a.toNat [I e,I f,I g],.r 93 [.agg [I b,I c,I d],.agg [I e,I f,I g]] [cB q],.n q false,.u a]):
 Tp (qaa Tryz.f30 0) (qeQ A C a) .normal (qeQ A C (a+1)):=
 h.lp [5,0,1] []
def qoZ:St:=
 { env:=envOf 27 [],boxes:=[] }
theorem qxR(h:Oo [.b (decide (a<(A.length:Int))) false]):
 Tp (qaa Tryz.f30 0) (qeQ A C a) (.exit 0) qoZ:=
 h.lp [] []
theorem qxS(A C:LL)(q:Bool)(h:Oo [.b ((A.length:Int) != (C.length:Int)) false,.l [] [5,0,1] [] (qaa Tryz.f30 0) (qeQ A C 0) .ret (qoY q)]):
 Rt 30 [cS 3 A,cS 3 C] [cB q]:=
 h.of
theorem qxT(h:Oo [.b ((A.length:Int) != (C.length:Int)) false,.l [] [5,0,1] [] (qaa Tryz.f30 0) (qeQ A C 0) (.exit 0) qoZ]):
 Rt 30 [cS 3 A,cS 3 C] [cB true]:=
 h.of
end Go.Proofs.YtdanpadojemjeaaGreat
