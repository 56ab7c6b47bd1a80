import Derived.Test.YtdanpadojemjeaaGreatRows
import Derived.Test.YtdanpadojemjeaaGreatGE
namespace Go.Proofs.YtdanpadojemjeaaGreat
open Go.Sx Go.RowKit
variable {a b c d e f g i j k l : Int} {A C E F G H J K L M N P Q R S U V W : LL} {q r s t u v w x : Bool}
theorem qun(h:Oo [.b (a != b) true]):
 Rt 180 [.agg [I a,I c],.agg [I b,I d]] [cB false]:=
 h.of
theorem qup(h:Oo [.b (a != c) false,.b (b != d) true]):
 Rt 180 [.agg [I a,I b],.agg [I c,I d]] [cB false]:=
 h.of
theorem quq(h:Oo [.b (a != c) false,.b (b != d) false]):
 Rt 180 [.agg [I a,I b],.agg [I c,I d]] [cB true]:=
 h.of
theorem qur(h:Oo [.b (a != b) true]):
 Rt 108 [.agg (ri a c d e f),.agg (ri b g i j k)] [cB false]:=
 h.of
theorem qus(h:Oo [.b (a != d) false,.r 180 [.agg [I b,I c],.agg [I e,I f]] [cB q],.n q true]):
 Rt 108 [.agg (ri a b c g i),.agg (ri d e f j k)] [cB false]:=
 h.of
theorem qut(h:Oo [.b (a != e) false,.r 180 [.agg [I b,I c],.agg [I f,I g]] [cB q],.n q false,.b (d != i) true]):
 Rt 108 [.agg (ri a b c d j),.agg (ri e f g i k)] [cB false]:=
 h.of
theorem quu(h:Oo [.b (a != f) false,.r 180 [.agg [I b,I c],.agg [I g,I i]] [cB q],.n q false,.b (d != j) false,.b (e != k) true]):
 Rt 108 [.agg (ri a b c d e),.agg (ri f g i j k)] [cB false]:=
 h.of
theorem quv(h:Oo [.b (a != f) false,.r 180 [.agg [I b,I c],.agg [I g,I i]] [cB q],.n q false,.b (d != j) false,.b (e != k) false]):
 Rt 108 [.agg (ri a b c d e),.agg (ri f g i j k)] [cB true]:=
 h.of
theorem quw(h:Oo [.b ((A.length:Int) != (C.length:Int)) true]):
 Rt 46 [cS 5 A,cS 5 C] [cB false]:=
 h.of
def qeq(A C:LL)(a:Int):St:=
 { env:=envOf 27 [(0,vF 5 A),(1,vF 5 C),(5,vI a)],boxes:=[] }
def qnx(q:Bool):St:=
 { env:=envOf 27 [(4,.al (.one (.sb q)))],boxes:=[] }
theorem qux(h:Oo [.b (decide (a<(A.length:Int))) true,.p (0≤a),.p (a<(A.length:Int)),.e A a.toNat (ri e f g i j),.p (0≤a),.p (a<(C.length:Int)),.e C a.toNat (ri k l b c d),.r 108 [.agg (ri e f g i j),.agg (ri k l b c d)] [cB q],.n q true]):
 Tp (qaa Tryz.f46 0) (qeq A C a) .ret (qnx false):=
 h.lp [4] []
theorem quy(h:Oo [.b (decide (a<(A.length:Int))) true,.p (0≤a),.p (a<(A.length:Int)),.e A a.toNat (ri e f g i j),.p (0≤a),.p (a<(C.length:Int)),.e C a.toNat (ri k l b c d),.r 108 [.agg (ri e f g i j),.agg (ri k l b c d)] [cB q],.n q false,.u a]):
 Tp (qaa Tryz.f46 0) (qeq A C a) .normal (qeq A C (a+1)):=
 h.lp [5,0,1] []
def qny:St:=
 { env:=envOf 27 [],boxes:=[] }
theorem quz(h:Oo [.b (decide (a<(A.length:Int))) false]):
 Tp (qaa Tryz.f46 0) (qeq A C a) (.exit 0) qny:=
 h.lp [] []
theorem quA(A C:LL)(q:Bool)(h:Oo [.b ((A.length:Int) != (C.length:Int)) false,.l [] [5,0,1] [] (qaa Tryz.f46 0) (qeq A C 0) .ret (qnx q)]):
 Rt 46 [cS 5 A,cS 5 C] [cB q]:=
 h.of
theorem quB(h:Oo [.b ((A.length:Int) != (C.length:Int)) false,.l [] [5,0,1] [] (qaa Tryz.f46 0) (qeq A C 0) (.exit 0) qny]):
 Rt 46 [cS 5 A,cS 5 C] [cB true]:=
 h.of
theorem quC(h:Oo [.b (a != b) true]):
 Rt 106 [.agg [I a,I c,I d,I e],.agg [I b,I f,I g,I i]] [cB false]:=
 h.of
theorem quD(h:Oo [.b (a != c) false,.b (b != d) true]):
 Rt 106 [.agg [I a,I b,I e,I f],.agg [I c,I d,I g,I i]] [cB false]:=
 h.of
theorem quE(h:Oo [.b (a != d) false,.b (b != e) false,.b (c != f) true]):
 Rt 106 [.agg [I a,I b,I c,I g],.agg [I d,I e,I f,I i]] [cB false]:=
 h.of
theorem quF(h:Oo [.b (a != e) false,.b (b != f) false,.b (c != g) false,.b (d != i) true]):
 Rt 106 [.agg [I a,I b,I c,I d],.agg [I e,I f,I g,I i]] [cB false]:=
 h.of
theorem quG(h:Oo [.b (a != e) false,.b (b != f) false,.b (c != g) false,.b (d != i) false]):
 Rt 106 [.agg [I a,I b,I c,I d],.agg [I e,I f,I g,I i]] [cB true]:=
 h.of
theorem quH(h:Oo [.b ((A.length:Int) != (C.length:Int)) true]):
 Rt 44 [cS 4 A,cS 4 C] [cB false]:=
 h.of
def qer(A C:LL)(a:Int):St:=
 { env:=envOf 27 [(0,vF 4 A),(1,vF 4 C),(5,vI a)],boxes:=[] }
def qnz(q:Bool):St:=
 { env:=envOf 27 [(4,.al (.one (.sb q)))],boxes:=[] }
theorem quI(h:Oo [.b (decide (a<(A.length:Int))) true,.p (0≤a),.p (a<(A.length:Int)),.e A a.toNat [I c,I d,I e,I f],.p (0≤a),.p (a<(C.length:Int)),.e C a.toNat [I g,I i,I j,I b],.r 106 [.agg [I c,I d,I e,I f],.agg [I g,I i,I j,I b]] [cB q],.n q true]):
 Tp (qaa Tryz.f44 0) (qer A C a) .ret (qnz false):=
 h.lp [4] []
theorem quJ(h:Oo [.b (decide (a<(A.length:Int))) true,.p (0≤a),.p (a<(A.length:Int)),.e A a.toNat [I c,I d,I e,I f],.p (0≤a),.p (a<(C.length:Int)),.e C a.toNat [I g,I i,I j,I b],.r 106 [.agg [I c,I d,I e,I f],.agg [I g,I i,I j,I b]] [cB q],.n q false,.u a]):
 Tp (qaa Tryz.f44 0) (qer A C a) .normal (qer A C (a+1)):=
 h.lp [5,0,1] []
def qnA:St:=
 { env:=envOf 27 [],boxes:=[] }
theorem quK(h:Oo [.b (decide (a<(A.length:Int))) false]):
 Tp (qaa Tryz.f44 0) (qer A C a) (.exit 0) qnA:=
 h.lp [] []
theorem quL(A C:LL)(q:Bool)(h:Oo [.b ((A.length:Int) != (C.length:Int)) false,.l [] [5,0,1] [] (qaa Tryz.f44 0) (qer A C 0) .ret (qnz q)]):
 Rt 44 [cS 4 A,cS 4 C] [cB q]:=
 h.of
theorem quM(h:Oo [.b ((A.length:Int) != (C.length:Int)) false,.l [] [5,0,1] [] (qaa Tryz.f44 0) (qer A C 0) (.exit 0) qnA]):
 Rt 44 [cS 4 A,cS 4 C] [cB true]:=
 h.of
theorem quN(h:Oo [.b ((A.length:Int) != (C.length:Int)) true]):
 Rt 203 [cS 1 A,cS 1 C] [cB false]:=
 h.of
def qes(A C:LL)(a:Int):St:=
 { env:=envOf 26 [(0,vF 1 A),(1,vF 1 C),(5,vI a)],boxes:=[] }
def qnB(q:Bool):St:=
 { env:=envOf 26 [(4,.al (.one (.sb q)))],boxes:=[] }
theorem quO(h:Oo [.b (decide (a<(A.length:Int))) true,.p (0≤a),.p (a<(A.length:Int)),.e A a.toNat [I b],.p (0≤a),.p (a<(C.length:Int)),.e C a.toNat [I c],.b (b != c) true]):
 Tp (qaa Tryz.f203 0) (qes A C a) .ret (qnB false):=
 h.lp [4] []
theorem quP(h:Oo [.b (decide (a<(A.length:Int))) true,.p (0≤a),.p (a<(A.length:Int)),.e A a.toNat [I b],.p (0≤a),.p (a<(C.length:Int)),.e C a.toNat [I c],.b (b != c) false,.u a]):
 Tp (qaa Tryz.f203 0) (qes A C a) .normal (qes A C (a+1)):=
 h.lp [5,0,1] []
def qnC:St:=
 { env:=envOf 26 [],boxes:=[] }
theorem quQ(h:Oo [.b (decide (a<(A.length:Int))) false]):
 Tp (qaa Tryz.f203 0) (qes A C a) (.exit 0) qnC:=
 h.lp [] []
theorem quR(A C:LL)(q:Bool)(h:Oo [.b ((A.length:Int) != (C.length:Int)) false,.l [] [5,0,1] [] (qaa Tryz.f203 0) (qes A C 0) .ret (qnB q)]):
 Rt 203 [cS 1 A,cS 1 C] [cB q]:=
 h.of
theorem quS(h:Oo [.b ((A.length:Int) != (C.length:Int)) false,.l [] [5,0,1] [] (qaa Tryz.f203 0) (qes A C 0) (.exit 0) qnC]):
 Rt 203 [cS 1 A,cS 1 C] [cB true]:=
 h.of
theorem quT(h:Oo [.b ((A.length:Int) != (C.length:Int)) true]):
 Rt 29 [cS 1 A,cS 1 C] [cB false]:=
 h.of
def qet(A C:LL)(a:Int):St:=
 { env:=envOf 26 [(0,vF 1 A),(1,vF 1 C),(5,vI a)],boxes:=[] }
def qnD(q:Bool):St:=
 { env:=envOf 26 [(4,.al (.one (.sb q)))],boxes:=[] }
theorem quU(h:Oo [.b (decide (a<(A.length:Int))) true,.p (0≤a),.p (a<(A.length:Int)),.e A a.toNat [B q],.p (0≤a),.p (a<(C.length:Int)),.e C a.toNat [B r],.b (!q==r) true]):
 Tp (qaa Tryz.f29 0) (qet A C a) .ret (qnD false):=
 h.lp [4] []
theorem quV(h:Oo [.b (decide (a<(A.length:Int))) true,.p (0≤a),.p (a<(A.length:Int)),.e A a.toNat [B q],.p (0≤a),.p (a<(C.length:Int)),.e C a.toNat [B r],.b (!q==r) false,.u a]):
 Tp (qaa Tryz.f29 0) (qet A C a) .normal (qet A C (a+1)):=
 h.lp [5,0,1] []
def qnE:St:=
 { env:=envOf 26 [],boxes:=[] }
theorem quW(h:Oo [.b (decide (a<(A.length:Int))) false]):
 Tp (qaa Tryz.f29 0) (qet A C a) (.exit 0) qnE:=
 h.lp [] []
theorem quX(A C:LL)(q:Bool)(h:Oo [.b ((A.length:Int) != (C.length:Int)) false,.l [] [5,0,1] [] (qaa Tryz.f29 0) (qet A C 0) .ret (qnD q)]):
 Rt 29 [cS 1 A,cS 1 C] [cB q]:=
 h.of
theorem quY(h:Oo [.b ((A.length:Int) != (C.length:Int)) false,.l [] [5,0,1] [] (qaa Tryz.f29 0) (qet A C 0) (.exit 0) qnE]):
 Rt 29 [cS 1 A,cS 1 C] [cB true]:=
 h.of
theorem quZ(h:Oo [.b (a != b) true]):
 Rt 232 [.agg [I a,B q],.agg [I b,B r]] [cB false]:=
 h.of
theorem qu0(h:Oo [.b (a != b) false,.b (!q==r) true]):
 Rt 232 [.agg [I a,B q],.agg [I b,B r]] [cB false]:=
 h.of
theorem qu1(h:Oo [.b (a != b) false,.b (!q==r) false]):
 Rt 232 [.agg [I a,B q],.agg [I b,B r]] [cB true]:=
 h.of
theorem qu2(h:Oo [.b ((A.length:Int) != (C.length:Int)) true]):
 Rt 204 [cS 2 A,cS 2 C] [cB false]:=
 h.of
def qeu(A C:LL)(a:Int):St:=
 { env:=envOf 27 [(0,vF 2 A),(1,vF 2 C),(5,vI a)],boxes:=[] }
def qnF(q:Bool):St:=
 { env:=envOf 27 [(4,.al (.one (.sb q)))],boxes:=[] }
theorem qu3(h:Oo [.b (decide (a<(A.length:Int))) true,.p (0≤a),.p (a<(A.length:Int)),.e A a.toNat [I b,B q],.p (0≤a),.p (a<(C.length:Int)),.e C a.toNat [I c,B r],.r 232 [.agg [I b,B q],.agg [I c,B r]] [cB s],.n s true]):
 Tp (qaa Tryz.f204 0) (qeu A C a) .ret (qnF false):=
 h.lp [4] []
theorem qu4(h:Oo [.b (decide (a<(A.length:Int))) true,.p (0≤a),.p (a<(A.length:Int)),.e A a.toNat [I b,B q],.p (0≤a),.p (a<(C.length:Int)),.e C a.toNat [I c,B r],.r 232 [.agg [I b,B q],.agg [I c,B r]] [cB s],.n s false,.u a]):
 Tp (qaa Tryz.f204 0) (qeu A C a) .normal (qeu A C (a+1)):=
 h.lp [5,0,1] []
def qnG:St:=
 { env:=envOf 27 [],boxes:=[] }
theorem qu5(h:Oo [.b (decide (a<(A.length:Int))) false]):
 Tp (qaa Tryz.f204 0) (qeu A C a) (.exit 0) qnG:=
 h.lp [] []
theorem qu6(A C:LL)(q:Bool)(h:Oo [.b ((A.length:Int) != (C.length:Int)) false,.l [] [5,0,1] [] (qaa Tryz.f204 0) (qeu A C 0) .ret (qnF q)]):
 Rt 204 [cS 2 A,cS 2 C] [cB q]:=
 h.of
theorem qu7(h:Oo [.b ((A.length:Int) != (C.length:Int)) false,.l [] [5,0,1] [] (qaa Tryz.f204 0) (qeu A C 0) (.exit 0) qnG]):
 Rt 204 [cS 2 A,cS 2 C] [cB true]:=
 h.of
theorem qu8(h:Oo [.b (!q==r) true]):
 Rt 129 [.agg [B q,I a,I b,B s,B t],.agg [B r,I c,I d,B u,B v]] [cB false]:=
 h.of
theorem qu9(h:Oo [.b (!q==r) false,.b (a != b) true]):
 Rt 129 [.agg [B q,I a,I c,B s,B t],.agg [B r,I b,I d,B u,B v]] [cB false]:=
 h.of
theorem qva(h:Oo [.b (!q==r) false,.b (a != c) false,.b (b != d) true]):
 Rt 129 [.agg [B q,I a,I b,B s,B t],.agg [B r,I c,I d,B u,B v]] [cB false]:=
 h.of
theorem qvb(h:Oo [.b (!q==s) false,.b (a != c) false,.b (b != d) false,.b (!r==t) true]):
 Rt 129 [.agg [B q,I a,I b,B r,B u],.agg [B s,I c,I d,B t,B v]] [cB false]:=
 h.of
theorem qvc(h:Oo [.b (!q==t) false,.b (a != c) false,.b (b != d) false,.b (!r==u) false,.b (!s==v) true]):
 Rt 129 [.agg [B q,I a,I b,B r,B s],.agg [B t,I c,I d,B u,B v]] [cB false]:=
 h.of
theorem qvd(h:Oo [.b (!q==t) false,.b (a != c) false,.b (b != d) false,.b (!r==u) false,.b (!s==v) false]):
 Rt 129 [.agg [B q,I a,I b,B r,B s],.agg [B t,I c,I d,B u,B v]] [cB true]:=
 h.of
theorem qve(h:Oo [.b ((A.length:Int) != (C.length:Int)) true]):
 Rt 69 [cS 5 A,cS 5 C] [cB false]:=
 h.of
def qev(A C:LL)(a:Int):St:=
 { env:=envOf 27 [(0,vF 5 A),(1,vF 5 C),(5,vI a)],boxes:=[] }
def qnH(q:Bool):St:=
 { env:=envOf 27 [(4,.al (.one (.sb q)))],boxes:=[] }
theorem qvf(h:Oo [.b (decide (a<(A.length:Int))) true,.p (0≤a),.p (a<(A.length:Int)),.e A a.toNat [B t,I c,I d,B u,B v],.p (0≤a),.p (a<(C.length:Int)),.e C a.toNat [B w,I e,I b,B q,B r],.r 129 [.agg [B t,I c,I d,B u,B v],.agg [B w,I e,I b,B q,B r]] [cB s],.n s true]):
 Tp (qaa Tryz.f69 0) (qev A C a) .ret (qnH false):=
 h.lp [4] []
theorem qvg(h:Oo [.b (decide (a<(A.length:Int))) true,.p (0≤a),.p (a<(A.length:Int)),.e A a.toNat [B t,I c,I d,B u,B v],.p (0≤a),.p (a<(C.length:Int)),.e C a.toNat [B w,I e,I b,B q,B r],.r 129 [.agg [B t,I c,I d,B u,B v],.agg [B w,I e,I b,B q,B r]] [cB s],.n s false,.u a]):
 Tp (qaa Tryz.f69 0) (qev A C a) .normal (qev A C (a+1)):=
 h.lp [5,0,1] []
def qnI:St:=
 { env:=envOf 27 [],boxes:=[] }
theorem qvh(h:Oo [.b (decide (a<(A.length:Int))) false]):
 Tp (qaa Tryz.f69 0) (qev A C a) (.exit 0) qnI:=
 h.lp [] []
theorem qvi(A C:LL)(q:Bool)(h:Oo [.b ((A.length:Int) != (C.length:Int)) false,.l [] [5,0,1] [] (qaa Tryz.f69 0) (qev A C 0) .ret (qnH q)]):
 Rt 69 [cS 5 A,cS 5 C] [cB q]:=
 h.of
theorem qvj(h:Oo [.b ((A.length:Int) != (C.length:Int)) false,.l [] [5,0,1] [] (qaa Tryz.f69 0) (qev A C 0) (.exit 0) qnI]):
 Rt 69 [cS 5 A,cS 5 C] [cB true]:=
 h.of
theorem qvk(h:Oo [.b (a != b) true]):
 Rt 130 [.agg [I a,I c,B q],.agg [I b,I d,B r]] [cB false]:=
 h.of
theorem qvl(h:Oo [.b (a != c) false,.b (b != d) true]):
 Rt 130 [.agg [I a,I b,B q],.agg [I c,I d,B r]] [cB false]:=
 h.of
theorem qvm(h:Oo [.b (a != c) false,.b (b != d) false,.b (!q==r) true]):
 Rt 130 [.agg [I a,I b,B q],.agg [I c,I d,B r]] [cB false]:=
 h.of
theorem qvn(h:Oo [.b (a != c) false,.b (b != d) false,.b (!q==r) false]):
 Rt 130 [.agg [I a,I b,B q],.agg [I c,I d,B r]] [cB true]:=
 h.of
theorem qvo(h:Oo [.b ((A.length:Int) != (C.length:Int)) true]):
 Rt 70 [cS 3 A,cS 3 C] [cB false]:=
 h.of
def qew(A C:LL)(a:Int):St:=
 { env:=envOf 27 [(0,vF 3 A),(1,vF 3 C),(5,vI a)],boxes:=[] }
def qnJ(q:Bool):St:=
 { env:=envOf 27 [(4,.al (.one (.sb q)))],boxes:=[] }
theorem qvp(h:Oo [.b (decide (a<(A.length:Int))) true,.p (0≤a),.p (a<(A.length:Int)),.e A a.toNat [I b,I c,B q],.p (0≤a),.p (a<(C.length:Int)),.e C a.toNat [I d,I e,B r],.r 130 [.agg [I b,I c,B q],.agg [I d,I e,B r]] [cB s],.n s true]):
 Tp (qaa Tryz.f70 0) (qew A C a) .ret (qnJ false):=
 h.lp [4] []
theorem qvq(h:Oo [.b (decide (a<(A.length:Int))) true,.p (0≤a),.p (a<(A.length:Int)),.e A a.toNat [I b,I c,B q],.p (0≤a),.p (a<(C.length:Int)),.e C a.toNat [I d,I e,B r],.r 130 [.agg [I b,I c,B q],.agg [I d,I e,B r]] [cB s],.n s false,.u a]):
 Tp (qaa Tryz.f70 0) (qew A C a) .normal (qew A C (a+1)):=
 h.lp [5,0,1] []
def qnK:St:=
 { env:=envOf 27 [],boxes:=[] }
theorem qvr(h:Oo [.b (decide (a<(A.length:Int))) false]):
 Tp (qaa Tryz.f70 0) (qew A C a) (.exit 0) qnK:=
 h.lp [] []
theorem qvs(A C:LL)(q:Bool)(h:Oo [.b ((A.length:Int) != (C.length:Int)) false,.l [] [5,0,1] [] (qaa Tryz.f70 0) (qew A C 0) .ret (qnJ q)]):
 Rt 70 [cS 3 A,cS 3 C] [cB q]:=
 h.of
theorem qvt(h:Oo [.b ((A.length:Int) != (C.length:Int)) false,.l [] [5,0,1] [] (qaa Tryz.f70 0) (qew A C 0) (.exit 0) qnK]):
 Rt 70 [cS 3 A,cS 3 C] [cB true]:=
 h.of
theorem qvu(h:Oo [.b (a != b) true]):
 Rt 179 [.agg (nd a c d A),.agg (nd b e f C)] [cB false]:=
 h.of
theorem qvv(h:Oo [.b (a != c) false,.b (b != d) true]):
 Rt 179 [.agg (nd a b e A),.agg (nd c d f C)] [cB false]:=
 h.of
theorem qvw(h:Oo [.b (a != d) false,.b (b != e) false,.b (c != f) true]):
 Rt 179 [.agg (nd a b c A),.agg (nd d e f C)] [cB false]:=
 h.of
theorem qvx(h:Oo [.b (a != d) false,.b (b != e) false,.b (c != f) false,.r 203 [cS 1 A,cS 1 C] [cB q],.n q true]):
 Rt 179 [.agg (nd a b c A),.agg (nd d e f C)] [cB false]:=
 h.of
theorem qvy(h:Oo [.b (a != d) false,.b (b != e) false,.b (c != f) false,.r 203 [cS 1 A,cS 1 C] [cB q],.n q false]):
 Rt 179 [.agg (nd a b c A),.agg (nd d e f C)] [cB true]:=
 h.of
theorem qvz(h:Oo [.b ((A.length:Int) != (C.length:Int)) true]):
 Rt 107 [cS 4 A,cS 4 C] [cB false]:=
 h.of
def qex(A C:LL)(a:Int):St:=
 { env:=envOf 27 [(0,vF 4 A),(1,vF 4 C),(5,vI a)],boxes:=[] }
def qnL(q:Bool):St:=
 { env:=envOf 27 [(4,.al (.one (.sb q)))],boxes:=[] }
theorem qvA(h:Oo [.b (decide (a<(A.length:Int))) true,.p (0≤a),.p (a<(A.length:Int)),.e A a.toNat (nd b c d F),.p (0≤a),.p (a<(C.length:Int)),.e C a.toNat (nd e f g E),.r 179 [.agg (nd b c d F),.agg (nd e f g E)] [cB q],.n q true]):
 Tp (qaa Tryz.f107 0) (qex A C a) .ret (qnL false):=
 h.lp [4] []
theorem qvB(h:Oo [.b (decide (a<(A.length:Int))) true,.p (0≤a),.p (a<(A.length:Int)),.e A a.toNat (nd b c d F),.p (0≤a),.p (a<(C.length:Int)),.e C a.toNat (nd e f g E),.r 179 [.agg (nd b c d F),.agg (nd e f g E)] [cB q],.n q false,.u a]):
 Tp (qaa Tryz.f107 0) (qex A C a) .normal (qex A C (a+1)):=
 h.lp [5,0,1] []
def qnM:St:=
 { env:=envOf 27 [],boxes:=[] }
theorem qvC(h:Oo [.b (decide (a<(A.length:Int))) false]):
 Tp (qaa Tryz.f107 0) (qex A C a) (.exit 0) qnM:=
 h.lp [] []
theorem qvD(A C:LL)(q:Bool)(h:Oo [.b ((A.length:Int) != (C.length:Int)) false,.l [] [5,0,1] [] (qaa Tryz.f107 0) (qex A C 0) .ret (qnL q)]):
 Rt 107 [cS 4 A,cS 4 C] [cB q]:=
 h.of
theorem qvE(h:Oo [.b ((A.length:Int) != (C.length:Int)) false,.l [] [5,0,1] [] (qaa Tryz.f107 0) (qex A C 0) (.exit 0) qnM]):
 Rt 107 [cS 4 A,cS 4 C] [cB true]:=
 h.of
theorem qvF(h:Oo [.b (a != b) true]):
 Rt 128 [.agg (lk a A e f g i),.agg (lk b C j k c d)] [cB false]:=
 h.of
theorem qvG(h:Oo [.b (a != b) false,.r 46 [cS 5 A,cS 5 C] [cB q],.n q true]):
 Rt 128 [.agg (lk a A e f g i),.agg (lk b C j k c d)] [cB false]:=
 h.of
theorem qvH(h:Oo [.b (a != c) false,.r 46 [cS 5 A,cS 5 C] [cB q],.n q false,.b (b != d) true]):
 Rt 128 [.agg (lk a A b g i j),.agg (lk c C d k e f)] [cB false]:=
 h.of
theorem qvI(h:Oo [.b (a != d) false,.r 46 [cS 5 A,cS 5 C] [cB q],.n q false,.b (b != e) false,.b (c != f) true]):
 Rt 128 [.agg (lk a A b c j k),.agg (lk d C e f g i)] [cB false]:=
 h.of
theorem qvJ(h:Oo [.b (a != f) false,.r 46 [cS 5 A,cS 5 C] [cB q],.n q false,.b (c != g) false,.b (d != i) false,.b (e != b) true]):
 Rt 128 [.agg (lk a A c d e k),.agg (lk f C g i b j)] [cB false]:=
 h.of
theorem qvK(h:Oo [.b (a != i) false,.r 46 [cS 5 A,cS 5 C] [cB q],.n q false,.b (d != j) false,.b (e != k) false,.b (f != b) false,.b (g != c) true]):
 Rt 128 [.agg (lk a A d e f g),.agg (lk i C j k b c)] [cB false]:=
 h.of
theorem qvL(h:Oo [.b (a != i) false,.r 46 [cS 5 A,cS 5 C] [cB q],.n q false,.b (d != j) false,.b (e != k) false,.b (f != b) false,.b (g != c) false]):
 Rt 128 [.agg (lk a A d e f g),.agg (lk i C j k b c)] [cB true]:=
 h.of
theorem qvM(h:Oo [.b ((A.length:Int) != (C.length:Int)) true]):
 Rt 68 [cS 6 A,cS 6 C] [cB false]:=
 h.of
def qey(A C:LL)(a:Int):St:=
 { env:=envOf 27 [(0,vF 6 A),(1,vF 6 C),(5,vI a)],boxes:=[] }
def qnN(q:Bool):St:=
 { env:=envOf 27 [(4,.al (.one (.sb q)))],boxes:=[] }
theorem qvN(h:Oo [.b (decide (a<(A.length:Int))) true,.p (0≤a),.p (a<(A.length:Int)),.e A a.toNat (lk f F g i j k),.p (0≤a),.p (a<(C.length:Int)),.e C a.toNat (lk l E b c d e),.r 128 [.agg (lk f F g i j k),.agg (lk l E b c d e)] [cB q],.n q true]):
 Tp (qaa Tryz.f68 0) (qey A C a) .ret (qnN false):=
 h.lp [4] []
theorem qvO(h:Oo [.b (decide (a<(A.length:Int))) true,.p (0≤a),.p (a<(A.length:Int)),.e A a.toNat (lk f F g i j k),.p (0≤a),.p (a<(C.length:Int)),.e C a.toNat (lk l E b c d e),.r 128 [.agg (lk f F g i j k),.agg (lk l E b c d e)] [cB q],.n q false,.u a]):
 Tp (qaa Tryz.f68 0) (qey A C a) .normal (qey A C (a+1)):=
 h.lp [5,0,1] []
def qnO:St:=
 { env:=envOf 27 [],boxes:=[] }
theorem qvP(h:Oo [.b (decide (a<(A.length:Int))) false]):
 Tp (qaa Tryz.f68 0) (qey A C a) (.exit 0) qnO:=
 h.lp [] []
theorem qvQ(A C:LL)(q:Bool)(h:Oo [.b ((A.length:Int) != (C.length:Int)) false,.l [] [5,0,1] [] (qaa Tryz.f68 0) (qey A C 0) .ret (qnN q)]):
 Rt 68 [cS 6 A,cS 6 C] [cB q]:=
 h.of
theorem qvR(h:Oo [.b ((A.length:Int) != (C.length:Int)) false,.l [] [5,0,1] [] (qaa Tryz.f68 0) (qey A C 0) (.exit 0) qnO]):
 Rt 68 [cS 6 A,cS 6 C] [cB true]:=
 h.of
theorem qvS(h:Oo [.r 107 [cS 4 A,cS 4 C] [cB q],.n q true]):
 Rt 45 [.agg (gr A a b),.agg (gr C c d)] [cB false]:=
 h.of
theorem qvT(h:Oo [.r 107 [cS 4 A,cS 4 C] [cB q],.n q false,.b (a != b) true]):
 Rt 45 [.agg (gr A a c),.agg (gr C b d)] [cB false]:=
 h.of
theorem qvU(h:Oo [.r 107 [cS 4 A,cS 4 C] [cB q],.n q false,.b (a != c) false,.b (b != d) true]):
 Rt 45 [.agg (gr A a b),.agg (gr C c d)] [cB false]:=
 h.of
theorem qvV(h:Oo [.r 107 [cS 4 A,cS 4 C] [cB q],.n q false,.b (a != c) false,.b (b != d) false]):
 Rt 45 [.agg (gr A a b),.agg (gr C c d)] [cB true]:=
 h.of
theorem qvW(h:Oo [.r 46 [cS 5 A,cS 5 C] [cB q],.n q true]):
 Rt 127 [.agg (wk A E M N P Q R S),.agg (wk C U F G H J K L)] [cB false]:=
 h.of
theorem qvX(h:Oo [.r 46 [cS 5 A,cS 5 E] [cB q],.n q false,.r 46 [cS 5 C,cS 5 F] [cB r],.n r true]):
 Rt 127 [.agg (wk A C N P Q R S U),.agg (wk E F G H J K L M)] [cB false]:=
 h.of
theorem qvY(h:Oo [.r 46 [cS 5 A,cS 5 G] [cB q],.n q false,.r 46 [cS 5 C,cS 5 H] [cB r],.n r false,.r 46 [cS 5 F,cS 5 E] [cB s],.n s true]):
 Rt 127 [.agg (wk A C F P Q R S U),.agg (wk G H E J K L M N)] [cB false]:=
 h.of
theorem qvZ(h:Oo [.r 46 [cS 5 A,cS 5 J] [cB q],.n q false,.r 46 [cS 5 C,cS 5 K] [cB r],.n r false,.r 46 [cS 5 G,cS 5 E] [cB s],.n s false,.r 44 [cS 4 H,cS 4 F] [cB t],.n t true]):
 Rt 127 [.agg (wk A C G H Q R S U),.agg (wk J K E F L M N P)] [cB false]:=
 h.of
theorem qv0(h:Oo [.r 46 [cS 5 A,cS 5 L] [cB q],.n q false,.r 46 [cS 5 C,cS 5 M] [cB r],.n r false,.r 46 [cS 5 H,cS 5 E] [cB s],.n s false,.r 44 [cS 4 J,cS 4 F] [cB t],.n t false,.r 203 [cS 1 K,cS 1 G] [cB u],.n u true]):
 Rt 127 [.agg (wk A C H J K R S U),.agg (wk L M E F G N P Q)] [cB false]:=
 h.of
theorem qv1(h:Oo [.r 46 [cS 5 A,cS 5 N] [cB q],.n q false,.r 46 [cS 5 C,cS 5 P] [cB r],.n r false,.r 46 [cS 5 J,cS 5 E] [cB s],.n s false,.r 44 [cS 4 K,cS 4 F] [cB t],.n t false,.r 203 [cS 1 L,cS 1 G] [cB u],.n u false,.r 29 [cS 1 M,cS 1 H] [cB v],.n v true]):
 Rt 127 [.agg (wk A C J K L M S U),.agg (wk N P E F G H Q R)] [cB false]:=
 h.of
theorem qv2(h:Oo [.r 46 [cS 5 A,cS 5 Q] [cB q],.n q false,.r 46 [cS 5 C,cS 5 R] [cB r],.n r false,.r 46 [cS 5 K,cS 5 E] [cB s],.n s false,.r 44 [cS 4 L,cS 4 F] [cB t],.n t false,.r 203 [cS 1 M,cS 1 G] [cB u],.n u false,.r 29 [cS 1 N,cS 1 H] [cB v],.n v false,.r 29 [cS 1 P,cS 1 J] [cB w],.n w true]):
 Rt 127 [.agg (wk A C K L M N P U),.agg (wk Q R E F G H J S)] [cB false]:=
 h.of
theorem qv3(h:Oo [.r 46 [cS 5 A,cS 5 S] [cB q],.n q false,.r 46 [cS 5 C,cS 5 U] [cB r],.n r false,.r 46 [cS 5 L,cS 5 E] [cB s],.n s false,.r 44 [cS 4 M,cS 4 F] [cB t],.n t false,.r 203 [cS 1 N,cS 1 G] [cB u],.n u false,.r 29 [cS 1 P,cS 1 H] [cB v],.n v false,.r 29 [cS 1 Q,cS 1 J] [cB w],.n w false,.r 204 [cS 2 R,cS 2 K] [cB x],.n x true]):
 Rt 127 [.agg (wk A C L M N P Q R),.agg (wk S U E F G H J K)] [cB false]:=
 h.of
theorem qv4(h:Oo [.r 46 [cS 5 A,cS 5 S] [cB q],.n q false,.r 46 [cS 5 C,cS 5 U] [cB r],.n r false,.r 46 [cS 5 L,cS 5 E] [cB s],.n s false,.r 44 [cS 4 M,cS 4 F] [cB t],.n t false,.r 203 [cS 1 N,cS 1 G] [cB u],.n u false,.r 29 [cS 1 P,cS 1 H] [cB v],.n v false,.r 29 [cS 1 Q,cS 1 J] [cB w],.n w false,.r 204 [cS 2 R,cS 2 K] [cB x],.n x false]):
 Rt 127 [.agg (wk A C L M N P Q R),.agg (wk S U E F G H J K)] [cB true]:=
 h.of
theorem qv5(h:Oo [.b ((A.length:Int) != (C.length:Int)) true]):
 Rt 67 [cS 8 A,cS 8 C] [cB false]:=
 h.of
def qez(A C:LL)(a:Int):St:=
 { env:=envOf 27 [(0,vF 8 A),(1,vF 8 C),(5,vI a)],boxes:=[] }
def qnP(q:Bool):St:=
 { env:=envOf 27 [(4,.al (.one (.sb q)))],boxes:=[] }
theorem qv6(h:Oo [.b (decide (a<(A.length:Int))) true,.p (0≤a),.p (a<(A.length:Int)),.e A a.toNat (wk P Q R S U V W E),.p (0≤a),.p (a<(C.length:Int)),.e C a.toNat (wk F G H J K L M N),.r 127 [.agg (wk P Q R S U V W E),.agg (wk F G H J K L M N)] [cB q],.n q true]):
 Tp (qaa Tryz.f67 0) (qez A C a) .ret (qnP false):=
 h.lp [4] []
theorem qv7(h:Oo [.b (decide (a<(A.length:Int))) true,.p (0≤a),.p (a<(A.length:Int)),.e A a.toNat (wk P Q R S U V W E),.p (0≤a),.p (a<(C.length:Int)),.e C a.toNat (wk F G H J K L M N),.r 127 [.agg (wk P Q R S U V W E),.agg (wk F G H J K L M N)] [cB q],.n q false,.u a]):
 Tp (qaa Tryz.f67 0) (qez A C a) .normal (qez A C (a+1)):=
 h.lp [5,0,1] []
def qnQ:St:=
 { env:=envOf 27 [],boxes:=[] }
theorem qv8(h:Oo [.b (decide (a<(A.length:Int))) false]):
 Tp (qaa Tryz.f67 0) (qez A C a) (.exit 0) qnQ:=
 h.lp [] []
theorem qv9(A C:LL)(q:Bool)(h:Oo [.b ((A.length:Int) != (C.length:Int)) false,.l [] [5,0,1] [] (qaa Tryz.f67 0) (qez A C 0) .ret (qnP q)]):
 Rt 67 [cS 8 A,cS 8 C] [cB q]:=
 h.of
theorem qwa(h:Oo [.b ((A.length:Int) != (C.length:Int)) false,.l [] [5,0,1] [] (qaa Tryz.f67 0) (qez A C 0) (.exit 0) qnQ]):
 Rt 67 [cS 8 A,cS 8 C] [cB true]:=
 h.of
theorem qwb(h:Oo [.r 45 [.agg (gr A a b),.agg (gr C c d)] [cB q],.n q true]):
 Rt 15 [.agg (cl A a b J K L M),.agg (cl C c d E F G H)] [cB false]:=
 h.of
theorem qwc(h:Oo [.r 45 [.agg (gr A a b),.agg (gr F c d)] [cB q],.n q false,.r 67 [cS 8 E,cS 8 C] [cB r],.n r true]):
 Rt 15 [.agg (cl A a b E K L M),.agg (cl F c d C G H J)] [cB false]:=
 h.of
theorem qwd(h:Oo [.r 45 [.agg (gr A a b),.agg (gr H c d)] [cB q],.n q false,.r 67 [cS 8 F,cS 8 C] [cB r],.n r false,.r 68 [cS 6 G,cS 6 E] [cB s],.n s true]):
 Rt 15 [.agg (cl A a b F G L M),.agg (cl H c d C E J K)] [cB false]:=
 h.of
theorem qwe(h:Oo [.r 45 [.agg (gr A a b),.agg (gr K c d)] [cB q],.n q false,.r 67 [cS 8 G,cS 8 C] [cB r],.n r false,.r 68 [cS 6 H,cS 6 E] [cB s],.n s false,.r 69 [cS 5 J,cS 5 F] [cB t],.n t true]):
 Rt 15 [.agg (cl A a b G H J M),.agg (cl K c d C E F L)] [cB false]:=
 h.of
theorem qwf(h:Oo [.r 45 [.agg (gr A a b),.agg (gr M c d)] [cB q],.n q false,.r 67 [cS 8 H,cS 8 C] [cB r],.n r false,.r 68 [cS 6 J,cS 6 E] [cB s],.n s false,.r 69 [cS 5 K,cS 5 F] [cB t],.n t false,.r 70 [cS 3 L,cS 3 G] [cB u],.n u true]):
 Rt 15 [.agg (cl A a b H J K L),.agg (cl M c d C E F G)] [cB false]:=
 h.of
theorem qwg(h:Oo [.r 45 [.agg (gr A a b),.agg (gr M c d)] [cB q],.n q false,.r 67 [cS 8 H,cS 8 C] [cB r],.n r false,.r 68 [cS 6 J,cS 6 E] [cB s],.n s false,.r 69 [cS 5 K,cS 5 F] [cB t],.n t false,.r 70 [cS 3 L,cS 3 G] [cB u],.n u false]):
 Rt 15 [.agg (cl A a b H J K L),.agg (cl M c d C E F G)] [cB true]:=
 h.of
end Go.Proofs.YtdanpadojemjeaaGreat
