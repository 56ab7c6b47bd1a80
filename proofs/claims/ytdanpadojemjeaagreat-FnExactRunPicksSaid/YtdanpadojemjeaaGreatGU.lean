import Derived.Test.YtdanpadojemjeaaGreatRows
import Derived.Test.YtdanpadojemjeaaGreatGE
namespace Go.Proofs.YtdanpadojemjeaaGreat
open Go.Sx Go.RowKit
variable {a b c d e f g i j k l m n o p a0 b0 c0 d0 e0 f0 : Int} {A C E F G H J K L M N P Q R S U V W X Y : LL} {q r s t u v w x y z q0 r0 s0 t0 : Bool}
theorem qCS(h:Oo [.b (decide (a<1)) true]):
 Rt 212 [cI b,cI a] [cI 0]:=
 h.of
theorem qCT(h:Oo [.b (decide (a<1)) false,.p (a≠0),.b (decide (b.tmod a<0)) true,.v (b.tmod a+a)]):
 Rt 212 [cI b,cI a] [cI (b.tmod a+a)]:=
 h.of
theorem qCU(h:Oo [.b (decide (a<1)) false,.p (a≠0),.b (decide (b.tmod a<0)) false]):
 Rt 212 [cI b,cI a] [cI (b.tmod a)]:=
 h.of
theorem qCV(h:Oo [.b (decide (a<1)) true]):
 Rt 153 [cI b,cI a] [cI 0]:=
 h.of
theorem qCW(h:Oo [.b (decide (a<1)) false,.p (a≠0),.b (decide (b.tmod a<0)) true,.v (b.tmod a+a)]):
 Rt 153 [cI b,cI a] [cI (b.tmod a+a)]:=
 h.of
theorem qCX(h:Oo [.b (decide (a<1)) false,.p (a≠0),.b (decide (b.tmod a<0)) false]):
 Rt 153 [cI b,cI a] [cI (b.tmod a)]:=
 h.of
def qd0(A:LL)(a:Int):St:=
 { env:=envOf 21 [(0,vF 4 A),(3,vI a)],boxes:=[] }
def qlg(q:Bool):St:=
 { env:=envOf 21 [(2,.al (.one (.sb q)))],boxes:=[] }
theorem qCY(h:Oo [.b (decide (a<(A.length:Int))) true,.v (a-1),.p (0≤a-1),.p (a-1<(A.length:Int)),.e A ((a-1).toNat) [I c,I d,I e,I f],.p (0≤a),.p (a<(A.length:Int)),.e A a.toNat [I g,I i,I j,I k],.r 243 [.agg [I c,I d,I e,I f],.agg [I g,I i,I j,I k]] [cI b],.b (decide (b≥0)) true]):
 Tp (qaa Tryz.f227 0) (qd0 A a) .ret (qlg false):=
 h.lp [2] []
theorem qCZ(h:Oo [.b (decide (a<(A.length:Int))) true,.v (a-1),.p (0≤a-1),.p (a-1<(A.length:Int)),.e A ((a-1).toNat) [I c,I d,I e,I f],.p (0≤a),.p (a<(A.length:Int)),.e A a.toNat [I g,I i,I j,I k],.r 243 [.agg [I c,I d,I e,I f],.agg [I g,I i,I j,I k]] [cI b],.b (decide (b≥0)) false,.u a]):
 Tp (qaa Tryz.f227 0) (qd0 A a) .normal (qd0 A (a+1)):=
 h.lp [3,0] []
def qp7:St:=
 { env:=envOf 21 [],boxes:=[] }
theorem qC0(h:Oo [.b (decide (a<(A.length:Int))) false]):
 Tp (qaa Tryz.f227 0) (qd0 A a) (.exit 0) qp7:=
 h.lp [] []
theorem qC1(h:Oo [.l [] [3,0] [] (qaa Tryz.f227 0) (qd0 A 1) .ret (qlg q)]):
 Rt 227 [cS 4 A] [cB q]:=
 h.of
theorem qC2(h:Oo [.l [] [3,0] [] (qaa Tryz.f227 0) (qd0 A 1) (.exit 0) qp7]):
 Rt 227 [cS 4 A] [cB true]:=
 h.of
def qd1(A:LL)(a:Int):St:=
 { env:=envOf 21 [(0,vF 4 A),(3,vI a)],boxes:=[] }
def qlh(q:Bool):St:=
 { env:=envOf 21 [(2,.al (.one (.sb q)))],boxes:=[] }
theorem qC3(h:Oo [.b (decide (a<(A.length:Int))) true,.v (a-1),.p (0≤a-1),.p (a-1<(A.length:Int)),.e A ((a-1).toNat) [I c,I d,I e,I f],.p (0≤a),.p (a<(A.length:Int)),.e A a.toNat [I g,I i,I j,I k],.r 230 [.agg [I c,I d,I e,I f],.agg [I g,I i,I j,I k]] [cI b],.b (decide (b≥0)) true]):
 Tp (qaa Tryz.f198 0) (qd1 A a) .ret (qlh false):=
 h.lp [2] []
theorem qC4(h:Oo [.b (decide (a<(A.length:Int))) true,.v (a-1),.p (0≤a-1),.p (a-1<(A.length:Int)),.e A ((a-1).toNat) [I c,I d,I e,I f],.p (0≤a),.p (a<(A.length:Int)),.e A a.toNat [I g,I i,I j,I k],.r 230 [.agg [I c,I d,I e,I f],.agg [I g,I i,I j,I k]] [cI b],.b (decide (b≥0)) false,.u a]):
 Tp (qaa Tryz.f198 0) (qd1 A a) .normal (qd1 A (a+1)):=
 h.lp [3,0] []
def qp8:St:=
 { env:=envOf 21 [],boxes:=[] }
theorem qC5(h:Oo [.b (decide (a<(A.length:Int))) false]):
 Tp (qaa Tryz.f198 0) (qd1 A a) (.exit 0) qp8:=
 h.lp [] []
theorem qC6(h:Oo [.l [] [3,0] [] (qaa Tryz.f198 0) (qd1 A 1) .ret (qlh q)]):
 Rt 198 [cS 4 A] [cB q]:=
 h.of
theorem qC7(h:Oo [.l [] [3,0] [] (qaa Tryz.f198 0) (qd1 A 1) (.exit 0) qp8]):
 Rt 198 [cS 4 A] [cB true]:=
 h.of
def qd2(A:LL)(a b:Int)(C:LL)(c:Int):St:=
 { env:=envOf 29 [(1,vF 5 C),(2,vP 2),(5,vI c)],boxes:=[(2,[.sl .free 4 A,lI a,lI b])] }
def qiY(q:Bool):St:=
 { env:=envOf 29 [(4,.al (.one (.sb q)))],boxes:=[] }
theorem qC8(h:Oo [.b (decide (a<(A.length:Int))) true,.p (0≤a),.p (a<(A.length:Int)),.e A a.toNat (ri b c d e f),.r 164 [.agg (ri b c d e f)] [cB q],.n q true]):
 Tp (qaa Tryz.f189 0) (qd2 C g i A a) .ret (qiY false):=
 h.lp [4] []
theorem qC9(h:Oo [.b (decide (a<(A.length:Int))) true,.p (0≤a),.p (a<(A.length:Int)),.e A a.toNat (ri c d e f g),.r 164 [.agg (ri c d e f g)] [cB q],.n q false,.p (0≤a),.p (a<(A.length:Int)),.e A a.toNat (ri b j k l m),.b (decide (b≥(C.length:Int))) true]):
 Tp (qaa Tryz.f189 0) (qd2 C i n A a) .ret (qiY false):=
 h.lp [4] []
theorem qDa(h:Oo [.b (decide (a<(A.length:Int))) true,.p (0≤a),.p (a<(A.length:Int)),.e A a.toNat (ri e f g i j),.r 164 [.agg (ri e f g i j)] [cB q],.n q false,.p (0≤a),.p (a<(A.length:Int)),.e A a.toNat (ri c k l m n),.b (decide (c≥(C.length:Int))) false,.u a]):
 Tp (qaa Tryz.f189 0) (qd2 C b d A a) .normal (qd2 C b d A (a+1)):=
 h.lp [5,1,2] [2]
def qp9:St:=
 { env:=envOf 29 [],boxes:=[] }
theorem qDb(h:Oo [.b (decide (a<(A.length:Int))) false]):
 Tp (qaa Tryz.f189 0) (qd2 C b c A a) (.exit 0) qp9:=
 h.lp [] []
theorem qDc(h:Oo [.l [] [5,1,2] [2] (qaa Tryz.f189 0) (qd2 A a b C 0) .ret (qiY q)]):
 Rt 189 [.agg (gr A a b),cS 5 C] [cB q]:=
 h.of
theorem qDd(h:Oo [.l [] [5,1,2] [2] (qaa Tryz.f189 0) (qd2 A a b C 0) (.exit 0) qp9]):
 Rt 189 [.agg (gr A a b),cS 5 C] [cB true]:=
 h.of
def qd3(A:LL)(a:Int)(C:LL)(b c:Int):St:=
 { env:=envOf 24 [(2,vP 2),(7,vF 5 A),(8,vI (A.length:Int)),(9,vI a)],boxes:=[(2,[.sl .free 4 C,lI b,lI c])] }
def qiZ(q:Bool):St:=
 { env:=envOf 24 [(4,.al (.one (.sb q)))],boxes:=[] }
theorem qDe(h:Oo [.b (decide (a<(A.length:Int))) true,.p (0≤a),.p (a<(A.length:Int)),.e A a.toNat (ri e f b c d),.r 173 [.agg (ri e f b c d)] [cB q],.n q true]):
 Tp (qaa Tryz.f125 0) (qd3 A a C g i) .ret (qiZ false):=
 h.lp [4] []
theorem qDf(h:Oo [.b (decide (a<(A.length:Int))) true,.p (0≤a),.p (a<(A.length:Int)),.e A a.toNat (ri b i c d e),.r 173 [.agg (ri b i c d e)] [cB q],.n q false,.r 200 [.agg (gr C f g),cI b] [cB r],.n r true]):
 Tp (qaa Tryz.f125 0) (qd3 A a C f g) .ret (qiZ false):=
 h.lp [4] []
theorem qDg(h:Oo [.b (decide (a<(A.length:Int))) true,.p (0≤a),.p (a<(A.length:Int)),.e A a.toNat (ri d i e f g),.r 173 [.agg (ri d i e f g)] [cB q],.n q false,.r 200 [.agg (gr C b c),cI d] [cB r],.n r false,.u a]):
 Tp (qaa Tryz.f125 0) (qd3 A a C b c) .normal (qd3 A (a+1) C b c):=
 h.lp [9,8,7,2] [2]
def qqa:St:=
 { env:=envOf 24 [],boxes:=[] }
theorem qDh(h:Oo [.b (decide (a<(A.length:Int))) false]):
 Tp (qaa Tryz.f125 0) (qd3 A a C b c) (.exit 0) qqa:=
 h.lp [] []
theorem qDi(h:Oo [.l [] [9,8,7,2] [2] (qaa Tryz.f125 0) (qd3 C 0 A a b) .ret (qiZ q)]):
 Rt 125 [.agg (gr A a b),cS 5 C] [cB q]:=
 h.of
theorem qDj(h:Oo [.l [] [9,8,7,2] [2] (qaa Tryz.f125 0) (qd3 C 0 A a b) (.exit 0) qqa]):
 Rt 125 [.agg (gr A a b),cS 5 C] [cB true]:=
 h.of
theorem qDk(h:Oo [.r 189 [.agg (gr A a b),cS 5 C] [cB q],.n q true]):
 Rt 187 [.agg (gr A a b),.agg (wk C F G H J K L E)] [cB false]:=
 h.of
theorem qDl(h:Oo [.r 189 [.agg (gr A a b),cS 5 C] [cB q],.n q false,.r 189 [.agg (gr A a b),cS 5 E] [cB r],.n r true]):
 Rt 187 [.agg (gr A a b),.agg (wk C E G H J K L F)] [cB false]:=
 h.of
theorem qDm(h:Oo [.r 189 [.agg (gr A a b),cS 5 C] [cB q],.n q false,.r 189 [.agg (gr A a b),cS 5 E] [cB r],.n r false,.r 189 [.agg (gr A a b),cS 5 F] [cB s],.n s true]):
 Rt 187 [.agg (gr A a b),.agg (wk C E F H J K L G)] [cB false]:=
 h.of
theorem qDn(h:Oo [.r 189 [.agg (gr A a b),cS 5 C] [cB q],.n q false,.r 189 [.agg (gr A a b),cS 5 E] [cB r],.n r false,.r 189 [.agg (gr A a b),cS 5 F] [cB s],.n s false,.r 227 [cS 4 G] [cB t],.n t true]):
 Rt 187 [.agg (gr A a b),.agg (wk C E F G J K L H)] [cB false]:=
 h.of
theorem qDo(h:Oo [.r 189 [.agg (gr A a b),cS 5 C] [cB q],.n q false,.r 189 [.agg (gr A a b),cS 5 E] [cB r],.n r false,.r 189 [.agg (gr A a b),cS 5 F] [cB s],.n s false,.r 227 [cS 4 G] [cB t],.n t false,.b ((H.length:Int) != 4) true]):
 Rt 187 [.agg (gr A a b),.agg (wk C E F G H K L J)] [cB false]:=
 h.of
theorem qDp(h:Oo [.r 189 [.agg (gr A a b),cS 5 C] [cB q],.n q false,.r 189 [.agg (gr A a b),cS 5 E] [cB r],.n r false,.r 189 [.agg (gr A a b),cS 5 F] [cB s],.n s false,.r 227 [cS 4 G] [cB t],.n t false,.b ((H.length:Int) != 4) false,.b ((J.length:Int) != 4) true]):
 Rt 187 [.agg (gr A a b),.agg (wk C E F G H J L K)] [cB false]:=
 h.of
theorem qDq(h:Oo [.r 189 [.agg (gr A a b),cS 5 C] [cB q],.n q false,.r 189 [.agg (gr A a b),cS 5 E] [cB r],.n r false,.r 189 [.agg (gr A a b),cS 5 F] [cB s],.n s false,.r 227 [cS 4 G] [cB t],.n t false,.b ((H.length:Int) != 4) false,.b ((J.length:Int) != 4) false,.b ((K.length:Int) != 4) true]):
 Rt 187 [.agg (gr A a b),.agg (wk C E F G H J K L)] [cB false]:=
 h.of
def qb8(A C E F G H J K:LL)(a:Int):St:=
 { env:=envOf 147 [(3,vP 3),(5,vI 4),(6,vI a)],boxes:=[(3,[.sl .free 5 A,.sl .free 5 C,.sl .free 5 E,.sl .free 4 F,.sl .free 1 G,.sl .free 1 H,.sl .free 1 J,.sl .free 2 K])] }
def qhD(q:Bool):St:=
 { env:=envOf 147 [(4,.al (.one (.sb q)))],boxes:=[] }
theorem qDr(h:Oo [.b (decide (a<(A.length:Int))) true,.p (0≤a),.p (a<(A.length:Int)),.e A a.toNat (ri b c d e f),.b (b != 0) true]):
 Tp (qaa Tryz.f187 0) (qb8 E F A G H J K C a) .ret (qhD false):=
 h.lp [4] []
theorem qDs(h:Oo [.b (decide (a<(A.length:Int))) true,.p (0≤a),.p (a<(A.length:Int)),.e A a.toNat (ri b d e f g),.b (b != 0) false,.p (0≤a),.p (a<(A.length:Int)),.e A a.toNat (ri i j c k l),.b (c != 0) true]):
 Tp (qaa Tryz.f187 0) (qb8 E F A G H J K C a) .ret (qhD false):=
 h.lp [4] []
theorem qDt(h:Oo [.b (decide (a<(A.length:Int))) true,.p (0≤a),.p (a<(A.length:Int)),.e A a.toNat (ri b f g i j),.b (b != 0) false,.p (0≤a),.p (a<(A.length:Int)),.e A a.toNat (ri k l c m n),.b (c != 0) false,.b (decide (a>0)) true,.v (a-1),.p (0≤a-1),.p (a-1<(A.length:Int)),.e A ((a-1).toNat) (ri o d p a0 b0),.p (0≤a),.p (a<(A.length:Int)),.e A a.toNat (ri c0 e d0 e0 f0),.b (decide (d>e)) true]):
 Tp (qaa Tryz.f187 0) (qb8 E F A G H J K C a) .ret (qhD false):=
 h.lp [4] []
theorem qDu(h:Oo [.b (decide (a<(A.length:Int))) true,.p (0≤a),.p (a<(A.length:Int)),.e A a.toNat (ri b f g i j),.b (b != 0) false,.p (0≤a),.p (a<(A.length:Int)),.e A a.toNat (ri k l c m n),.b (c != 0) false,.b (decide (a>0)) true,.v (a-1),.p (0≤a-1),.p (a-1<(A.length:Int)),.e A ((a-1).toNat) (ri o d p a0 b0),.p (0≤a),.p (a<(A.length:Int)),.e A a.toNat (ri c0 e d0 e0 f0),.b (decide (d>e)) false,.u a]):
 Tp (qaa Tryz.f187 0) (qb8 E F A G H J K C a) .normal (qb8 E F A G H J K C (a+1)):=
 h.lp [6,3,5] [3]
theorem qDv(h:Oo [.b (decide (a<(A.length:Int))) true,.p (0≤a),.p (a<(A.length:Int)),.e A a.toNat (ri b d e f g),.b (b != 0) false,.p (0≤a),.p (a<(A.length:Int)),.e A a.toNat (ri i j c k l),.b (c != 0) false,.b (decide (a>0)) false,.u a]):
 Tp (qaa Tryz.f187 0) (qb8 E F A G H J K C a) .normal (qb8 E F A G H J K C (a+1)):=
 h.lp [6,3,5] [3]
def qhE(A C E F G H J K:LL):St:=
 { env:=envOf 147 [(3,vP 3),(5,vI 4)],boxes:=[(3,[.sl .free 5 A,.sl .free 5 C,.sl .free 5 E,.sl .free 4 F,.sl .free 1 G,.sl .free 1 H,.sl .free 1 J,.sl .free 2 K])] }
theorem qDw(h:Oo [.b (decide (a<(A.length:Int))) false]):
 Tp (qaa Tryz.f187 0) (qb8 E F A G H J K C a) (.exit 0) (qhE E F A G H J K C):=
 h.lp [5,3] [3]
theorem qDx(h:Oo [.r 189 [.agg (gr A a b),cS 5 C] [cB q],.n q false,.r 189 [.agg (gr A a b),cS 5 E] [cB r],.n r false,.r 189 [.agg (gr A a b),cS 5 F] [cB s],.n s false,.r 227 [cS 4 G] [cB t],.n t false,.b ((H.length:Int) != 4) false,.b ((J.length:Int) != 4) false,.b ((K.length:Int) != 4) false,.l [] [6,3,5] [3] (qaa Tryz.f187 0) (qb8 C E F G H J K L 0) .ret (qhD u)]):
 Rt 187 [.agg (gr A a b),.agg (wk C E F G H J K L)] [cB u]:=
 h.of
def qd4(A C E F G H J K:LL)(a:Int):St:=
 { env:=envOf 147 [(3,vP 3),(5,vI 4),(7,vI a)],boxes:=[(3,[.sl .free 5 A,.sl .free 5 C,.sl .free 5 E,.sl .free 4 F,.sl .free 1 G,.sl .free 1 H,.sl .free 1 J,.sl .free 2 K])] }
def qli(q:Bool):St:=
 { env:=envOf 147 [(4,.al (.one (.sb q)))],boxes:=[] }
theorem qDy(h:Oo [.b (decide (a<4)) true,.p (0≤a),.p (a<(A.length:Int)),.e A a.toNat [I b],.r 137 [cI b,cI (-1000000),cI 1000000] [cB q],.n q true]):
 Tp (qaa Tryz.f187 1) (qd4 E F G H A J K C a) .ret (qli false):=
 h.lp [4] []
theorem qDz(h:Oo [.b (decide (a<4)) true,.p (0≤a),.p (a<(A.length:Int)),.e A a.toNat [I b],.r 137 [cI b,cI (-1000000),cI 1000000] [cB q],.n q false,.u a]):
 Tp (qaa Tryz.f187 1) (qd4 E F G H A J K C a) .normal (qd4 E F G H A J K C (a+1)):=
 h.lp [7,5,3] [3]
def qlj(A C E F G H J K:LL):St:=
 { env:=envOf 147 [(3,vP 3)],boxes:=[(3,[.sl .free 5 A,.sl .free 5 C,.sl .free 5 E,.sl .free 4 F,.sl .free 1 G,.sl .free 1 H,.sl .free 1 J,.sl .free 2 K])] }
theorem qDA(h:Oo [.b (decide (a<4)) false]):
 Tp (qaa Tryz.f187 1) (qd4 C E F G H J K A a) (.exit 2) (qlj C E F G H J K A):=
 h.lp [3] [3]
theorem qDB(h:Oo [.r 189 [.agg (gr K a b),cS 5 A] [cB q],.n q false,.r 189 [.agg (gr K a b),cS 5 C] [cB r],.n r false,.r 189 [.agg (gr K a b),cS 5 E] [cB s],.n s false,.r 227 [cS 4 F] [cB t],.n t false,.b ((G.length:Int) != 4) false,.b ((H.length:Int) != 4) false,.b ((J.length:Int) != 4) false,.l [] [6,3,5] [3] (qaa Tryz.f187 0) (qb8 A C E F G H J L 0) (.exit 0) (qhE A C E F G H J L),.l [] [7,5,3] [3] (qaa Tryz.f187 1) (qd4 A C E F G H J L 0) .ret (qli u)]):
 Rt 187 [.agg (gr K a b),.agg (wk A C E F G H J L)] [cB u]:=
 h.of
def qdn(A C E F G H J K:LL)(a:Int):St:=
 { env:=envOf 147 [(3,vP 3),(8,vI a)],boxes:=[(3,[.sl .free 5 A,.sl .free 5 C,.sl .free 5 E,.sl .free 4 F,.sl .free 1 G,.sl .free 1 H,.sl .free 1 J,.sl .free 2 K])] }
def qi0(q:Bool):St:=
 { env:=envOf 147 [(4,.al (.one (.sb q)))],boxes:=[] }
theorem qDC(h:Oo [.b (decide (a<(A.length:Int))) true,.p (0≤a),.p (a<(A.length:Int)),.e A a.toNat [I b,B r],.r 137 [cI b,cI 0,cI 3] [cB q],.n q true]):
 Tp (qaa Tryz.f187 2) (qdn C E F G H J K A a) .ret (qi0 false):=
 h.lp [4] []
def qdE(A C E F G H J K:LL)(a b:Int):St:=
 { env:=envOf 147 [(3,vP 3),(8,vI a),(9,vI b)],boxes:=[(3,[.sl .free 5 A,.sl .free 5 C,.sl .free 5 E,.sl .free 4 F,.sl .free 1 G,.sl .free 1 H,.sl .free 1 J,.sl .free 2 K])] }
def qi1(q:Bool):St:=
 { env:=envOf 147 [(4,.al (.one (.sb q)))],boxes:=[] }
theorem qDD(h:Oo [.b (decide (b<a)) true,.p (0≤b),.p (b<(A.length:Int)),.e A b.toNat [I c,B q],.p (0≤a),.p (a<(A.length:Int)),.e A a.toNat [I d,B r],.b (c==d) true]):
 Tp (qaa Tryz.f187 3) (qdE C E F G H J K A a b) .ret (qi1 false):=
 h.lp [4] []
theorem qDE(h:Oo [.b (decide (a<b)) true,.p (0≤a),.p (a<(A.length:Int)),.e A a.toNat [I c,B q],.p (0≤b),.p (b<(A.length:Int)),.e A b.toNat [I d,B r],.b (c==d) false,.u a]):
 Tp (qaa Tryz.f187 3) (qdE C E F G H J K A b a) .normal (qdE C E F G H J K A b (a+1)):=
 h.lp [9,8,3] [3]
def qlk(A C E F G H J K:LL)(a:Int):St:=
 { env:=envOf 147 [(3,vP 3),(8,vI a)],boxes:=[(3,[.sl .free 5 A,.sl .free 5 C,.sl .free 5 E,.sl .free 4 F,.sl .free 1 G,.sl .free 1 H,.sl .free 1 J,.sl .free 2 K])] }
theorem qDF(h:Oo [.b (decide (b<a)) false]):
 Tp (qaa Tryz.f187 3) (qdE C E F G H J K A a b) (.exit 6) (qlk C E F G H J K A a):=
 h.lp [8,3] [3]
theorem qDG(h:Oo [.b (decide (a<(A.length:Int))) true,.p (0≤a),.p (a<(A.length:Int)),.e A a.toNat [I b,B s],.r 137 [cI b,cI 0,cI 3] [cB q],.n q false,.l [] [9,8,3] [3] (qaa Tryz.f187 3) (qdE C E F G H J K A a 0) .ret (qi1 r)]):
 Tp (qaa Tryz.f187 2) (qdn C E F G H J K A a) .ret (qi0 r):=
 h.lp [4] []
theorem qDH(h:Oo [.b (decide (a<(A.length:Int))) true,.p (0≤a),.p (a<(A.length:Int)),.e A a.toNat [I b,B r],.r 137 [cI b,cI 0,cI 3] [cB q],.n q false,.l [] [9,8,3] [3] (qaa Tryz.f187 3) (qdE C E F G H J K A a 0) (.exit 6) (qlk C E F G H J K A a),.u a]):
 Tp (qaa Tryz.f187 2) (qdn C E F G H J K A a) .normal (qdn C E F G H J K A (a+1)):=
 h.lp [8,3] [3]
def qll:St:=
 { env:=envOf 147 [],boxes:=[] }
theorem qDI(h:Oo [.b (decide (a<(A.length:Int))) false]):
 Tp (qaa Tryz.f187 2) (qdn C E F G H J K A a) (.exit 4) qll:=
 h.lp [] []
theorem qDJ(h:Oo [.r 189 [.agg (gr L a b),cS 5 A] [cB q],.n q false,.r 189 [.agg (gr L a b),cS 5 C] [cB r],.n r false,.r 189 [.agg (gr L a b),cS 5 E] [cB s],.n s false,.r 227 [cS 4 F] [cB t],.n t false,.b ((G.length:Int) != 4) false,.b ((H.length:Int) != 4) false,.b ((J.length:Int) != 4) false,.l [] [6,3,5] [3] (qaa Tryz.f187 0) (qb8 A C E F G H J K 0) (.exit 0) (qhE A C E F G H J K),.l [] [7,5,3] [3] (qaa Tryz.f187 1) (qd4 A C E F G H J K 0) (.exit 2) (qlj A C E F G H J K),.l [] [8,3] [3] (qaa Tryz.f187 2) (qdn A C E F G H J K 0) .ret (qi0 u)]):
 Rt 187 [.agg (gr L a b),.agg (wk A C E F G H J K)] [cB u]:=
 h.of
theorem qDK(h:Oo [.r 189 [.agg (gr L a b),cS 5 A] [cB q],.n q false,.r 189 [.agg (gr L a b),cS 5 C] [cB r],.n r false,.r 189 [.agg (gr L a b),cS 5 E] [cB s],.n s false,.r 227 [cS 4 F] [cB t],.n t false,.b ((G.length:Int) != 4) false,.b ((H.length:Int) != 4) false,.b ((J.length:Int) != 4) false,.l [] [6,3,5] [3] (qaa Tryz.f187 0) (qb8 A C E F G H J K 0) (.exit 0) (qhE A C E F G H J K),.l [] [7,5,3] [3] (qaa Tryz.f187 1) (qd4 A C E F G H J K 0) (.exit 2) (qlj A C E F G H J K),.l [] [8,3] [3] (qaa Tryz.f187 2) (qdn A C E F G H J K 0) (.exit 4) qll]):
 Rt 187 [.agg (gr L a b),.agg (wk A C E F G H J K)] [cB true]:=
 h.of
theorem qDL(h:Oo [.r 125 [.agg (gr A a b),cS 5 C] [cB q],.n q true]):
 Rt 123 [.agg (gr A a b),.agg (wk C F G H J K L E)] [cB false]:=
 h.of
theorem qDM(h:Oo [.r 125 [.agg (gr A a b),cS 5 C] [cB q],.n q false,.r 125 [.agg (gr A a b),cS 5 E] [cB r],.n r true]):
 Rt 123 [.agg (gr A a b),.agg (wk C E G H J K L F)] [cB false]:=
 h.of
theorem qDN(h:Oo [.r 125 [.agg (gr A a b),cS 5 C] [cB q],.n q false,.r 125 [.agg (gr A a b),cS 5 E] [cB r],.n r false,.r 125 [.agg (gr A a b),cS 5 F] [cB s],.n s true]):
 Rt 123 [.agg (gr A a b),.agg (wk C E F H J K L G)] [cB false]:=
 h.of
theorem qDO(h:Oo [.r 125 [.agg (gr A a b),cS 5 C] [cB q],.n q false,.r 125 [.agg (gr A a b),cS 5 E] [cB r],.n r false,.r 125 [.agg (gr A a b),cS 5 F] [cB s],.n s false,.r 198 [cS 4 G] [cB t],.n t true]):
 Rt 123 [.agg (gr A a b),.agg (wk C E F G J K L H)] [cB false]:=
 h.of
def qbJ(A:LL)(a:Int)(C E F G H J K L:LL):St:=
 { env:=envOf 121 [(3,vP 3),(37,vF 5 A),(38,vI (A.length:Int)),(39,vI a)],boxes:=[(3,[.sl .free 5 C,.sl .free 5 E,.sl .free 5 F,.sl .free 4 G,.sl .free 1 H,.sl .free 1 J,.sl .free 1 K,.sl .free 2 L])] }
def qhF(q:Bool):St:=
 { env:=envOf 121 [(4,.al (.one (.sb q)))],boxes:=[] }
theorem qDP(h:Oo [.b (decide (a<(A.length:Int))) true,.p (0≤a),.p (a<(A.length:Int)),.e A a.toNat (ri b c d e f),.b (b != 0) true]):
 Tp (qaa Tryz.f123 0) (qbJ A a C E F G H J K L) .ret (qhF false):=
 h.lp [4] []
theorem qDQ(h:Oo [.b (decide (a<(A.length:Int))) true,.p (0≤a),.p (a<(A.length:Int)),.e A a.toNat (ri b d c e f),.b (b != 0) false,.b (c != 0) true]):
 Tp (qaa Tryz.f123 0) (qbJ A a C E F G H J K L) .ret (qhF false):=
 h.lp [4] []
theorem qDR(h:Oo [.b (decide (a<(A.length:Int))) true,.p (0≤a),.p (a<(A.length:Int)),.e A a.toNat (ri b c d f g),.b (b != 0) false,.b (d != 0) false,.b (decide (a>0)) true,.v (a-1),.p (0≤a-1),.p (a-1<(C.length:Int)),.e C ((a-1).toNat) (ri i e j k l),.b (decide (e>c)) true]):
 Tp (qaa Tryz.f123 0) (qbJ A a E F C G H J K L) .ret (qhF false):=
 h.lp [4] []
theorem qDS(h:Oo [.b (decide (a<(A.length:Int))) true,.p (0≤a),.p (a<(A.length:Int)),.e A a.toNat (ri b c d f g),.b (b != 0) false,.b (d != 0) false,.b (decide (a>0)) true,.v (a-1),.p (0≤a-1),.p (a-1<(C.length:Int)),.e C ((a-1).toNat) (ri i e j k l),.b (decide (e>c)) false,.u a]):
 Tp (qaa Tryz.f123 0) (qbJ A a E F C G H J K L) .normal (qbJ A (a+1) E F C G H J K L):=
 h.lp [39,38,37,3] [3]
theorem qDT(h:Oo [.b (decide (a<(A.length:Int))) true,.p (0≤a),.p (a<(A.length:Int)),.e A a.toNat (ri b d c e f),.b (b != 0) false,.b (c != 0) false,.b (decide (a>0)) false,.u a]):
 Tp (qaa Tryz.f123 0) (qbJ A a C E F G H J K L) .normal (qbJ A (a+1) C E F G H J K L):=
 h.lp [39,38,37,3] [3]
def qd5(A C E F G H J K:LL):St:=
 { env:=envOf 121 [(3,vP 3)],boxes:=[(3,[.sl .free 5 A,.sl .free 5 C,.sl .free 5 E,.sl .free 4 F,.sl .free 1 G,.sl .free 1 H,.sl .free 1 J,.sl .free 2 K])] }
theorem qDU(h:Oo [.b (decide (a<(L.length:Int))) false]):
 Tp (qaa Tryz.f123 0) (qbJ L a A C E F G H J K) (.exit 0) (qd5 A C E F G H J K):=
 h.lp [3] [3]
theorem qDV(h:Oo [.r 125 [.agg (gr A a b),cS 5 E] [cB q],.n q false,.r 125 [.agg (gr A a b),cS 5 F] [cB r],.n r false,.r 125 [.agg (gr A a b),cS 5 C] [cB s],.n s false,.r 198 [cS 4 G] [cB t],.n t false,.l [] [39,38,37,3] [3] (qaa Tryz.f123 0) (qbJ C 0 E F C G J K L H) .ret (qhF u)]):
 Rt 123 [.agg (gr A a b),.agg (wk E F C G J K L H)] [cB u]:=
 h.of
theorem qDW(h:Oo [.r 125 [.agg (gr A a b),cS 5 E] [cB q],.n q false,.r 125 [.agg (gr A a b),cS 5 F] [cB r],.n r false,.r 125 [.agg (gr A a b),cS 5 C] [cB s],.n s false,.r 198 [cS 4 G] [cB t],.n t false,.l [] [39,38,37,3] [3] (qaa Tryz.f123 0) (qbJ C 0 E F C G K L M H) (.exit 0) (qd5 N P Q R J S U V),.b ((J.length:Int) != 4) true]):
 Rt 123 [.agg (gr A a b),.agg (wk E F C G K L M H)] [cB false]:=
 h.of
theorem qDX(h:Oo [.r 125 [.agg (gr A a b),cS 5 E] [cB q],.n q false,.r 125 [.agg (gr A a b),cS 5 F] [cB r],.n r false,.r 125 [.agg (gr A a b),cS 5 C] [cB s],.n s false,.r 198 [cS 4 G] [cB t],.n t false,.l [] [39,38,37,3] [3] (qaa Tryz.f123 0) (qbJ C 0 E F C G L M N H) (.exit 0) (qd5 P Q R S J K U V),.b ((J.length:Int) != 4) false,.b ((K.length:Int) != 4) true]):
 Rt 123 [.agg (gr A a b),.agg (wk E F C G L M N H)] [cB false]:=
 h.of
theorem qDY(h:Oo [.r 125 [.agg (gr A a b),cS 5 E] [cB q],.n q false,.r 125 [.agg (gr A a b),cS 5 F] [cB r],.n r false,.r 125 [.agg (gr A a b),cS 5 C] [cB s],.n s false,.r 198 [cS 4 G] [cB t],.n t false,.l [] [39,38,37,3] [3] (qaa Tryz.f123 0) (qbJ C 0 E F C G M N P H) (.exit 0) (qd5 Q R S U J K L V),.b ((J.length:Int) != 4) false,.b ((K.length:Int) != 4) false,.b ((L.length:Int) != 4) true]):
 Rt 123 [.agg (gr A a b),.agg (wk E F C G M N P H)] [cB false]:=
 h.of
def qd6(C E F G A H J K:LL)(a:Int):St:=
 { env:=envOf 121 [(3,vP 3),(89,vF 1 A),(90,vI (A.length:Int)),(91,vI a)],boxes:=[(3,[.sl .free 5 C,.sl .free 5 E,.sl .free 5 F,.sl .free 4 G,.sl .free 1 A,.sl .free 1 H,.sl .free 1 J,.sl .free 2 K])] }
def qlm(q:Bool):St:=
 { env:=envOf 121 [(4,.al (.one (.sb q)))],boxes:=[] }
theorem qDZ(h:Oo [.b (decide (a<(A.length:Int))) true,.p (0≤a),.p (a<(A.length:Int)),.e A a.toNat [I b],.r 81 [cI b,cI (-1000000),cI 1000000] [cB q],.n q true]):
 Tp (qaa Tryz.f123 1) (qd6 C E F G A H J K a) .ret (qlm false):=
 h.lp [4] []
theorem qD0(h:Oo [.b (decide (a<(A.length:Int))) true,.p (0≤a),.p (a<(A.length:Int)),.e A a.toNat [I b],.r 81 [cI b,cI (-1000000),cI 1000000] [cB q],.n q false,.u a]):
 Tp (qaa Tryz.f123 1) (qd6 C E F G A H J K a) .normal (qd6 C E F G A H J K (a+1)):=
 h.lp [91,90,89,3] [3]
def qln(A C E F G H J K:LL):St:=
 { env:=envOf 121 [(3,vP 3)],boxes:=[(3,[.sl .free 5 A,.sl .free 5 C,.sl .free 5 E,.sl .free 4 F,.sl .free 1 G,.sl .free 1 H,.sl .free 1 J,.sl .free 2 K])] }
theorem qD1(h:Oo [.b (decide (a<(A.length:Int))) false]):
 Tp (qaa Tryz.f123 1) (qd6 C E F G A H J K a) (.exit 2) (qln C E F G A H J K):=
 h.lp [3] [3]
theorem qD2(h:Oo [.r 125 [.agg (gr A a b),cS 5 H] [cB q],.n q false,.r 125 [.agg (gr A a b),cS 5 J] [cB r],.n r false,.r 125 [.agg (gr A a b),cS 5 C] [cB s],.n s false,.r 198 [cS 4 K] [cB t],.n t false,.l [] [39,38,37,3] [3] (qaa Tryz.f123 0) (qbJ C 0 H J C K S U V L) (.exit 0) (qd5 M N P Q E F G R),.b ((E.length:Int) != 4) false,.b ((F.length:Int) != 4) false,.b ((G.length:Int) != 4) false,.l [] [91,90,89,3] [3] (qaa Tryz.f123 1) (qd6 M N P Q E F G R 0) .ret (qlm u)]):
 Rt 123 [.agg (gr A a b),.agg (wk H J C K S U V L)] [cB u]:=
 h.of
def qdo(A:LL)(a:Int)(C E F G H J K L:LL):St:=
 { env:=envOf 121 [(3,vP 3),(100,vF 2 A),(101,vI (A.length:Int)),(102,vI a)],boxes:=[(3,[.sl .free 5 C,.sl .free 5 E,.sl .free 5 F,.sl .free 4 G,.sl .free 1 H,.sl .free 1 J,.sl .free 1 K,.sl .free 2 L])] }
def qi2(q:Bool):St:=
 { env:=envOf 121 [(4,.al (.one (.sb q)))],boxes:=[] }
theorem qD3(h:Oo [.b (decide (a<(A.length:Int))) true,.p (0≤a),.p (a<(A.length:Int)),.e A a.toNat [I b,B r],.r 81 [cI b,cI 0,cI 3] [cB q],.n q true]):
 Tp (qaa Tryz.f123 2) (qdo A a C E F G H J K L) .ret (qi2 false):=
 h.lp [4] []
theorem qD4(h:Oo [.b (decide (a<(C.length:Int))) true,.p (0≤a),.p (a<(C.length:Int)),.e C a.toNat [I b,B s],.r 81 [cI b,cI 0,cI 3] [cB q],.n q false,.p ((0:Int)≤none.getD 0),.p (none.getD 0≤(some a).getD (A.length:Int)),.p ((some a).getD (A.length:Int)≤(A.length:Int)),.r 126 [.one (.sl 2 (List.take (((some a).getD (A.length:Int)).toNat-0) (List.drop 0 A))),cI b] [cB r],.b r true]):
 Tp (qaa Tryz.f123 2) (qdo C a E F G H J K L A) .ret (qi2 false):=
 h.lp [4] []
theorem qD5(h:Oo [.b (decide (a<(C.length:Int))) true,.p (0≤a),.p (a<(C.length:Int)),.e C a.toNat [I b,B s],.r 81 [cI b,cI 0,cI 3] [cB q],.n q false,.p ((0:Int)≤none.getD 0),.p (none.getD 0≤(some a).getD (A.length:Int)),.p ((some a).getD (A.length:Int)≤(A.length:Int)),.r 126 [.one (.sl 2 (List.take (((some a).getD (A.length:Int)).toNat-0) (List.drop 0 A))),cI b] [cB r],.b r false,.u a]):
 Tp (qaa Tryz.f123 2) (qdo C a E F G H J K L A) .normal (qdo C (a+1) E F G H J K L A):=
 h.lp [102,101,100,3] [3]
def qlo:St:=
 { env:=envOf 121 [],boxes:=[] }
theorem qD6(h:Oo [.b (decide (a<(A.length:Int))) false]):
 Tp (qaa Tryz.f123 2) (qdo A a C E F G H J K L) (.exit 4) qlo:=
 h.lp [] []
theorem qD7(h:Oo [.r 125 [.agg (gr G a b),cS 5 N] [cB q],.n q false,.r 125 [.agg (gr G a b),cS 5 P] [cB r],.n r false,.r 125 [.agg (gr G a b),cS 5 M] [cB s],.n s false,.r 198 [cS 4 Q] [cB t],.n t false,.l [] [39,38,37,3] [3] (qaa Tryz.f123 0) (qbJ M 0 N P M Q S U V R) (.exit 0) (qd5 H J K L A C E F),.b ((A.length:Int) != 4) false,.b ((C.length:Int) != 4) false,.b ((E.length:Int) != 4) false,.l [] [91,90,89,3] [3] (qaa Tryz.f123 1) (qd6 H J K L A C E F 0) (.exit 2) (qln H J K L A C E F),.l [] [102,101,100,3] [3] (qaa Tryz.f123 2) (qdo F 0 H J K L A C E F) .ret (qi2 u)]):
 Rt 123 [.agg (gr G a b),.agg (wk N P M Q S U V R)] [cB u]:=
 h.of
theorem qD8(h:Oo [.r 125 [.agg (gr G a b),cS 5 N] [cB q],.n q false,.r 125 [.agg (gr G a b),cS 5 P] [cB r],.n r false,.r 125 [.agg (gr G a b),cS 5 M] [cB s],.n s false,.r 198 [cS 4 Q] [cB t],.n t false,.l [] [39,38,37,3] [3] (qaa Tryz.f123 0) (qbJ M 0 N P M Q S U V R) (.exit 0) (qd5 H J K L A C E F),.b ((A.length:Int) != 4) false,.b ((C.length:Int) != 4) false,.b ((E.length:Int) != 4) false,.l [] [91,90,89,3] [3] (qaa Tryz.f123 1) (qd6 H J K L A C E F 0) (.exit 2) (qln H J K L A C E F),.l [] [102,101,100,3] [3] (qaa Tryz.f123 2) (qdo F 0 H J K L A C E F) (.exit 4) qlo]):
 Rt 123 [.agg (gr G a b),.agg (wk N P M Q S U V R)] [cB true]:=
 h.of
def qcv(a:Int)(A:LL)(b c d e f:Int):St:=
 { env:=envOf 70 [(1,vP 1),(3,vI f)],boxes:=[(1,[lI a,.sl .free 5 A,lI b,lI c,lI d,lI e])] }
def qlp(q:Bool):St:=
 { env:=envOf 70 [(2,.al (.one (.sb q)))],boxes:=[] }
theorem qD9(h:Oo [.b (decide (a<(A.length:Int))) true,.p (0≤a),.p (a<(A.length:Int)),.e A a.toNat (ri d e f b c),.r 164 [.agg (ri d e f b c)] [cB q],.n q true]):
 Tp (qaa Tryz.f188 0) (qcv g A i j k l a) .ret (qlp false):=
 h.lp [2] []
theorem qEa(h:Oo [.b (decide (a<(A.length:Int))) true,.p (0≤a),.p (a<(A.length:Int)),.e A a.toNat (ri j k l c d),.r 164 [.agg (ri j k l c d)] [cB q],.n q false,.u a]):
 Tp (qaa Tryz.f188 0) (qcv b A e f g i a) .normal (qcv b A e f g i (a+1)):=
 h.lp [3,1] [1]
def qd7(a:Int)(A:LL)(b c d e:Int):St:=
 { env:=envOf 70 [(1,vP 1)],boxes:=[(1,[lI a,.sl .free 5 A,lI b,lI c,lI d,lI e])] }
theorem qEb(h:Oo [.b (decide (f<(A.length:Int))) false]):
 Tp (qaa Tryz.f188 0) (qcv a A b c d e f) (.exit 0) (qd7 a A b c d e):=
 h.lp [1] [1]
theorem qEc(h:Oo [.l [] [3,1] [1] (qaa Tryz.f188 0) (qcv a A b c d e 0) .ret (qlp q)]):
 Rt 188 [.agg (lk a A b c d e)] [cB q]:=
 h.of
theorem qEd(h:Oo [.l [] [3,1] [1] (qaa Tryz.f188 0) (qcv a A b c d e 0) (.exit 0) (qd7 a A b c d e),.r 137 [cI a,cI 1,cI 4] [cB q],.b q true,.r 137 [cI b,cI 0,cI a] [cB r],.b r true,.r 137 [cI c,cI 0,cI a] [cB s],.b s true,.v (b+c),.v (b+c+(A.length:Int)),.b (b+c+(A.length:Int)==a) true,.r 137 [cI d,cI 0,cI 1000000000] [cB t],.b t true,.v (d-(A.length:Int)),.b (e==d-(A.length:Int)) true]):
 Rt 188 [.agg (lk a A b c d e)] [cB (decide (e≥0))]:=
 h.of
theorem qEe(h:Oo [.l [] [3,1] [1] (qaa Tryz.f188 0) (qcv a A b c d e 0) (.exit 0) (qd7 a A b c d e),.r 137 [cI a,cI 1,cI 4] [cB q],.b q true,.r 137 [cI b,cI 0,cI a] [cB r],.b r true,.r 137 [cI c,cI 0,cI a] [cB s],.b s true,.v (b+c),.v (b+c+(A.length:Int)),.b (b+c+(A.length:Int)==a) true,.r 137 [cI d,cI 0,cI 1000000000] [cB t],.b t true,.v (d-(A.length:Int)),.b (e==d-(A.length:Int)) false]):
 Rt 188 [.agg (lk a A b c d e)] [cB false]:=
 h.of
theorem qEf(h:Oo [.l [] [3,1] [1] (qaa Tryz.f188 0) (qcv a A b c d e 0) (.exit 0) (qd7 a A b c d e),.r 137 [cI a,cI 1,cI 4] [cB q],.b q true,.r 137 [cI b,cI 0,cI a] [cB r],.b r true,.r 137 [cI c,cI 0,cI a] [cB s],.b s true,.v (b+c),.v (b+c+(A.length:Int)),.b (b+c+(A.length:Int)==a) true,.r 137 [cI d,cI 0,cI 1000000000] [cB t],.b t false]):
 Rt 188 [.agg (lk a A b c d e)] [cB false]:=
 h.of
theorem qEg(h:Oo [.l [] [3,1] [1] (qaa Tryz.f188 0) (qcv a A b c d e 0) (.exit 0) (qd7 a A b c d e),.r 137 [cI a,cI 1,cI 4] [cB q],.b q true,.r 137 [cI b,cI 0,cI a] [cB r],.b r true,.r 137 [cI c,cI 0,cI a] [cB s],.b s true,.v (b+c),.v (b+c+(A.length:Int)),.b (b+c+(A.length:Int)==a) false]):
 Rt 188 [.agg (lk a A b c d e)] [cB false]:=
 h.of
theorem qEh(h:Oo [.l [] [3,1] [1] (qaa Tryz.f188 0) (qcv a A b c d e 0) (.exit 0) (qd7 a A b c d e),.r 137 [cI a,cI 1,cI 4] [cB q],.b q true,.r 137 [cI b,cI 0,cI a] [cB r],.b r true,.r 137 [cI c,cI 0,cI a] [cB s],.b s false]):
 Rt 188 [.agg (lk a A b c d e)] [cB false]:=
 h.of
theorem qEi(h:Oo [.l [] [3,1] [1] (qaa Tryz.f188 0) (qcv a A b c d e 0) (.exit 0) (qd7 a A b c d e),.r 137 [cI a,cI 1,cI 4] [cB q],.b q true,.r 137 [cI b,cI 0,cI a] [cB r],.b r false]):
 Rt 188 [.agg (lk a A b c d e)] [cB false]:=
 h.of
theorem qEj(h:Oo [.l [] [3,1] [1] (qaa Tryz.f188 0) (qcv a A b c d e 0) (.exit 0) (qd7 a A b c d e),.r 137 [cI a,cI 1,cI 4] [cB q],.b q false]):
 Rt 188 [.agg (lk a A b c d e)] [cB false]:=
 h.of
theorem qEk(h:Oo [.r 81 [cI a,cI 1,cI 4] [cB q],.n q true]):
 Rt 124 [.agg (lk a A b c d e)] [cB false]:=
 h.of
theorem qEl(h:Oo [.r 81 [cI a,cI 1,cI 4] [cB q],.n q false,.r 81 [cI b,cI 0,cI a] [cB r],.n r true]):
 Rt 124 [.agg (lk a A b c d e)] [cB false]:=
 h.of
theorem qEm(h:Oo [.r 81 [cI a,cI 1,cI 4] [cB q],.n q false,.r 81 [cI b,cI 0,cI a] [cB r],.n r false,.r 81 [cI c,cI 0,cI a] [cB s],.n s true]):
 Rt 124 [.agg (lk a A b c d e)] [cB false]:=
 h.of
theorem qEn(h:Oo [.r 81 [cI a,cI 1,cI 4] [cB q],.n q false,.r 81 [cI b,cI 0,cI a] [cB r],.n r false,.r 81 [cI c,cI 0,cI a] [cB s],.n s false,.v (b+c),.v (b+c+(A.length:Int)),.b (b+c+(A.length:Int) != a) true]):
 Rt 124 [.agg (lk a A b c d e)] [cB false]:=
 h.of
theorem qEo(h:Oo [.r 81 [cI a,cI 1,cI 4] [cB q],.n q false,.r 81 [cI b,cI 0,cI a] [cB r],.n r false,.r 81 [cI c,cI 0,cI a] [cB s],.n s false,.v (b+c),.v (b+c+(A.length:Int)),.b (b+c+(A.length:Int) != a) false,.r 81 [cI d,cI 0,cI 1000000000] [cB t],.n t true]):
 Rt 124 [.agg (lk a A b c d e)] [cB false]:=
 h.of
theorem qEp(h:Oo [.r 81 [cI a,cI 1,cI 4] [cB q],.n q false,.r 81 [cI b,cI 0,cI a] [cB r],.n r false,.r 81 [cI c,cI 0,cI a] [cB s],.n s false,.v (b+c),.v (b+c+(A.length:Int)),.b (b+c+(A.length:Int) != a) false,.r 81 [cI d,cI 0,cI 1000000000] [cB t],.n t false,.b (decide (e<0)) true]):
 Rt 124 [.agg (lk a A b c d e)] [cB false]:=
 h.of
theorem qEq(h:Oo [.r 81 [cI a,cI 1,cI 4] [cB q],.n q false,.r 81 [cI b,cI 0,cI a] [cB r],.n r false,.r 81 [cI c,cI 0,cI a] [cB s],.n s false,.v (b+c),.v (b+c+(A.length:Int)),.b (b+c+(A.length:Int) != a) false,.r 81 [cI d,cI 0,cI 1000000000] [cB t],.n t false,.b (decide (e<0)) false,.v (d-e),.b (d-e != (A.length:Int)) true]):
 Rt 124 [.agg (lk a A b c d e)] [cB false]:=
 h.of
theorem qEr(h:Oo [.r 81 [cI a,cI 1,cI 4] [cB r],.n r false,.r 81 [cI b,cI 0,cI a] [cB s],.n s false,.r 81 [cI c,cI 0,cI a] [cB t],.n t false,.v (b+c),.v (b+c+(A.length:Int)),.b (b+c+(A.length:Int) != a) false,.r 81 [cI d,cI 0,cI 1000000000] [cB u],.n u false,.b (decide (e<0)) false,.v (d-e),.b (d-e != (A.length:Int)) false,.r 199 [cS 5 A] [cB q]]):
 Rt 124 [.agg (lk a A b c d e)] [cB q]:=
 h.of
def qe9(A:LL)(a:Int):St:=
 { env:=envOf 15 [(5,vF 5 A),(6,vI (A.length:Int)),(7,vI a)],boxes:=[] }
def qlq(q:Bool):St:=
 { env:=envOf 15 [(2,.al (.one (.sb q)))],boxes:=[] }
theorem qEs(h:Oo [.b (decide (a<(A.length:Int))) true,.p (0≤a),.p (a<(A.length:Int)),.e A a.toNat (ri b c d e f),.r 173 [.agg (ri b c d e f)] [cB q],.n q true]):
 Tp (qaa Tryz.f199 0) (qe9 A a) .ret (qlq false):=
 h.lp [2] []
theorem qEt(h:Oo [.b (decide (a<(A.length:Int))) true,.p (0≤a),.p (a<(A.length:Int)),.e A a.toNat (ri b c d e f),.r 173 [.agg (ri b c d e f)] [cB q],.n q false,.u a]):
 Tp (qaa Tryz.f199 0) (qe9 A a) .normal (qe9 A (a+1)):=
 h.lp [7,6,5] []
def qqb:St:=
 { env:=envOf 15 [],boxes:=[] }
theorem qEu(h:Oo [.b (decide (a<(A.length:Int))) false]):
 Tp (qaa Tryz.f199 0) (qe9 A a) (.exit 0) qqb:=
 h.lp [] []
theorem qEv(h:Oo [.l [] [7,6,5] [] (qaa Tryz.f199 0) (qe9 A 0) .ret (qlq q)]):
 Rt 199 [cS 5 A] [cB q]:=
 h.of
theorem qEw(h:Oo [.l [] [7,6,5] [] (qaa Tryz.f199 0) (qe9 A 0) (.exit 0) qqb]):
 Rt 199 [cS 5 A] [cB true]:=
 h.of
theorem qEx(h:Oo [.r 163 [.agg (gr A a b)] [cB q],.n q true]):
 Rt 113 [.agg (cl A a b C E F G)] [cB false]:=
 h.of
theorem qEy(h:Oo [.r 163 [.agg (gr A a b)] [cB q],.n q false,.b ((C.length:Int) != a) true]):
 Rt 113 [.agg (cl A a b C E F G)] [cB false]:=
 h.of
theorem qEz(h:Oo [.r 163 [.agg (gr A a b)] [cB q],.n q false,.b ((C.length:Int) != a) false,.v (a*a),.b ((E.length:Int) != a*a) true]):
 Rt 113 [.agg (cl A a b C E F G)] [cB false]:=
 h.of
theorem qEA(h:Oo [.r 163 [.agg (gr A a b)] [cB q],.n q false,.b ((C.length:Int) != a) false,.v (a*a),.b ((E.length:Int) != a*a) false,.b ((F.length:Int) != 4) true]):
 Rt 113 [.agg (cl A a b C E F G)] [cB false]:=
 h.of
def qcK(A:LL)(a b:Int)(C E F G:LL)(c:Int):St:=
 { env:=envOf 170 [(1,vP 1),(3,vI a),(4,vI c)],boxes:=[(1,[.sl .free 4 A,lI a,lI b,.sl .free 8 C,.sl .free 6 E,.sl .free 5 F,.sl .free 3 G])] }
def qi3(q:Bool):St:=
 { env:=envOf 170 [(2,.al (.one (.sb q)))],boxes:=[] }
theorem qEB(h:Oo [.b (decide (a<b)) true,.p (0≤a),.p (a<(A.length:Int)),.e A a.toNat (wk M E F G H J K L),.r 187 [.agg (gr C b c),.agg (wk M E F G H J K L)] [cB q],.n q true]):
 Tp (qaa Tryz.f113 0) (qcK C b c A N P Q a) .ret (qi3 false):=
 h.lp [2] []
theorem qEC(h:Oo [.b (decide (a<b)) true,.p (0≤a),.p (a<(A.length:Int)),.e A a.toNat (wk Q E F G H J K L),.r 187 [.agg (gr C b c),.agg (wk Q E F G H J K L)] [cB q],.n q false,.u a]):
 Tp (qaa Tryz.f113 0) (qcK C b c A M N P a) .normal (qcK C b c A M N P (a+1)):=
 h.lp [4,3,1] [1]
def qgk(A:LL)(a b:Int)(C E F G:LL):St:=
 { env:=envOf 170 [(1,vP 1),(3,vI a)],boxes:=[(1,[.sl .free 4 A,lI a,lI b,.sl .free 8 C,.sl .free 6 E,.sl .free 5 F,.sl .free 3 G])] }
theorem qED(h:Oo [.b (decide (c<a)) false]):
 Tp (qaa Tryz.f113 0) (qcK A a b C E F G c) (.exit 0) (qgk A a b C E F G):=
 h.lp [1,3] [1]
theorem qEE(h:Oo [.r 163 [.agg (gr A a b)] [cB q],.n q false,.b ((C.length:Int) != a) false,.v (a*a),.b ((E.length:Int) != a*a) false,.b ((F.length:Int) != 4) false,.l [] [4,3,1] [1] (qaa Tryz.f113 0) (qcK A a b C E F G 0) .ret (qi3 r)]):
 Rt 113 [.agg (cl A a b C E F G)] [cB r]:=
 h.of
def qbX(a b:Int)(A:LL)(c d:Int)(C E F G:LL):St:=
 { env:=envOf 170 [(1,vP 1),(3,vI a),(5,vI b)],boxes:=[(1,[.sl .free 4 A,lI c,lI d,.sl .free 8 C,.sl .free 6 E,.sl .free 5 F,.sl .free 3 G])] }
def qgl(q:Bool):St:=
 { env:=envOf 170 [(2,.al (.one (.sb q)))],boxes:=[] }
theorem qEF(h:Oo [.b (decide (a<(A.length:Int))) true,.p (0≤a),.p (a<(A.length:Int)),.e A a.toNat (lk b C c d e f),.r 188 [.agg (lk b C c d e f)] [cB q],.n q true]):
 Tp (qaa Tryz.f113 1) (qbX g a H i j E A F G) .ret (qgl false):=
 h.lp [2] []
theorem qEG(h:Oo [.b (decide (a<(A.length:Int))) true,.p (0≤a),.p (a<(A.length:Int)),.e A a.toNat (lk b C d e f g),.r 188 [.agg (lk b C d e f g)] [cB q],.n q false,.b (b != c) true]):
 Tp (qaa Tryz.f113 1) (qbX i a H j c E A F G) .ret (qgl false):=
 h.lp [2] []
theorem qEH(h:Oo [.b (decide (a<(A.length:Int))) true,.p (0≤a),.p (a<(A.length:Int)),.e A a.toNat (lk c C e f g i),.r 188 [.agg (lk c C e f g i)] [cB q],.n q false,.b (c != b) false,.r 189 [.agg (gr E d b),cS 5 C] [cB r],.n r true]):
 Tp (qaa Tryz.f113 1) (qbX j a E d b F A G H) .ret (qgl false):=
 h.lp [2] []
theorem qEI(h:Oo [.b (decide (a<(A.length:Int))) true,.p (0≤a),.p (a<(A.length:Int)),.e A a.toNat (lk d C f g i j),.r 188 [.agg (lk d C f g i j)] [cB q],.n q false,.b (d != c) false,.r 189 [.agg (gr E e c),cS 5 C] [cB r],.n r false,.p (b≠0),.v (a.tdiv b),.p (b≠0),.b (a.tdiv b==a.tmod b) true,.b (decide ((C.length:Int)>0)) true]):
 Tp (qaa Tryz.f113 1) (qbX b a E e c F A G H) .ret (qgl false):=
 h.lp [2] []
theorem qEJ(h:Oo [.b (decide (a<(A.length:Int))) true,.p (0≤a),.p (a<(A.length:Int)),.e A a.toNat (lk e C f g i j),.r 188 [.agg (lk e C f g i j)] [cB q],.n q false,.b (e != c) false,.r 189 [.agg (gr E d c),cS 5 C] [cB r],.n r false,.p (b≠0),.v (a.tdiv b),.p (b≠0),.b (a.tdiv b==a.tmod b) true,.b (decide ((C.length:Int)>0)) false,.u a]):
 Tp (qaa Tryz.f113 1) (qbX b a E d c F A G H) .normal (qbX b (a+1) E d c F A G H):=
 h.lp [5,1,3] [1]
theorem qEK(h:Oo [.b (decide (a<(A.length:Int))) true,.p (0≤a),.p (a<(A.length:Int)),.e A a.toNat (lk e C f g i j),.r 188 [.agg (lk e C f g i j)] [cB q],.n q false,.b (e != c) false,.r 189 [.agg (gr E d c),cS 5 C] [cB r],.n r false,.p (b≠0),.v (a.tdiv b),.p (b≠0),.b (a.tdiv b==a.tmod b) false,.u a]):
 Tp (qaa Tryz.f113 1) (qbX b a E d c F A G H) .normal (qbX b (a+1) E d c F A G H):=
 h.lp [5,1,3] [1]
def qhG(a:Int)(A:LL)(b c:Int)(C E F G:LL):St:=
 { env:=envOf 170 [(1,vP 1),(3,vI a)],boxes:=[(1,[.sl .free 4 A,lI b,lI c,.sl .free 8 C,.sl .free 6 E,.sl .free 5 F,.sl .free 3 G])] }
theorem qEL(h:Oo [.b (decide (d<(A.length:Int))) false]):
 Tp (qaa Tryz.f113 1) (qbX a d G b c C A E F) (.exit 2) (qhG a G b c C A E F):=
 h.lp [1,3] [1]
theorem qEM(h:Oo [.r 163 [.agg (gr A a b)] [cB q],.n q false,.b ((C.length:Int) != a) false,.v (a*a),.b ((E.length:Int) != a*a) false,.b ((F.length:Int) != 4) false,.l [] [4,3,1] [1] (qaa Tryz.f113 0) (qcK A a b C E F G 0) (.exit 0) (qgk A a b C E F G),.l [] [5,1,3] [1] (qaa Tryz.f113 1) (qbX a 0 A a b C E F G) .ret (qgl r)]):
 Rt 113 [.agg (cl A a b C E F G)] [cB r]:=
 h.of
def qb9(a:Int)(A:LL)(b c:Int)(C E F G:LL)(d:Int):St:=
 { env:=envOf 170 [(1,vP 1),(3,vI a),(7,vI d)],boxes:=[(1,[.sl .free 4 A,lI b,lI c,.sl .free 8 C,.sl .free 6 E,.sl .free 5 F,.sl .free 3 G])] }
def qfa(q:Bool):St:=
 { env:=envOf 170 [(2,.al (.one (.sb q)))],boxes:=[] }
theorem qEN(h:Oo [.b (decide (a<(A.length:Int))) true,.p (0≤a),.p (a<(A.length:Int)),.e A a.toNat [B r,I c,I e,B s,B t],.v (b-1),.r 137 [cI c,cI 0,cI (b-1)] [cB q],.n q true]):
 Tp (qaa Tryz.f113 2) (qb9 b G f d C E A F a) .ret (qfa false):=
 h.lp [2] []
theorem qEO(h:Oo [.b (decide (a<(A.length:Int))) true,.p (0≤a),.p (a<(A.length:Int)),.e A a.toNat [B s,I c,I f,B t,B u],.v (b-1),.r 137 [cI c,cI 0,cI (b-1)] [cB q],.n q false,.p (0≤a),.p (a<(A.length:Int)),.e A a.toNat [B r,I g,I i,B v,B w],.n r true,.p (0≤a),.p (a<(A.length:Int)),.e A a.toNat [B x,I d,I j,B y,B z],.b (d != 0) true]):
 Tp (qaa Tryz.f113 2) (qb9 b G k e C E A F a) .ret (qfa false):=
 h.lp [2] []
theorem qEP(h:Oo [.b (decide (a<(A.length:Int))) true,.p (0≤a),.p (a<(A.length:Int)),.e A a.toNat [B t,I c,I g,B u,B v],.v (b-1),.r 137 [cI c,cI 0,cI (b-1)] [cB q],.n q false,.p (0≤a),.p (a<(A.length:Int)),.e A a.toNat [B r,I i,I j,B w,B x],.n r true,.p (0≤a),.p (a<(A.length:Int)),.e A a.toNat [B y,I d,I k,B z,B q0],.b (d != 0) false,.p (0≤a),.p (a<(A.length:Int)),.e A a.toNat [B r0,I l,I e,B s0,B t0],.r 137 [cI e,cI (-1000000),cI 1000000] [cB s],.n s true]):
 Tp (qaa Tryz.f113 2) (qb9 b G m f C E A F a) .ret (qfa false):=
 h.lp [2] []
theorem qEQ(h:Oo [.b (decide (a<(A.length:Int))) true,.p (0≤a),.p (a<(A.length:Int)),.e A a.toNat [B t,I d,I i,B u,B v],.v (b-1),.r 137 [cI d,cI 0,cI (b-1)] [cB q],.n q false,.p (0≤a),.p (a<(A.length:Int)),.e A a.toNat [B r,I j,I k,B w,B x],.n r true,.p (0≤a),.p (a<(A.length:Int)),.e A a.toNat [B y,I e,I l,B z,B q0],.b (e != 0) false,.p (0≤a),.p (a<(A.length:Int)),.e A a.toNat [B r0,I m,I f,B s0,B t0],.r 137 [cI f,cI (-1000000),cI 1000000] [cB s],.n s false,.u a]):
 Tp (qaa Tryz.f113 2) (qb9 b G g c C E A F a) .normal (qb9 b G g c C E A F (a+1)):=
 h.lp [7,1,3] [1]
theorem qER(h:Oo [.b (decide (a<(A.length:Int))) true,.p (0≤a),.p (a<(A.length:Int)),.e A a.toNat [B t,I c,I f,B u,B v],.v (b-1),.r 137 [cI c,cI 0,cI (b-1)] [cB q],.n q false,.p (0≤a),.p (a<(A.length:Int)),.e A a.toNat [B r,I g,I i,B w,B x],.n r false,.p (0≤a),.p (a<(A.length:Int)),.e A a.toNat [B y,I j,I d,B z,B q0],.r 137 [cI d,cI (-1000000),cI 1000000] [cB s],.n s true]):
 Tp (qaa Tryz.f113 2) (qb9 b G k e C E A F a) .ret (qfa false):=
 h.lp [2] []
theorem qES(h:Oo [.b (decide (a<(A.length:Int))) true,.p (0≤a),.p (a<(A.length:Int)),.e A a.toNat [B t,I d,I g,B u,B v],.v (b-1),.r 137 [cI d,cI 0,cI (b-1)] [cB q],.n q false,.p (0≤a),.p (a<(A.length:Int)),.e A a.toNat [B r,I i,I j,B w,B x],.n r false,.p (0≤a),.p (a<(A.length:Int)),.e A a.toNat [B y,I k,I e,B z,B q0],.r 137 [cI e,cI (-1000000),cI 1000000] [cB s],.n s false,.u a]):
 Tp (qaa Tryz.f113 2) (qb9 b G f c C E A F a) .normal (qb9 b G f c C E A F (a+1)):=
 h.lp [7,1,3] [1]
def qi4(a:Int)(A:LL)(b c:Int)(C E F G:LL):St:=
 { env:=envOf 170 [(1,vP 1),(3,vI a)],boxes:=[(1,[.sl .free 4 A,lI b,lI c,.sl .free 8 C,.sl .free 6 E,.sl .free 5 F,.sl .free 3 G])] }
theorem qET(h:Oo [.b (decide (c<(A.length:Int))) false]):
 Tp (qaa Tryz.f113 2) (qb9 a G d b C E A F c) (.exit 4) (qi4 a G d b C E A F):=
 h.lp [1,3] [1]
theorem qEU(h:Oo [.r 163 [.agg (gr A a b)] [cB r],.n r false,.b ((C.length:Int) != a) false,.v (a*a),.b ((E.length:Int) != a*a) false,.b ((F.length:Int) != 4) false,.l [] [4,3,1] [1] (qaa Tryz.f113 0) (qcK A a b C E F G 0) (.exit 0) (qgk A a b C E F G),.l [] [5,1,3] [1] (qaa Tryz.f113 1) (qbX a 0 A a b C E F G) (.exit 2) (qhG a M d c H J K L),.l [] [7,1,3] [1] (qaa Tryz.f113 2) (qb9 a M d c H J K L 0) .ret (qfa q)]):
 Rt 113 [.agg (cl A a b C E F G)] [cB q]:=
 h.of
def qdp(a:Int)(A:LL)(b c:Int)(C E F G:LL)(d:Int):St:=
 { env:=envOf 170 [(1,vP 1),(3,vI a),(8,vI d)],boxes:=[(1,[.sl .free 4 A,lI b,lI c,.sl .free 8 C,.sl .free 6 E,.sl .free 5 F,.sl .free 3 G])] }
def qhH(q:Bool):St:=
 { env:=envOf 170 [(2,.al (.one (.sb q)))],boxes:=[] }
theorem qEV(h:Oo [.b (decide (a<(A.length:Int))) true,.p (0≤a),.p (a<(A.length:Int)),.e A a.toNat [I c,I e,B r],.v (b-1),.r 137 [cI c,cI 0,cI (b-1)] [cB q],.n q true]):
 Tp (qaa Tryz.f113 3) (qdp b G f d C E F A a) .ret (qhH false):=
 h.lp [2] []
theorem qEW(h:Oo [.b (decide (a<(A.length:Int))) true,.p (0≤a),.p (a<(A.length:Int)),.e A a.toNat [I c,I f,B s],.v (b-1),.r 137 [cI c,cI 0,cI (b-1)] [cB q],.n q false,.p (0≤a),.p (a<(A.length:Int)),.e A a.toNat [I g,I d,B t],.r 137 [cI d,cI 0,cI 3] [cB r],.n r true]):
 Tp (qaa Tryz.f113 3) (qdp b G i e C E F A a) .ret (qhH false):=
 h.lp [2] []
theorem qEX(h:Oo [.b (decide (a<(A.length:Int))) true,.p (0≤a),.p (a<(A.length:Int)),.e A a.toNat [I d,I g,B s],.v (b-1),.r 137 [cI d,cI 0,cI (b-1)] [cB q],.n q false,.p (0≤a),.p (a<(A.length:Int)),.e A a.toNat [I i,I e,B t],.r 137 [cI e,cI 0,cI 3] [cB r],.n r false,.u a]):
 Tp (qaa Tryz.f113 3) (qdp b G f c C E F A a) .normal (qdp b G f c C E F A (a+1)):=
 h.lp [8,1,3] [1]
def qlr:St:=
 { env:=envOf 170 [],boxes:=[] }
theorem qEY(h:Oo [.b (decide (a<(A.length:Int))) false]):
 Tp (qaa Tryz.f113 3) (qdp b G d c C E F A a) (.exit 6) qlr:=
 h.lp [] []
theorem qEZ(h:Oo [.r 163 [.agg (gr A a b)] [cB r],.n r false,.b ((C.length:Int) != a) false,.v (a*a),.b ((E.length:Int) != a*a) false,.b ((F.length:Int) != 4) false,.l [] [4,3,1] [1] (qaa Tryz.f113 0) (qcK A a b C E F L 0) (.exit 0) (qgk A a b C E F L),.l [] [5,1,3] [1] (qaa Tryz.f113 1) (qbX a 0 A a b C E F L) (.exit 2) (qhG a M d c G H J K),.l [] [7,1,3] [1] (qaa Tryz.f113 2) (qb9 a M d c G H J K 0) (.exit 4) (qi4 a M d c G H J K),.l [] [8,1,3] [1] (qaa Tryz.f113 3) (qdp a M d c G H J K 0) .ret (qhH q)]):
 Rt 113 [.agg (cl A a b C E F L)] [cB q]:=
 h.of
theorem qE0(h:Oo [.r 163 [.agg (gr A a b)] [cB q],.n q false,.b ((C.length:Int) != a) false,.v (a*a),.b ((E.length:Int) != a*a) false,.b ((F.length:Int) != 4) false,.l [] [4,3,1] [1] (qaa Tryz.f113 0) (qcK A a b C E F L 0) (.exit 0) (qgk A a b C E F L),.l [] [5,1,3] [1] (qaa Tryz.f113 1) (qbX a 0 A a b C E F L) (.exit 2) (qhG a M d c G H J K),.l [] [7,1,3] [1] (qaa Tryz.f113 2) (qb9 a M d c G H J K 0) (.exit 4) (qi4 a M d c G H J K),.l [] [8,1,3] [1] (qaa Tryz.f113 3) (qdp a M d c G H J K 0) (.exit 6) qlr]):
 Rt 113 [.agg (cl A a b C E F L)] [cB true]:=
 h.of
theorem qE1(h:Oo [.r 122 [.agg (gr A a b)] [cB q],.n q true]):
 Rt 64 [.agg (cl A a b C E F G)] [cB false]:=
 h.of
theorem qE2(h:Oo [.r 122 [.agg (gr A a b)] [cB q],.n q false,.b ((C.length:Int) != a) true]):
 Rt 64 [.agg (cl A a b C E F G)] [cB false]:=
 h.of
theorem qE3(h:Oo [.r 122 [.agg (gr A a b)] [cB q],.n q false,.b ((C.length:Int) != a) false,.v (a*a),.b ((E.length:Int) != a*a) true]):
 Rt 64 [.agg (cl A a b C E F G)] [cB false]:=
 h.of
theorem qE4(h:Oo [.r 122 [.agg (gr A a b)] [cB q],.n q false,.b ((C.length:Int) != a) false,.v (a*a),.b ((E.length:Int) != a*a) false,.b ((F.length:Int) != 4) true]):
 Rt 64 [.agg (cl A a b C E F G)] [cB false]:=
 h.of
def qcL(a:Int)(A:LL)(b:Int)(C:LL)(c d:Int)(E F G H:LL):St:=
 { env:=envOf 147 [(1,vP 1),(3,vI a),(42,vF 8 A),(43,vI (A.length:Int)),(44,vI b)],boxes:=[(1,[.sl .free 4 C,lI c,lI d,.sl .free 8 E,.sl .free 6 F,.sl .free 5 G,.sl .free 3 H])] }
def qi5(q:Bool):St:=
 { env:=envOf 147 [(2,.al (.one (.sb q)))],boxes:=[] }
theorem qE5(h:Oo [.b (decide (a<(A.length:Int))) true,.p (0≤a),.p (a<(A.length:Int)),.e A a.toNat (wk C E F G H J K L),.r 123 [.agg (gr M b c),.agg (wk C E F G H J K L)] [cB q],.n q true]):
 Tp (qaa Tryz.f64 0) (qcL d A a M b c N P Q R) .ret (qi5 false):=
 h.lp [2] []
theorem qE6(h:Oo [.b (decide (a<(A.length:Int))) true,.p (0≤a),.p (a<(A.length:Int)),.e A a.toNat (wk J K L M N P Q R),.r 123 [.agg (gr C b c),.agg (wk J K L M N P Q R)] [cB q],.n q false,.u a]):
 Tp (qaa Tryz.f64 0) (qcL d A a C b c E F G H) .normal (qcL d A (a+1) C b c E F G H):=
 h.lp [44,43,42,1,3] [1]
def qgm(a:Int)(A:LL)(b c:Int)(C E F G:LL):St:=
 { env:=envOf 147 [(1,vP 1),(3,vI a)],boxes:=[(1,[.sl .free 4 A,lI b,lI c,.sl .free 8 C,.sl .free 6 E,.sl .free 5 F,.sl .free 3 G])] }
theorem qE7(h:Oo [.b (decide (d<(G.length:Int))) false]):
 Tp (qaa Tryz.f64 0) (qcL a G d H b c A C E F) (.exit 0) (qgm a H b c A C E F):=
 h.lp [1,3] [1]
theorem qE8(h:Oo [.r 122 [.agg (gr C a b)] [cB q],.n q false,.b ((A.length:Int) != a) false,.v (a*a),.b ((E.length:Int) != a*a) false,.b ((F.length:Int) != 4) false,.l [] [44,43,42,1,3] [1] (qaa Tryz.f64 0) (qcL a A 0 C a b A E F G) .ret (qi5 r)]):
 Rt 64 [.agg (cl C a b A E F G)] [cB r]:=
 h.of
def qbY(a:Int)(A:LL)(b:Int)(C:LL)(c d:Int)(E F G H:LL):St:=
 { env:=envOf 147 [(1,vP 1),(3,vI a),(55,vF 6 A),(56,vI (A.length:Int)),(57,vI b)],boxes:=[(1,[.sl .free 4 C,lI c,lI d,.sl .free 8 E,.sl .free 6 F,.sl .free 5 G,.sl .free 3 H])] }
def qgn(q:Bool):St:=
 { env:=envOf 147 [(2,.al (.one (.sb q)))],boxes:=[] }
theorem qE9(h:Oo [.b (decide (a<(A.length:Int))) true,.p (0≤a),.p (a<(A.length:Int)),.e A a.toNat (lk b C c d e f),.r 124 [.agg (lk b C c d e f)] [cB q],.n q true]):
 Tp (qaa Tryz.f64 1) (qbY g A a E i j F G H J) .ret (qgn false):=
 h.lp [2] []
theorem qFa(h:Oo [.b (decide (a<(A.length:Int))) true,.p (0≤a),.p (a<(A.length:Int)),.e A a.toNat (lk b C d e f g),.r 124 [.agg (lk b C d e f g)] [cB q],.n q false,.b (b != c) true]):
 Tp (qaa Tryz.f64 1) (qbY i A a E j c F G H J) .ret (qgn false):=
 h.lp [2] []
theorem qFb(h:Oo [.b (decide (a<(A.length:Int))) true,.p (0≤a),.p (a<(A.length:Int)),.e A a.toNat (lk c C e f g i),.r 124 [.agg (lk c C e f g i)] [cB q],.n q false,.b (c != b) false,.r 125 [.agg (gr E d b),cS 5 C] [cB r],.n r true]):
 Tp (qaa Tryz.f64 1) (qbY j A a E d b F G H J) .ret (qgn false):=
 h.lp [2] []
theorem qFc(h:Oo [.b (decide (a<(A.length:Int))) true,.p (0≤a),.p (a<(A.length:Int)),.e A a.toNat (lk d C f g i j),.r 124 [.agg (lk d C f g i j)] [cB q],.n q false,.b (d != c) false,.r 125 [.agg (gr E e c),cS 5 C] [cB r],.n r false,.p (b≠0),.v (a.tdiv b),.p (b≠0),.b (a.tdiv b==a.tmod b) true,.b (decide ((C.length:Int)>0)) true]):
 Tp (qaa Tryz.f64 1) (qbY b A a E e c F G H J) .ret (qgn false):=
 h.lp [2] []
theorem qFd(h:Oo [.b (decide (a<(A.length:Int))) true,.p (0≤a),.p (a<(A.length:Int)),.e A a.toNat (lk e C f g i j),.r 124 [.agg (lk e C f g i j)] [cB q],.n q false,.b (e != c) false,.r 125 [.agg (gr E d c),cS 5 C] [cB r],.n r false,.p (b≠0),.v (a.tdiv b),.p (b≠0),.b (a.tdiv b==a.tmod b) true,.b (decide ((C.length:Int)>0)) false,.u a]):
 Tp (qaa Tryz.f64 1) (qbY b A a E d c F G H J) .normal (qbY b A (a+1) E d c F G H J):=
 h.lp [57,56,55,1,3] [1]
theorem qFe(h:Oo [.b (decide (a<(A.length:Int))) true,.p (0≤a),.p (a<(A.length:Int)),.e A a.toNat (lk e E f g i j),.r 124 [.agg (lk e E f g i j)] [cB q],.n q false,.b (e != c) false,.r 125 [.agg (gr C d c),cS 5 E] [cB r],.n r false,.p (b≠0),.v (a.tdiv b),.p (b≠0),.b (a.tdiv b==a.tmod b) false,.u a]):
 Tp (qaa Tryz.f64 1) (qbY b A a C d c F G H J) .normal (qbY b A (a+1) C d c F G H J):=
 h.lp [57,56,55,1,3] [1]
def qhI(a:Int)(A:LL)(b c:Int)(C E F G:LL):St:=
 { env:=envOf 147 [(1,vP 1),(3,vI a)],boxes:=[(1,[.sl .free 4 A,lI b,lI c,.sl .free 8 C,.sl .free 6 E,.sl .free 5 F,.sl .free 3 G])] }
theorem qFf(h:Oo [.b (decide (b<(A.length:Int))) false]):
 Tp (qaa Tryz.f64 1) (qbY a A b C c d E F G H) (.exit 2) (qhI a C c d E F G H):=
 h.lp [1,3] [1]
theorem qFg(h:Oo [.r 122 [.agg (gr C a b)] [cB r],.n r false,.b ((A.length:Int) != a) false,.v (a*a),.b ((F.length:Int) != a*a) false,.b ((G.length:Int) != 4) false,.l [] [44,43,42,1,3] [1] (qaa Tryz.f64 0) (qcL a A 0 C a b A F G L) (.exit 0) (qgm a M d c H E J K),.l [] [57,56,55,1,3] [1] (qaa Tryz.f64 1) (qbY a E 0 M d c H E J K) .ret (qgn q)]):
 Rt 64 [.agg (cl C a b A F G L)] [cB q]:=
 h.of
def qca(a:Int)(A:LL)(b:Int)(C:LL)(c d:Int)(E F G H:LL):St:=
 { env:=envOf 147 [(1,vP 1),(3,vI a),(98,vF 5 A),(99,vI (A.length:Int)),(100,vI b)],boxes:=[(1,[.sl .free 4 C,lI c,lI d,.sl .free 8 E,.sl .free 6 F,.sl .free 5 G,.sl .free 3 H])] }
def qfb(q:Bool):St:=
 { env:=envOf 147 [(2,.al (.one (.sb q)))],boxes:=[] }
theorem qFh(h:Oo [.b (decide (a<(A.length:Int))) true,.p (0≤a),.p (a<(A.length:Int)),.e A a.toNat [B r,I c,I f,B s,B t],.v (b-1),.r 81 [cI c,cI 0,cI (b-1)] [cB q],.n q true]):
 Tp (qaa Tryz.f64 2) (qca b A a C d e E F G H) .ret (qfb false):=
 h.lp [2] []
theorem qFi(h:Oo [.b (decide (a<(A.length:Int))) true,.p (0≤a),.p (a<(A.length:Int)),.e A a.toNat [B q,I c,I f,B s,B t],.v (b-1),.r 81 [cI c,cI 0,cI (b-1)] [cB r],.n r false,.n q true,.b (c != 0) true]):
 Tp (qaa Tryz.f64 2) (qca b A a C d e E F G H) .ret (qfb false):=
 h.lp [2] []
theorem qFj(h:Oo [.b (decide (a<(A.length:Int))) true,.p (0≤a),.p (a<(A.length:Int)),.e A a.toNat [B q,I c,I d,B t,B u],.v (b-1),.r 81 [cI c,cI 0,cI (b-1)] [cB r],.n r false,.n q true,.b (c != 0) false,.r 81 [cI d,cI (-1000000),cI 1000000] [cB s],.n s true]):
 Tp (qaa Tryz.f64 2) (qca b A a C e f E F G H) .ret (qfb false):=
 h.lp [2] []
theorem qFk(h:Oo [.b (decide (a<(A.length:Int))) true,.p (0≤a),.p (a<(A.length:Int)),.e A a.toNat [B q,I c,I f,B t,B u],.v (b-1),.r 81 [cI c,cI 0,cI (b-1)] [cB r],.n r false,.n q true,.b (c != 0) false,.r 81 [cI f,cI (-1000000),cI 1000000] [cB s],.n s false,.u a]):
 Tp (qaa Tryz.f64 2) (qca b A a C d e E F G H) .normal (qca b A (a+1) C d e E F G H):=
 h.lp [100,99,98,3,1] [1]
theorem qFl(h:Oo [.b (decide (a<(A.length:Int))) true,.p (0≤a),.p (a<(A.length:Int)),.e A a.toNat [B q,I c,I d,B t,B u],.v (b-1),.r 81 [cI c,cI 0,cI (b-1)] [cB r],.n r false,.n q false,.r 81 [cI d,cI (-1000000),cI 1000000] [cB s],.n s true]):
 Tp (qaa Tryz.f64 2) (qca b A a C e f E F G H) .ret (qfb false):=
 h.lp [2] []
theorem qFm(h:Oo [.b (decide (a<(A.length:Int))) true,.p (0≤a),.p (a<(A.length:Int)),.e A a.toNat [B q,I e,I f,B t,B u],.v (b-1),.r 81 [cI e,cI 0,cI (b-1)] [cB r],.n r false,.n q false,.r 81 [cI f,cI (-1000000),cI 1000000] [cB s],.n s false,.u a]):
 Tp (qaa Tryz.f64 2) (qca b A a C c d E F G H) .normal (qca b A (a+1) C c d E F G H):=
 h.lp [100,99,98,3,1] [1]
def qi6(a:Int)(A:LL)(b c:Int)(C E F G:LL):St:=
 { env:=envOf 147 [(1,vP 1),(3,vI a)],boxes:=[(1,[.sl .free 4 A,lI b,lI c,.sl .free 8 C,.sl .free 6 E,.sl .free 5 F,.sl .free 3 G])] }
theorem qFn(h:Oo [.b (decide (b<(A.length:Int))) false]):
 Tp (qaa Tryz.f64 2) (qca a A b C c d E F G H) (.exit 4) (qi6 a C c d E F G H):=
 h.lp [1,3] [1]
theorem qFo(h:Oo [.r 122 [.agg (gr C a b)] [cB r],.n r false,.b ((A.length:Int) != a) false,.v (a*a),.b ((G.length:Int) != a*a) false,.b ((H.length:Int) != 4) false,.l [] [44,43,42,1,3] [1] (qaa Tryz.f64 0) (qcL a A 0 C a b A G H R) (.exit 0) (qgm a S f c J E K L),.l [] [57,56,55,1,3] [1] (qaa Tryz.f64 1) (qbY a E 0 S f c J E K L) (.exit 2) (qhI a M d e N P F Q),.l [] [100,99,98,3,1] [1] (qaa Tryz.f64 2) (qca a F 0 M d e N P F Q) .ret (qfb q)]):
 Rt 64 [.agg (cl C a b A G H R)] [cB q]:=
 h.of
def qdq(a:Int)(A:LL)(b:Int):St:=
 { env:=envOf 147 [(3,vI a),(128,vF 3 A),(129,vI (A.length:Int)),(130,vI b)],boxes:=[] }
def qhJ(q:Bool):St:=
 { env:=envOf 147 [(2,.al (.one (.sb q)))],boxes:=[] }
theorem qFp(h:Oo [.b (decide (a<(A.length:Int))) true,.p (0≤a),.p (a<(A.length:Int)),.e A a.toNat [I c,I d,B r],.v (b-1),.r 81 [cI c,cI 0,cI (b-1)] [cB q],.n q true]):
 Tp (qaa Tryz.f64 3) (qdq b A a) .ret (qhJ false):=
 h.lp [2] []
theorem qFq(h:Oo [.b (decide (a<(A.length:Int))) true,.p (0≤a),.p (a<(A.length:Int)),.e A a.toNat [I c,I d,B s],.v (b-1),.r 81 [cI c,cI 0,cI (b-1)] [cB q],.n q false,.r 81 [cI d,cI 0,cI 3] [cB r],.n r true]):
 Tp (qaa Tryz.f64 3) (qdq b A a) .ret (qhJ false):=
 h.lp [2] []
theorem qFr(h:Oo [.b (decide (a<(A.length:Int))) true,.p (0≤a),.p (a<(A.length:Int)),.e A a.toNat [I c,I d,B s],.v (b-1),.r 81 [cI c,cI 0,cI (b-1)] [cB q],.n q false,.r 81 [cI d,cI 0,cI 3] [cB r],.n r false,.u a]):
 Tp (qaa Tryz.f64 3) (qdq b A a) .normal (qdq b A (a+1)):=
 h.lp [130,129,128,3] []
def qls:St:=
 { env:=envOf 147 [],boxes:=[] }
theorem qFs(h:Oo [.b (decide (a<(A.length:Int))) false]):
 Tp (qaa Tryz.f64 3) (qdq b A a) (.exit 6) qls:=
 h.lp [] []
theorem qFt(h:Oo [.r 122 [.agg (gr C a b)] [cB r],.n r false,.b ((A.length:Int) != a) false,.v (a*a),.b ((G.length:Int) != a*a) false,.b ((H.length:Int) != 4) false,.l [] [44,43,42,1,3] [1] (qaa Tryz.f64 0) (qcL a A 0 C a b A G H S) (.exit 0) (qgm a U f c J E K L),.l [] [57,56,55,1,3] [1] (qaa Tryz.f64 1) (qbY a E 0 U f c J E K L) (.exit 2) (qhI a M d e N P F Q),.l [] [100,99,98,3,1] [1] (qaa Tryz.f64 2) (qca a F 0 M d e N P F Q) (.exit 4) (qi6 a V g i W X Y R),.l [] [130,129,128,3] [] (qaa Tryz.f64 3) (qdq a R 0) .ret (qhJ q)]):
 Rt 64 [.agg (cl C a b A G H S)] [cB q]:=
 h.of
theorem qFu(h:Oo [.r 122 [.agg (gr C a b)] [cB q],.n q false,.b ((A.length:Int) != a) false,.v (a*a),.b ((G.length:Int) != a*a) false,.b ((H.length:Int) != 4) false,.l [] [44,43,42,1,3] [1] (qaa Tryz.f64 0) (qcL a A 0 C a b A G H S) (.exit 0) (qgm a U f c J E K L),.l [] [57,56,55,1,3] [1] (qaa Tryz.f64 1) (qbY a E 0 U f c J E K L) (.exit 2) (qhI a M d e N P F Q),.l [] [100,99,98,3,1] [1] (qaa Tryz.f64 2) (qca a F 0 M d e N P F Q) (.exit 4) (qi6 a V g i W X Y R),.l [] [130,129,128,3] [] (qaa Tryz.f64 3) (qdq a R 0) (.exit 6) qls]):
 Rt 64 [.agg (cl C a b A G H S)] [cB true]:=
 h.of
end Go.Proofs.YtdanpadojemjeaaGreat
