import Derived.Test.YtdanpadojemjeaaGreatRows
import Derived.Test.YtdanpadojemjeaaGreatGE
namespace Go.Proofs.YtdanpadojemjeaaGreat
open Go.Sx Go.RowKit
variable {a b c d e f g i j k l m n o p a0 b0 c0 d0 e0 f0 : Int} {A C E F G H J K L M N P Q R S U V W X Y : LL} {q r s t u v w x y z q0 r0 s0 t0 : Bool}
theorem qAn(h:Oo [.b (decide (a<1)) true]):
 Rt 212 [cI b,cI a] [cI 0]:=
 h.of
theorem qAo(h:Oo [.b (decide (a<1)) false,.p (a≠0),.b (decide (b.tmod a<0)) true,.v (b.tmod a+a)]):
 Rt 212 [cI b,cI a] [cI (b.tmod a+a)]:=
 h.of
theorem qAp(h:Oo [.b (decide (a<1)) false,.p (a≠0),.b (decide (b.tmod a<0)) false]):
 Rt 212 [cI b,cI a] [cI (b.tmod a)]:=
 h.of
theorem qAq(h:Oo [.b (decide (a<1)) true]):
 Rt 153 [cI b,cI a] [cI 0]:=
 h.of
theorem qAr(h:Oo [.b (decide (a<1)) false,.p (a≠0),.b (decide (b.tmod a<0)) true,.v (b.tmod a+a)]):
 Rt 153 [cI b,cI a] [cI (b.tmod a+a)]:=
 h.of
theorem qAs(h:Oo [.b (decide (a<1)) false,.p (a≠0),.b (decide (b.tmod a<0)) false]):
 Rt 153 [cI b,cI a] [cI (b.tmod a)]:=
 h.of
def qdL(A:LL)(a:Int):St:=
 { env:=envOf 21 [(0,vF 4 A),(3,vI a)],boxes:=[] }
def qkp(q:Bool):St:=
 { env:=envOf 21 [(2,.al (.one (.sb q)))],boxes:=[] }
theorem qAt(h:Oo [.b (decide (a<(A.length:Int))) true,.v (a-1),.p (0≤a-1),.p (a-1<(A.length:Int)),.e A ((a-1).toNat) [I c,I d,I e,I f],.p (0≤a),.p (a<(A.length:Int)),.e A a.toNat [I g,I i,I j,I k],.r 243 [.agg [I c,I d,I e,I f],.agg [I g,I i,I j,I k]] [cI b],.b (decide (b≥0)) true]):
 Tp (qaa Tryz.f227 0) (qdL A a) .ret (qkp false):=
 h.lp [2] []
theorem qAu(h:Oo [.b (decide (a<(A.length:Int))) true,.v (a-1),.p (0≤a-1),.p (a-1<(A.length:Int)),.e A ((a-1).toNat) [I c,I d,I e,I f],.p (0≤a),.p (a<(A.length:Int)),.e A a.toNat [I g,I i,I j,I k],.r 243 [.agg [I c,I d,I e,I f],.agg [I g,I i,I j,I k]] [cI b],.b (decide (b≥0)) false,.u a]):
 Tp (qaa Tryz.f227 0) (qdL A a) .normal (qdL A (a+1)):=
 h.lp [3,0] []
def qoE:St:=
 { env:=envOf 21 [],boxes:=[] }
theorem qAv(h:Oo [.b (decide (a<(A.length:Int))) false]):
 Tp (qaa Tryz.f227 0) (qdL A a) (.exit 0) qoE:=
 h.lp [] []
theorem qAw(h:Oo [.l [] [3,0] [] (qaa Tryz.f227 0) (qdL A 1) .ret (qkp q)]):
 Rt 227 [cS 4 A] [cB q]:=
 h.of
theorem qAx(h:Oo [.l [] [3,0] [] (qaa Tryz.f227 0) (qdL A 1) (.exit 0) qoE]):
 Rt 227 [cS 4 A] [cB true]:=
 h.of
def qdM(A:LL)(a:Int):St:=
 { env:=envOf 21 [(0,vF 4 A),(3,vI a)],boxes:=[] }
def qkq(q:Bool):St:=
 { env:=envOf 21 [(2,.al (.one (.sb q)))],boxes:=[] }
theorem qAy(h:Oo [.b (decide (a<(A.length:Int))) true,.v (a-1),.p (0≤a-1),.p (a-1<(A.length:Int)),.e A ((a-1).toNat) [I c,I d,I e,I f],.p (0≤a),.p (a<(A.length:Int)),.e A a.toNat [I g,I i,I j,I k],.r 230 [.agg [I c,I d,I e,I f],.agg [I g,I i,I j,I k]] [cI b],.b (decide (b≥0)) true]):
 Tp (qaa Tryz.f198 0) (qdM A a) .ret (qkq false):=
 h.lp [2] []
theorem qAz(h:Oo [.b (decide (a<(A.length:Int))) true,.v (a-1),.p (0≤a-1),.p (a-1<(A.length:Int)),.e A ((a-1).toNat) [I c,I d,I e,I f],.p (0≤a),.p (a<(A.length:Int)),.e A a.toNat [I g,I i,I j,I k],.r 230 [.agg [I c,I d,I e,I f],.agg [I g,I i,I j,I k]] [cI b],.b (decide (b≥0)) false,.u a]):
 Tp (qaa Tryz.f198 0) (qdM A a) .normal (qdM A (a+1)):=
 h.lp [3,0] []
def qoF:St:=
 { env:=envOf 21 [],boxes:=[] }
theorem qAA(h:Oo [.b (decide (a<(A.length:Int))) false]):
 Tp (qaa Tryz.f198 0) (qdM A a) (.exit 0) qoF:=
 h.lp [] []
theorem qAB(h:Oo [.l [] [3,0] [] (qaa Tryz.f198 0) (qdM A 1) .ret (qkq q)]):
 Rt 198 [cS 4 A] [cB q]:=
 h.of
theorem qAC(h:Oo [.l [] [3,0] [] (qaa Tryz.f198 0) (qdM A 1) (.exit 0) qoF]):
 Rt 198 [cS 4 A] [cB true]:=
 h.of
def qdN(A:LL)(a b:Int)(C:LL)(c:Int):St:=
 { env:=envOf 29 [(1,vF 5 C),(2,vP 2),(5,vI c)],boxes:=[(2,[.sl .free 4 A,lI a,lI b])] }
def qh9(q:Bool):St:=
 { env:=envOf 29 [(4,.al (.one (.sb q)))],boxes:=[] }
theorem qAD(h:Oo [.b (decide (a<(A.length:Int))) true,.p (0≤a),.p (a<(A.length:Int)),.e A a.toNat (ri b c d e f),.r 164 [.agg (ri b c d e f)] [cB q],.n q true]):
 Tp (qaa Tryz.f189 0) (qdN C g i A a) .ret (qh9 false):=
 h.lp [4] []
theorem qAE(h:Oo [.b (decide (a<(A.length:Int))) true,.p (0≤a),.p (a<(A.length:Int)),.e A a.toNat (ri c d e f g),.r 164 [.agg (ri c d e f g)] [cB q],.n q false,.p (0≤a),.p (a<(A.length:Int)),.e A a.toNat (ri b j k l m),.b (decide (b≥(C.length:Int))) true]):
 Tp (qaa Tryz.f189 0) (qdN C i n A a) .ret (qh9 false):=
 h.lp [4] []
theorem qAF(h:Oo [.b (decide (a<(A.length:Int))) true,.p (0≤a),.p (a<(A.length:Int)),.e A a.toNat (ri e f g i j),.r 164 [.agg (ri e f g i j)] [cB q],.n q false,.p (0≤a),.p (a<(A.length:Int)),.e A a.toNat (ri c k l m n),.b (decide (c≥(C.length:Int))) false,.u a]):
 Tp (qaa Tryz.f189 0) (qdN C b d A a) .normal (qdN C b d A (a+1)):=
 h.lp [5,1,2] [2]
def qoG:St:=
 { env:=envOf 29 [],boxes:=[] }
theorem qAG(h:Oo [.b (decide (a<(A.length:Int))) false]):
 Tp (qaa Tryz.f189 0) (qdN C b c A a) (.exit 0) qoG:=
 h.lp [] []
theorem qAH(h:Oo [.l [] [5,1,2] [2] (qaa Tryz.f189 0) (qdN A a b C 0) .ret (qh9 q)]):
 Rt 189 [.agg (gr A a b),cS 5 C] [cB q]:=
 h.of
theorem qAI(h:Oo [.l [] [5,1,2] [2] (qaa Tryz.f189 0) (qdN A a b C 0) (.exit 0) qoG]):
 Rt 189 [.agg (gr A a b),cS 5 C] [cB true]:=
 h.of
def qdO(A:LL)(a:Int)(C:LL)(b c:Int):St:=
 { env:=envOf 24 [(2,vP 2),(7,vF 5 A),(8,vI (A.length:Int)),(9,vI a)],boxes:=[(2,[.sl .free 4 C,lI b,lI c])] }
def qia(q:Bool):St:=
 { env:=envOf 24 [(4,.al (.one (.sb q)))],boxes:=[] }
theorem qAJ(h:Oo [.b (decide (a<(A.length:Int))) true,.p (0≤a),.p (a<(A.length:Int)),.e A a.toNat (ri e f b c d),.r 173 [.agg (ri e f b c d)] [cB q],.n q true]):
 Tp (qaa Tryz.f125 0) (qdO A a C g i) .ret (qia false):=
 h.lp [4] []
theorem qAK(h:Oo [.b (decide (a<(A.length:Int))) true,.p (0≤a),.p (a<(A.length:Int)),.e A a.toNat (ri b i c d e),.r 173 [.agg (ri b i c d e)] [cB q],.n q false,.r 200 [.agg (gr C f g),cI b] [cB r],.n r true]):
 Tp (qaa Tryz.f125 0) (qdO A a C f g) .ret (qia false):=
 h.lp [4] []
theorem qAL(h:Oo [.b (decide (a<(A.length:Int))) true,.p (0≤a),.p (a<(A.length:Int)),.e A a.toNat (ri d i e f g),.r 173 [.agg (ri d i e f g)] [cB q],.n q false,.r 200 [.agg (gr C b c),cI d] [cB r],.n r false,.u a]):
 Tp (qaa Tryz.f125 0) (qdO A a C b c) .normal (qdO A (a+1) C b c):=
 h.lp [9,8,7,2] [2]
def qoH:St:=
 { env:=envOf 24 [],boxes:=[] }
theorem qAM(h:Oo [.b (decide (a<(A.length:Int))) false]):
 Tp (qaa Tryz.f125 0) (qdO A a C b c) (.exit 0) qoH:=
 h.lp [] []
theorem qAN(h:Oo [.l [] [9,8,7,2] [2] (qaa Tryz.f125 0) (qdO C 0 A a b) .ret (qia q)]):
 Rt 125 [.agg (gr A a b),cS 5 C] [cB q]:=
 h.of
theorem qAO(h:Oo [.l [] [9,8,7,2] [2] (qaa Tryz.f125 0) (qdO C 0 A a b) (.exit 0) qoH]):
 Rt 125 [.agg (gr A a b),cS 5 C] [cB true]:=
 h.of
theorem qAP(h:Oo [.r 189 [.agg (gr A a b),cS 5 C] [cB q],.n q true]):
 Rt 187 [.agg (gr A a b),.agg (wk C F G H J K L E)] [cB false]:=
 h.of
theorem qAQ(h:Oo [.r 189 [.agg (gr A a b),cS 5 C] [cB q],.n q false,.r 189 [.agg (gr A a b),cS 5 E] [cB r],.n r true]):
 Rt 187 [.agg (gr A a b),.agg (wk C E G H J K L F)] [cB false]:=
 h.of
theorem qAR(h:Oo [.r 189 [.agg (gr A a b),cS 5 C] [cB q],.n q false,.r 189 [.agg (gr A a b),cS 5 E] [cB r],.n r false,.r 189 [.agg (gr A a b),cS 5 F] [cB s],.n s true]):
 Rt 187 [.agg (gr A a b),.agg (wk C E F H J K L G)] [cB false]:=
 h.of
theorem qAS(h:Oo [.r 189 [.agg (gr A a b),cS 5 C] [cB q],.n q false,.r 189 [.agg (gr A a b),cS 5 E] [cB r],.n r false,.r 189 [.agg (gr A a b),cS 5 F] [cB s],.n s false,.r 227 [cS 4 G] [cB t],.n t true]):
 Rt 187 [.agg (gr A a b),.agg (wk C E F G J K L H)] [cB false]:=
 h.of
theorem qAT(h:Oo [.r 189 [.agg (gr A a b),cS 5 C] [cB q],.n q false,.r 189 [.agg (gr A a b),cS 5 E] [cB r],.n r false,.r 189 [.agg (gr A a b),cS 5 F] [cB s],.n s false,.r 227 [cS 4 G] [cB t],.n t false,.b ((H.length:Int) != 4) true]):
 Rt 187 [.agg (gr A a b),.agg (wk C E F G H K L J)] [cB false]:=
 h.of
theorem qAU(h:Oo [.r 189 [.agg (gr A a b),cS 5 C] [cB q],.n q false,.r 189 [.agg (gr A a b),cS 5 E] [cB r],.n r false,.r 189 [.agg (gr A a b),cS 5 F] [cB s],.n s false,.r 227 [cS 4 G] [cB t],.n t false,.b ((H.length:Int) != 4) false,.b ((J.length:Int) != 4) true]):
 Rt 187 [.agg (gr A a b),.agg (wk C E F G H J L K)] [cB false]:=
 h.of
theorem qAV(h:Oo [.r 189 [.agg (gr A a b),cS 5 C] [cB q],.n q false,.r 189 [.agg (gr A a b),cS 5 E] [cB r],.n r false,.r 189 [.agg (gr A a b),cS 5 F] [cB s],.n s false,.r 227 [cS 4 G] [cB t],.n t false,.b ((H.length:Int) != 4) false,.b ((J.length:Int) != 4) false,.b ((K.length:Int) != 4) true]):
 Rt 187 [.agg (gr A a b),.agg (wk C E F G H J K L)] [cB false]:=
 h.of
def qb2(A C E F G H J K:LL)(a:Int):St:=
 { env:=envOf 147 [(3,vP 3),(5,vI 4),(6,vI a)],boxes:=[(3,[.sl .free 5 A,.sl .free 5 C,.sl .free 5 E,.sl .free 4 F,.sl .free 1 G,.sl .free 1 H,.sl .free 1 J,.sl .free 2 K])] }
def qgS(q:Bool):St:=
 { env:=envOf 147 [(4,.al (.one (.sb q)))],boxes:=[] }
theorem qAW(h:Oo [.b (decide (a<(A.length:Int))) true,.p (0≤a),.p (a<(A.length:Int)),.e A a.toNat (ri b c d e f),.b (b != 0) true]):
 Tp (qaa Tryz.f187 0) (qb2 E F A G H J K C a) .ret (qgS false):=
 h.lp [4] []
theorem qAX(h:Oo [.b (decide (a<(A.length:Int))) true,.p (0≤a),.p (a<(A.length:Int)),.e A a.toNat (ri b d e f g),.b (b != 0) false,.p (0≤a),.p (a<(A.length:Int)),.e A a.toNat (ri i j c k l),.b (c != 0) true]):
 Tp (qaa Tryz.f187 0) (qb2 E F A G H J K C a) .ret (qgS false):=
 h.lp [4] []
theorem qAY(h:Oo [.b (decide (a<(A.length:Int))) true,.p (0≤a),.p (a<(A.length:Int)),.e A a.toNat (ri b f g i j),.b (b != 0) false,.p (0≤a),.p (a<(A.length:Int)),.e A a.toNat (ri k l c m n),.b (c != 0) false,.b (decide (a>0)) true,.v (a-1),.p (0≤a-1),.p (a-1<(A.length:Int)),.e A ((a-1).toNat) (ri o d p a0 b0),.p (0≤a),.p (a<(A.length:Int)),.e A a.toNat (ri c0 e d0 e0 f0),.b (decide (d>e)) true]):
 Tp (qaa Tryz.f187 0) (qb2 E F A G H J K C a) .ret (qgS false):=
 h.lp [4] []
theorem qAZ(h:Oo [.b (decide (a<(A.length:Int))) true,.p (0≤a),.p (a<(A.length:Int)),.e A a.toNat (ri b f g i j),.b (b != 0) false,.p (0≤a),.p (a<(A.length:Int)),.e A a.toNat (ri k l c m n),.b (c != 0) false,.b (decide (a>0)) true,.v (a-1),.p (0≤a-1),.p (a-1<(A.length:Int)),.e A ((a-1).toNat) (ri o d p a0 b0),.p (0≤a),.p (a<(A.length:Int)),.e A a.toNat (ri c0 e d0 e0 f0),.b (decide (d>e)) false,.u a]):
 Tp (qaa Tryz.f187 0) (qb2 E F A G H J K C a) .normal (qb2 E F A G H J K C (a+1)):=
 h.lp [6,3,5] [3]
theorem qA0(h:Oo [.b (decide (a<(A.length:Int))) true,.p (0≤a),.p (a<(A.length:Int)),.e A a.toNat (ri b d e f g),.b (b != 0) false,.p (0≤a),.p (a<(A.length:Int)),.e A a.toNat (ri i j c k l),.b (c != 0) false,.b (decide (a>0)) false,.u a]):
 Tp (qaa Tryz.f187 0) (qb2 E F A G H J K C a) .normal (qb2 E F A G H J K C (a+1)):=
 h.lp [6,3,5] [3]
def qgT(A C E F G H J K:LL):St:=
 { env:=envOf 147 [(3,vP 3),(5,vI 4)],boxes:=[(3,[.sl .free 5 A,.sl .free 5 C,.sl .free 5 E,.sl .free 4 F,.sl .free 1 G,.sl .free 1 H,.sl .free 1 J,.sl .free 2 K])] }
theorem qA1(h:Oo [.b (decide (a<(A.length:Int))) false]):
 Tp (qaa Tryz.f187 0) (qb2 E F A G H J K C a) (.exit 0) (qgT E F A G H J K C):=
 h.lp [5,3] [3]
theorem qA2(h:Oo [.r 189 [.agg (gr A a b),cS 5 C] [cB q],.n q false,.r 189 [.agg (gr A a b),cS 5 E] [cB r],.n r false,.r 189 [.agg (gr A a b),cS 5 F] [cB s],.n s false,.r 227 [cS 4 G] [cB t],.n t false,.b ((H.length:Int) != 4) false,.b ((J.length:Int) != 4) false,.b ((K.length:Int) != 4) false,.l [] [6,3,5] [3] (qaa Tryz.f187 0) (qb2 C E F G H J K L 0) .ret (qgS u)]):
 Rt 187 [.agg (gr A a b),.agg (wk C E F G H J K L)] [cB u]:=
 h.of
def qdP(A C E F G H J K:LL)(a:Int):St:=
 { env:=envOf 147 [(3,vP 3),(5,vI 4),(7,vI a)],boxes:=[(3,[.sl .free 5 A,.sl .free 5 C,.sl .free 5 E,.sl .free 4 F,.sl .free 1 G,.sl .free 1 H,.sl .free 1 J,.sl .free 2 K])] }
def qkr(q:Bool):St:=
 { env:=envOf 147 [(4,.al (.one (.sb q)))],boxes:=[] }
theorem qA3(h:Oo [.b (decide (a<4)) true,.p (0≤a),.p (a<(A.length:Int)),.e A a.toNat [I b],.r 137 [cI b,cI (-1000000),cI 1000000] [cB q],.n q true]):
 Tp (qaa Tryz.f187 1) (qdP E F G H A J K C a) .ret (qkr false):=
 h.lp [4] []
theorem qA4(h:Oo [.b (decide (a<4)) true,.p (0≤a),.p (a<(A.length:Int)),.e A a.toNat [I b],.r 137 [cI b,cI (-1000000),cI 1000000] [cB q],.n q false,.u a]):
 Tp (qaa Tryz.f187 1) (qdP E F G H A J K C a) .normal (qdP E F G H A J K C (a+1)):=
 h.lp [7,5,3] [3]
def qks(A C E F G H J K:LL):St:=
 { env:=envOf 147 [(3,vP 3)],boxes:=[(3,[.sl .free 5 A,.sl .free 5 C,.sl .free 5 E,.sl .free 4 F,.sl .free 1 G,.sl .free 1 H,.sl .free 1 J,.sl .free 2 K])] }
theorem qA5(h:Oo [.b (decide (a<4)) false]):
 Tp (qaa Tryz.f187 1) (qdP C E F G H J K A a) (.exit 2) (qks C E F G H J K A):=
 h.lp [3] [3]
theorem qA6(h:Oo [.r 189 [.agg (gr K a b),cS 5 A] [cB q],.n q false,.r 189 [.agg (gr K a b),cS 5 C] [cB r],.n r false,.r 189 [.agg (gr K a b),cS 5 E] [cB s],.n s false,.r 227 [cS 4 F] [cB t],.n t false,.b ((G.length:Int) != 4) false,.b ((H.length:Int) != 4) false,.b ((J.length:Int) != 4) false,.l [] [6,3,5] [3] (qaa Tryz.f187 0) (qb2 A C E F G H J L 0) (.exit 0) (qgT A C E F G H J L),.l [] [7,5,3] [3] (qaa Tryz.f187 1) (qdP A C E F G H J L 0) .ret (qkr u)]):
 Rt 187 [.agg (gr K a b),.agg (wk A C E F G H J L)] [cB u]:=
 h.of
def qc6(A C E F G H J K:LL)(a:Int):St:=
 { env:=envOf 147 [(3,vP 3),(8,vI a)],boxes:=[(3,[.sl .free 5 A,.sl .free 5 C,.sl .free 5 E,.sl .free 4 F,.sl .free 1 G,.sl .free 1 H,.sl .free 1 J,.sl .free 2 K])] }
def qib(q:Bool):St:=
 { env:=envOf 147 [(4,.al (.one (.sb q)))],boxes:=[] }
theorem qA7(h:Oo [.b (decide (a<(A.length:Int))) true,.p (0≤a),.p (a<(A.length:Int)),.e A a.toNat [I b,B r],.r 137 [cI b,cI 0,cI 3] [cB q],.n q true]):
 Tp (qaa Tryz.f187 2) (qc6 C E F G H J K A a) .ret (qib false):=
 h.lp [4] []
def qdr(A C E F G H J K:LL)(a b:Int):St:=
 { env:=envOf 147 [(3,vP 3),(8,vI a),(9,vI b)],boxes:=[(3,[.sl .free 5 A,.sl .free 5 C,.sl .free 5 E,.sl .free 4 F,.sl .free 1 G,.sl .free 1 H,.sl .free 1 J,.sl .free 2 K])] }
def qic(q:Bool):St:=
 { env:=envOf 147 [(4,.al (.one (.sb q)))],boxes:=[] }
theorem qA8(h:Oo [.b (decide (b<a)) true,.p (0≤b),.p (b<(A.length:Int)),.e A b.toNat [I c,B q],.p (0≤a),.p (a<(A.length:Int)),.e A a.toNat [I d,B r],.b (c==d) true]):
 Tp (qaa Tryz.f187 3) (qdr C E F G H J K A a b) .ret (qic false):=
 h.lp [4] []
theorem qA9(h:Oo [.b (decide (a<b)) true,.p (0≤a),.p (a<(A.length:Int)),.e A a.toNat [I c,B q],.p (0≤b),.p (b<(A.length:Int)),.e A b.toNat [I d,B r],.b (c==d) false,.u a]):
 Tp (qaa Tryz.f187 3) (qdr C E F G H J K A b a) .normal (qdr C E F G H J K A b (a+1)):=
 h.lp [9,8,3] [3]
def qkt(A C E F G H J K:LL)(a:Int):St:=
 { env:=envOf 147 [(3,vP 3),(8,vI a)],boxes:=[(3,[.sl .free 5 A,.sl .free 5 C,.sl .free 5 E,.sl .free 4 F,.sl .free 1 G,.sl .free 1 H,.sl .free 1 J,.sl .free 2 K])] }
theorem qBa(h:Oo [.b (decide (b<a)) false]):
 Tp (qaa Tryz.f187 3) (qdr C E F G H J K A a b) (.exit 6) (qkt C E F G H J K A a):=
 h.lp [8,3] [3]
theorem qBb(h:Oo [.b (decide (a<(A.length:Int))) true,.p (0≤a),.p (a<(A.length:Int)),.e A a.toNat [I b,B s],.r 137 [cI b,cI 0,cI 3] [cB q],.n q false,.l [] [9,8,3] [3] (qaa Tryz.f187 3) (qdr C E F G H J K A a 0) .ret (qic r)]):
 Tp (qaa Tryz.f187 2) (qc6 C E F G H J K A a) .ret (qib r):=
 h.lp [4] []
theorem qBc(h:Oo [.b (decide (a<(A.length:Int))) true,.p (0≤a),.p (a<(A.length:Int)),.e A a.toNat [I b,B r],.r 137 [cI b,cI 0,cI 3] [cB q],.n q false,.l [] [9,8,3] [3] (qaa Tryz.f187 3) (qdr C E F G H J K A a 0) (.exit 6) (qkt C E F G H J K A a),.u a]):
 Tp (qaa Tryz.f187 2) (qc6 C E F G H J K A a) .normal (qc6 C E F G H J K A (a+1)):=
 h.lp [8,3] [3]
def qku:St:=
 { env:=envOf 147 [],boxes:=[] }
theorem qBd(h:Oo [.b (decide (a<(A.length:Int))) false]):
 Tp (qaa Tryz.f187 2) (qc6 C E F G H J K A a) (.exit 4) qku:=
 h.lp [] []
theorem qBe(h:Oo [.r 189 [.agg (gr L a b),cS 5 A] [cB q],.n q false,.r 189 [.agg (gr L a b),cS 5 C] [cB r],.n r false,.r 189 [.agg (gr L a b),cS 5 E] [cB s],.n s false,.r 227 [cS 4 F] [cB t],.n t false,.b ((G.length:Int) != 4) false,.b ((H.length:Int) != 4) false,.b ((J.length:Int) != 4) false,.l [] [6,3,5] [3] (qaa Tryz.f187 0) (qb2 A C E F G H J K 0) (.exit 0) (qgT A C E F G H J K),.l [] [7,5,3] [3] (qaa Tryz.f187 1) (qdP A C E F G H J K 0) (.exit 2) (qks A C E F G H J K),.l [] [8,3] [3] (qaa Tryz.f187 2) (qc6 A C E F G H J K 0) .ret (qib u)]):
 Rt 187 [.agg (gr L a b),.agg (wk A C E F G H J K)] [cB u]:=
 h.of
theorem qBf(h:Oo [.r 189 [.agg (gr L a b),cS 5 A] [cB q],.n q false,.r 189 [.agg (gr L a b),cS 5 C] [cB r],.n r false,.r 189 [.agg (gr L a b),cS 5 E] [cB s],.n s false,.r 227 [cS 4 F] [cB t],.n t false,.b ((G.length:Int) != 4) false,.b ((H.length:Int) != 4) false,.b ((J.length:Int) != 4) false,.l [] [6,3,5] [3] (qaa Tryz.f187 0) (qb2 A C E F G H J K 0) (.exit 0) (qgT A C E F G H J K),.l [] [7,5,3] [3] (qaa Tryz.f187 1) (qdP A C E F G H J K 0) (.exit 2) (qks A C E F G H J K),.l [] [8,3] [3] (qaa Tryz.f187 2) (qc6 A C E F G H J K 0) (.exit 4) qku]):
 Rt 187 [.agg (gr L a b),.agg (wk A C E F G H J K)] [cB true]:=
 h.of
theorem qBg(h:Oo [.r 125 [.agg (gr A a b),cS 5 C] [cB q],.n q true]):
 Rt 123 [.agg (gr A a b),.agg (wk C F G H J K L E)] [cB false]:=
 h.of
theorem qBh(h:Oo [.r 125 [.agg (gr A a b),cS 5 C] [cB q],.n q false,.r 125 [.agg (gr A a b),cS 5 E] [cB r],.n r true]):
 Rt 123 [.agg (gr A a b),.agg (wk C E G H J K L F)] [cB false]:=
 h.of
theorem qBi(h:Oo [.r 125 [.agg (gr A a b),cS 5 C] [cB q],.n q false,.r 125 [.agg (gr A a b),cS 5 E] [cB r],.n r false,.r 125 [.agg (gr A a b),cS 5 F] [cB s],.n s true]):
 Rt 123 [.agg (gr A a b),.agg (wk C E F H J K L G)] [cB false]:=
 h.of
theorem qBj(h:Oo [.r 125 [.agg (gr A a b),cS 5 C] [cB q],.n q false,.r 125 [.agg (gr A a b),cS 5 E] [cB r],.n r false,.r 125 [.agg (gr A a b),cS 5 F] [cB s],.n s false,.r 198 [cS 4 G] [cB t],.n t true]):
 Rt 123 [.agg (gr A a b),.agg (wk C E F G J K L H)] [cB false]:=
 h.of
def qbF(A:LL)(a:Int)(C E F G H J K L:LL):St:=
 { env:=envOf 121 [(3,vP 3),(37,vF 5 A),(38,vI (A.length:Int)),(39,vI a)],boxes:=[(3,[.sl .free 5 C,.sl .free 5 E,.sl .free 5 F,.sl .free 4 G,.sl .free 1 H,.sl .free 1 J,.sl .free 1 K,.sl .free 2 L])] }
def qgU(q:Bool):St:=
 { env:=envOf 121 [(4,.al (.one (.sb q)))],boxes:=[] }
theorem qBk(h:Oo [.b (decide (a<(A.length:Int))) true,.p (0≤a),.p (a<(A.length:Int)),.e A a.toNat (ri b c d e f),.b (b != 0) true]):
 Tp (qaa Tryz.f123 0) (qbF A a C E F G H J K L) .ret (qgU false):=
 h.lp [4] []
theorem qBl(h:Oo [.b (decide (a<(A.length:Int))) true,.p (0≤a),.p (a<(A.length:Int)),.e A a.toNat (ri b d c e f),.b (b != 0) false,.b (c != 0) true]):
 Tp (qaa Tryz.f123 0) (qbF A a C E F G H J K L) .ret (qgU false):=
 h.lp [4] []
theorem qBm(h:Oo [.b (decide (a<(A.length:Int))) true,.p (0≤a),.p (a<(A.length:Int)),.e A a.toNat (ri b c d f g),.b (b != 0) false,.b (d != 0) false,.b (decide (a>0)) true,.v (a-1),.p (0≤a-1),.p (a-1<(C.length:Int)),.e C ((a-1).toNat) (ri i e j k l),.b (decide (e>c)) true]):
 Tp (qaa Tryz.f123 0) (qbF A a E F C G H J K L) .ret (qgU false):=
 h.lp [4] []
theorem qBn(h:Oo [.b (decide (a<(A.length:Int))) true,.p (0≤a),.p (a<(A.length:Int)),.e A a.toNat (ri b c d f g),.b (b != 0) false,.b (d != 0) false,.b (decide (a>0)) true,.v (a-1),.p (0≤a-1),.p (a-1<(C.length:Int)),.e C ((a-1).toNat) (ri i e j k l),.b (decide (e>c)) false,.u a]):
 Tp (qaa Tryz.f123 0) (qbF A a E F C G H J K L) .normal (qbF A (a+1) E F C G H J K L):=
 h.lp [39,38,37,3] [3]
theorem qBo(h:Oo [.b (decide (a<(A.length:Int))) true,.p (0≤a),.p (a<(A.length:Int)),.e A a.toNat (ri b d c e f),.b (b != 0) false,.b (c != 0) false,.b (decide (a>0)) false,.u a]):
 Tp (qaa Tryz.f123 0) (qbF A a C E F G H J K L) .normal (qbF A (a+1) C E F G H J K L):=
 h.lp [39,38,37,3] [3]
def qdQ(A C E F G H J K:LL):St:=
 { env:=envOf 121 [(3,vP 3)],boxes:=[(3,[.sl .free 5 A,.sl .free 5 C,.sl .free 5 E,.sl .free 4 F,.sl .free 1 G,.sl .free 1 H,.sl .free 1 J,.sl .free 2 K])] }
theorem qBp(h:Oo [.b (decide (a<(L.length:Int))) false]):
 Tp (qaa Tryz.f123 0) (qbF L a A C E F G H J K) (.exit 0) (qdQ A C E F G H J K):=
 h.lp [3] [3]
theorem qBq(h:Oo [.r 125 [.agg (gr A a b),cS 5 E] [cB q],.n q false,.r 125 [.agg (gr A a b),cS 5 F] [cB r],.n r false,.r 125 [.agg (gr A a b),cS 5 C] [cB s],.n s false,.r 198 [cS 4 G] [cB t],.n t false,.l [] [39,38,37,3] [3] (qaa Tryz.f123 0) (qbF C 0 E F C G J K L H) .ret (qgU u)]):
 Rt 123 [.agg (gr A a b),.agg (wk E F C G J K L H)] [cB u]:=
 h.of
theorem qBr(h:Oo [.r 125 [.agg (gr A a b),cS 5 E] [cB q],.n q false,.r 125 [.agg (gr A a b),cS 5 F] [cB r],.n r false,.r 125 [.agg (gr A a b),cS 5 C] [cB s],.n s false,.r 198 [cS 4 G] [cB t],.n t false,.l [] [39,38,37,3] [3] (qaa Tryz.f123 0) (qbF C 0 E F C G K L M H) (.exit 0) (qdQ N P Q R J S U V),.b ((J.length:Int) != 4) true]):
 Rt 123 [.agg (gr A a b),.agg (wk E F C G K L M H)] [cB false]:=
 h.of
theorem qBs(h:Oo [.r 125 [.agg (gr A a b),cS 5 E] [cB q],.n q false,.r 125 [.agg (gr A a b),cS 5 F] [cB r],.n r false,.r 125 [.agg (gr A a b),cS 5 C] [cB s],.n s false,.r 198 [cS 4 G] [cB t],.n t false,.l [] [39,38,37,3] [3] (qaa Tryz.f123 0) (qbF C 0 E F C G L M N H) (.exit 0) (qdQ P Q R S J K U V),.b ((J.length:Int) != 4) false,.b ((K.length:Int) != 4) true]):
 Rt 123 [.agg (gr A a b),.agg (wk E F C G L M N H)] [cB false]:=
 h.of
theorem qBt(h:Oo [.r 125 [.agg (gr A a b),cS 5 E] [cB q],.n q false,.r 125 [.agg (gr A a b),cS 5 F] [cB r],.n r false,.r 125 [.agg (gr A a b),cS 5 C] [cB s],.n s false,.r 198 [cS 4 G] [cB t],.n t false,.l [] [39,38,37,3] [3] (qaa Tryz.f123 0) (qbF C 0 E F C G M N P H) (.exit 0) (qdQ Q R S U J K L V),.b ((J.length:Int) != 4) false,.b ((K.length:Int) != 4) false,.b ((L.length:Int) != 4) true]):
 Rt 123 [.agg (gr A a b),.agg (wk E F C G M N P H)] [cB false]:=
 h.of
def qdR(C E F G A H J K:LL)(a:Int):St:=
 { env:=envOf 121 [(3,vP 3),(89,vF 1 A),(90,vI (A.length:Int)),(91,vI a)],boxes:=[(3,[.sl .free 5 C,.sl .free 5 E,.sl .free 5 F,.sl .free 4 G,.sl .free 1 A,.sl .free 1 H,.sl .free 1 J,.sl .free 2 K])] }
def qkv(q:Bool):St:=
 { env:=envOf 121 [(4,.al (.one (.sb q)))],boxes:=[] }
theorem qBu(h:Oo [.b (decide (a<(A.length:Int))) true,.p (0≤a),.p (a<(A.length:Int)),.e A a.toNat [I b],.r 81 [cI b,cI (-1000000),cI 1000000] [cB q],.n q true]):
 Tp (qaa Tryz.f123 1) (qdR C E F G A H J K a) .ret (qkv false):=
 h.lp [4] []
theorem qBv(h:Oo [.b (decide (a<(A.length:Int))) true,.p (0≤a),.p (a<(A.length:Int)),.e A a.toNat [I b],.r 81 [cI b,cI (-1000000),cI 1000000] [cB q],.n q false,.u a]):
 Tp (qaa Tryz.f123 1) (qdR C E F G A H J K a) .normal (qdR C E F G A H J K (a+1)):=
 h.lp [91,90,89,3] [3]
def qkw(A C E F G H J K:LL):St:=
 { env:=envOf 121 [(3,vP 3)],boxes:=[(3,[.sl .free 5 A,.sl .free 5 C,.sl .free 5 E,.sl .free 4 F,.sl .free 1 G,.sl .free 1 H,.sl .free 1 J,.sl .free 2 K])] }
theorem qBw(h:Oo [.b (decide (a<(A.length:Int))) false]):
 Tp (qaa Tryz.f123 1) (qdR C E F G A H J K a) (.exit 2) (qkw C E F G A H J K):=
 h.lp [3] [3]
theorem qBx(h:Oo [.r 125 [.agg (gr A a b),cS 5 H] [cB q],.n q false,.r 125 [.agg (gr A a b),cS 5 J] [cB r],.n r false,.r 125 [.agg (gr A a b),cS 5 C] [cB s],.n s false,.r 198 [cS 4 K] [cB t],.n t false,.l [] [39,38,37,3] [3] (qaa Tryz.f123 0) (qbF C 0 H J C K S U V L) (.exit 0) (qdQ M N P Q E F G R),.b ((E.length:Int) != 4) false,.b ((F.length:Int) != 4) false,.b ((G.length:Int) != 4) false,.l [] [91,90,89,3] [3] (qaa Tryz.f123 1) (qdR M N P Q E F G R 0) .ret (qkv u)]):
 Rt 123 [.agg (gr A a b),.agg (wk H J C K S U V L)] [cB u]:=
 h.of
def qc7(A:LL)(a:Int)(C E F G H J K L:LL):St:=
 { env:=envOf 121 [(3,vP 3),(100,vF 2 A),(101,vI (A.length:Int)),(102,vI a)],boxes:=[(3,[.sl .free 5 C,.sl .free 5 E,.sl .free 5 F,.sl .free 4 G,.sl .free 1 H,.sl .free 1 J,.sl .free 1 K,.sl .free 2 L])] }
def qid(q:Bool):St:=
 { env:=envOf 121 [(4,.al (.one (.sb q)))],boxes:=[] }
theorem qBy(h:Oo [.b (decide (a<(A.length:Int))) true,.p (0≤a),.p (a<(A.length:Int)),.e A a.toNat [I b,B r],.r 81 [cI b,cI 0,cI 3] [cB q],.n q true]):
 Tp (qaa Tryz.f123 2) (qc7 A a C E F G H J K L) .ret (qid false):=
 h.lp [4] []
theorem qBz(h:Oo [.b (decide (a<(C.length:Int))) true,.p (0≤a),.p (a<(C.length:Int)),.e C a.toNat [I b,B s],.r 81 [cI b,cI 0,cI 3] [cB q],.n q false,.p ((0:Int)≤none.getD 0),.p (none.getD 0≤(some a).getD (A.length:Int)),.p ((some a).getD (A.length:Int)≤(A.length:Int)),.r 126 [.one (.sl 2 (List.take (((some a).getD (A.length:Int)).toNat-0) (List.drop 0 A))),cI b] [cB r],.b r true]):
 Tp (qaa Tryz.f123 2) (qc7 C a E F G H J K L A) .ret (qid false):=
 h.lp [4] []
theorem qBA(h:Oo [.b (decide (a<(C.length:Int))) true,.p (0≤a),.p (a<(C.length:Int)),.e C a.toNat [I b,B s],.r 81 [cI b,cI 0,cI 3] [cB q],.n q false,.p ((0:Int)≤none.getD 0),.p (none.getD 0≤(some a).getD (A.length:Int)),.p ((some a).getD (A.length:Int)≤(A.length:Int)),.r 126 [.one (.sl 2 (List.take (((some a).getD (A.length:Int)).toNat-0) (List.drop 0 A))),cI b] [cB r],.b r false,.u a]):
 Tp (qaa Tryz.f123 2) (qc7 C a E F G H J K L A) .normal (qc7 C (a+1) E F G H J K L A):=
 h.lp [102,101,100,3] [3]
def qkx:St:=
 { env:=envOf 121 [],boxes:=[] }
theorem qBB(h:Oo [.b (decide (a<(A.length:Int))) false]):
 Tp (qaa Tryz.f123 2) (qc7 A a C E F G H J K L) (.exit 4) qkx:=
 h.lp [] []
theorem qBC(h:Oo [.r 125 [.agg (gr G a b),cS 5 N] [cB q],.n q false,.r 125 [.agg (gr G a b),cS 5 P] [cB r],.n r false,.r 125 [.agg (gr G a b),cS 5 M] [cB s],.n s false,.r 198 [cS 4 Q] [cB t],.n t false,.l [] [39,38,37,3] [3] (qaa Tryz.f123 0) (qbF M 0 N P M Q S U V R) (.exit 0) (qdQ H J K L A C E F),.b ((A.length:Int) != 4) false,.b ((C.length:Int) != 4) false,.b ((E.length:Int) != 4) false,.l [] [91,90,89,3] [3] (qaa Tryz.f123 1) (qdR H J K L A C E F 0) (.exit 2) (qkw H J K L A C E F),.l [] [102,101,100,3] [3] (qaa Tryz.f123 2) (qc7 F 0 H J K L A C E F) .ret (qid u)]):
 Rt 123 [.agg (gr G a b),.agg (wk N P M Q S U V R)] [cB u]:=
 h.of
theorem qBD(h:Oo [.r 125 [.agg (gr G a b),cS 5 N] [cB q],.n q false,.r 125 [.agg (gr G a b),cS 5 P] [cB r],.n r false,.r 125 [.agg (gr G a b),cS 5 M] [cB s],.n s false,.r 198 [cS 4 Q] [cB t],.n t false,.l [] [39,38,37,3] [3] (qaa Tryz.f123 0) (qbF M 0 N P M Q S U V R) (.exit 0) (qdQ H J K L A C E F),.b ((A.length:Int) != 4) false,.b ((C.length:Int) != 4) false,.b ((E.length:Int) != 4) false,.l [] [91,90,89,3] [3] (qaa Tryz.f123 1) (qdR H J K L A C E F 0) (.exit 2) (qkw H J K L A C E F),.l [] [102,101,100,3] [3] (qaa Tryz.f123 2) (qc7 F 0 H J K L A C E F) (.exit 4) qkx]):
 Rt 123 [.agg (gr G a b),.agg (wk N P M Q S U V R)] [cB true]:=
 h.of
def qcn(a:Int)(A:LL)(b c d e f:Int):St:=
 { env:=envOf 70 [(1,vP 1),(3,vI f)],boxes:=[(1,[lI a,.sl .free 5 A,lI b,lI c,lI d,lI e])] }
def qky(q:Bool):St:=
 { env:=envOf 70 [(2,.al (.one (.sb q)))],boxes:=[] }
theorem qBE(h:Oo [.b (decide (a<(A.length:Int))) true,.p (0≤a),.p (a<(A.length:Int)),.e A a.toNat (ri d e f b c),.r 164 [.agg (ri d e f b c)] [cB q],.n q true]):
 Tp (qaa Tryz.f188 0) (qcn g A i j k l a) .ret (qky false):=
 h.lp [2] []
theorem qBF(h:Oo [.b (decide (a<(A.length:Int))) true,.p (0≤a),.p (a<(A.length:Int)),.e A a.toNat (ri j k l c d),.r 164 [.agg (ri j k l c d)] [cB q],.n q false,.u a]):
 Tp (qaa Tryz.f188 0) (qcn b A e f g i a) .normal (qcn b A e f g i (a+1)):=
 h.lp [3,1] [1]
def qdS(a:Int)(A:LL)(b c d e:Int):St:=
 { env:=envOf 70 [(1,vP 1)],boxes:=[(1,[lI a,.sl .free 5 A,lI b,lI c,lI d,lI e])] }
theorem qBG(h:Oo [.b (decide (f<(A.length:Int))) false]):
 Tp (qaa Tryz.f188 0) (qcn a A b c d e f) (.exit 0) (qdS a A b c d e):=
 h.lp [1] [1]
theorem qBH(h:Oo [.l [] [3,1] [1] (qaa Tryz.f188 0) (qcn a A b c d e 0) .ret (qky q)]):
 Rt 188 [.agg (lk a A b c d e)] [cB q]:=
 h.of
theorem qBI(h:Oo [.l [] [3,1] [1] (qaa Tryz.f188 0) (qcn a A b c d e 0) (.exit 0) (qdS a A b c d e),.r 137 [cI a,cI 1,cI 4] [cB q],.b q true,.r 137 [cI b,cI 0,cI a] [cB r],.b r true,.r 137 [cI c,cI 0,cI a] [cB s],.b s true,.v (b+c),.v (b+c+(A.length:Int)),.b (b+c+(A.length:Int)==a) true,.r 137 [cI d,cI 0,cI 1000000000] [cB t],.b t true,.v (d-(A.length:Int)),.b (e==d-(A.length:Int)) true]):
 Rt 188 [.agg (lk a A b c d e)] [cB (decide (e≥0))]:=
 h.of
theorem qBJ(h:Oo [.l [] [3,1] [1] (qaa Tryz.f188 0) (qcn a A b c d e 0) (.exit 0) (qdS a A b c d e),.r 137 [cI a,cI 1,cI 4] [cB q],.b q true,.r 137 [cI b,cI 0,cI a] [cB r],.b r true,.r 137 [cI c,cI 0,cI a] [cB s],.b s true,.v (b+c),.v (b+c+(A.length:Int)),.b (b+c+(A.length:Int)==a) true,.r 137 [cI d,cI 0,cI 1000000000] [cB t],.b t true,.v (d-(A.length:Int)),.b (e==d-(A.length:Int)) false]):
 Rt 188 [.agg (lk a A b c d e)] [cB false]:=
 h.of
theorem qBK(h:Oo [.l [] [3,1] [1] (qaa Tryz.f188 0) (qcn a A b c d e 0) (.exit 0) (qdS a A b c d e),.r 137 [cI a,cI 1,cI 4] [cB q],.b q true,.r 137 [cI b,cI 0,cI a] [cB r],.b r true,.r 137 [cI c,cI 0,cI a] [cB s],.b s true,.v (b+c),.v (b+c+(A.length:Int)),.b (b+c+(A.length:Int)==a) true,.r 137 [cI d,cI 0,cI 1000000000] [cB t],.b t false]):
 Rt 188 [.agg (lk a A b c d e)] [cB false]:=
 h.of
theorem qBL(h:Oo [.l [] [3,1] [1] (qaa Tryz.f188 0) (qcn a A b c d e 0) (.exit 0) (qdS a A b c d e),.r 137 [cI a,cI 1,cI 4] [cB q],.b q true,.r 137 [cI b,cI 0,cI a] [cB r],.b r true,.r 137 [cI c,cI 0,cI a] [cB s],.b s true,.v (b+c),.v (b+c+(A.length:Int)),.b (b+c+(A.length:Int)==a) false]):
 Rt 188 [.agg (lk a A b c d e)] [cB false]:=
 h.of
theorem qBM(h:Oo [.l [] [3,1] [1] (qaa Tryz.f188 0) (qcn a A b c d e 0) (.exit 0) (qdS a A b c d e),.r 137 [cI a,cI 1,cI 4] [cB q],.b q true,.r 137 [cI b,cI 0,cI a] [cB r],.b r true,.r 137 [cI c,cI 0,cI a] [cB s],.b s false]):
 Rt 188 [.agg (lk a A b c d e)] [cB false]:=
 h.of
theorem qBN(h:Oo [.l [] [3,1] [1] (qaa Tryz.f188 0) (qcn a A b c d e 0) (.exit 0) (qdS a A b c d e),.r 137 [cI a,cI 1,cI 4] [cB q],.b q true,.r 137 [cI b,cI 0,cI a] [cB r],.b r false]):
 Rt 188 [.agg (lk a A b c d e)] [cB false]:=
 h.of
theorem qBO(h:Oo [.l [] [3,1] [1] (qaa Tryz.f188 0) (qcn a A b c d e 0) (.exit 0) (qdS a A b c d e),.r 137 [cI a,cI 1,cI 4] [cB q],.b q false]):
 Rt 188 [.agg (lk a A b c d e)] [cB false]:=
 h.of
theorem qBP(h:Oo [.r 81 [cI a,cI 1,cI 4] [cB q],.n q true]):
 Rt 124 [.agg (lk a A b c d e)] [cB false]:=
 h.of
theorem qBQ(h:Oo [.r 81 [cI a,cI 1,cI 4] [cB q],.n q false,.r 81 [cI b,cI 0,cI a] [cB r],.n r true]):
 Rt 124 [.agg (lk a A b c d e)] [cB false]:=
 h.of
theorem qBR(h:Oo [.r 81 [cI a,cI 1,cI 4] [cB q],.n q false,.r 81 [cI b,cI 0,cI a] [cB r],.n r false,.r 81 [cI c,cI 0,cI a] [cB s],.n s true]):
 Rt 124 [.agg (lk a A b c d e)] [cB false]:=
 h.of
theorem qBS(h:Oo [.r 81 [cI a,cI 1,cI 4] [cB q],.n q false,.r 81 [cI b,cI 0,cI a] [cB r],.n r false,.r 81 [cI c,cI 0,cI a] [cB s],.n s false,.v (b+c),.v (b+c+(A.length:Int)),.b (b+c+(A.length:Int) != a) true]):
 Rt 124 [.agg (lk a A b c d e)] [cB false]:=
 h.of
theorem qBT(h:Oo [.r 81 [cI a,cI 1,cI 4] [cB q],.n q false,.r 81 [cI b,cI 0,cI a] [cB r],.n r false,.r 81 [cI c,cI 0,cI a] [cB s],.n s false,.v (b+c),.v (b+c+(A.length:Int)),.b (b+c+(A.length:Int) != a) false,.r 81 [cI d,cI 0,cI 1000000000] [cB t],.n t true]):
 Rt 124 [.agg (lk a A b c d e)] [cB false]:=
 h.of
theorem qBU(h:Oo [.r 81 [cI a,cI 1,cI 4] [cB q],.n q false,.r 81 [cI b,cI 0,cI a] [cB r],.n r false,.r 81 [cI c,cI 0,cI a] [cB s],.n s false,.v (b+c),.v (b+c+(A.length:Int)),.b (b+c+(A.length:Int) != a) false,.r 81 [cI d,cI 0,cI 1000000000] [cB t],.n t false,.b (decide (e<0)) true]):
 Rt 124 [.agg (lk a A b c d e)] [cB false]:=
 h.of
theorem qBV(h:Oo [.r 81 [cI a,cI 1,cI 4] [cB q],.n q false,.r 81 [cI b,cI 0,cI a] [cB r],.n r false,.r 81 [cI c,cI 0,cI a] [cB s],.n s false,.v (b+c),.v (b+c+(A.length:Int)),.b (b+c+(A.length:Int) != a) false,.r 81 [cI d,cI 0,cI 1000000000] [cB t],.n t false,.b (decide (e<0)) false,.v (d-e),.b (d-e != (A.length:Int)) true]):
 Rt 124 [.agg (lk a A b c d e)] [cB false]:=
 h.of
theorem qBW(h:Oo [.r 81 [cI a,cI 1,cI 4] [cB r],.n r false,.r 81 [cI b,cI 0,cI a] [cB s],.n s false,.r 81 [cI c,cI 0,cI a] [cB t],.n t false,.v (b+c),.v (b+c+(A.length:Int)),.b (b+c+(A.length:Int) != a) false,.r 81 [cI d,cI 0,cI 1000000000] [cB u],.n u false,.b (decide (e<0)) false,.v (d-e),.b (d-e != (A.length:Int)) false,.r 199 [cS 5 A] [cB q]]):
 Rt 124 [.agg (lk a A b c d e)] [cB q]:=
 h.of
def qeO(A:LL)(a:Int):St:=
 { env:=envOf 15 [(5,vF 5 A),(6,vI (A.length:Int)),(7,vI a)],boxes:=[] }
def qkz(q:Bool):St:=
 { env:=envOf 15 [(2,.al (.one (.sb q)))],boxes:=[] }
theorem qBX(h:Oo [.b (decide (a<(A.length:Int))) true,.p (0≤a),.p (a<(A.length:Int)),.e A a.toNat (ri b c d e f),.r 173 [.agg (ri b c d e f)] [cB q],.n q true]):
 Tp (qaa Tryz.f199 0) (qeO A a) .ret (qkz false):=
 h.lp [2] []
theorem qBY(h:Oo [.b (decide (a<(A.length:Int))) true,.p (0≤a),.p (a<(A.length:Int)),.e A a.toNat (ri b c d e f),.r 173 [.agg (ri b c d e f)] [cB q],.n q false,.u a]):
 Tp (qaa Tryz.f199 0) (qeO A a) .normal (qeO A (a+1)):=
 h.lp [7,6,5] []
def qoI:St:=
 { env:=envOf 15 [],boxes:=[] }
theorem qBZ(h:Oo [.b (decide (a<(A.length:Int))) false]):
 Tp (qaa Tryz.f199 0) (qeO A a) (.exit 0) qoI:=
 h.lp [] []
theorem qB0(h:Oo [.l [] [7,6,5] [] (qaa Tryz.f199 0) (qeO A 0) .ret (qkz q)]):
 Rt 199 [cS 5 A] [cB q]:=
 h.of
theorem qB1(h:Oo [.l [] [7,6,5] [] (qaa Tryz.f199 0) (qeO A 0) (.exit 0) qoI]):
 Rt 199 [cS 5 A] [cB true]:=
 h.of
theorem qB2(h:Oo [.r 163 [.agg (gr A a b)] [cB q],.n q true]):
 Rt 113 [.agg (cl A a b C E F G)] [cB false]:=
 h.of
theorem qB3(h:Oo [.r 163 [.agg (gr A a b)] [cB q],.n q false,.b ((C.length:Int) != a) true]):
 Rt 113 [.agg (cl A a b C E F G)] [cB false]:=
 h.of
theorem qB4(h:Oo [.r 163 [.agg (gr A a b)] [cB q],.n q false,.b ((C.length:Int) != a) false,.v (a*a),.b ((E.length:Int) != a*a) true]):
 Rt 113 [.agg (cl A a b C E F G)] [cB false]:=
 h.of
theorem qB5(h:Oo [.r 163 [.agg (gr A a b)] [cB q],.n q false,.b ((C.length:Int) != a) false,.v (a*a),.b ((E.length:Int) != a*a) false,.b ((F.length:Int) != 4) true]):
 Rt 113 [.agg (cl A a b C E F G)] [cB false]:=
 h.of
def qcA(A:LL)(a b:Int)(C E F G:LL)(c:Int):St:=
 { env:=envOf 170 [(1,vP 1),(3,vI a),(4,vI c)],boxes:=[(1,[.sl .free 4 A,lI a,lI b,.sl .free 8 C,.sl .free 6 E,.sl .free 5 F,.sl .free 3 G])] }
def qie(q:Bool):St:=
 { env:=envOf 170 [(2,.al (.one (.sb q)))],boxes:=[] }
theorem qB6(h:Oo [.b (decide (a<b)) true,.p (0≤a),.p (a<(A.length:Int)),.e A a.toNat (wk M E F G H J K L),.r 187 [.agg (gr C b c),.agg (wk M E F G H J K L)] [cB q],.n q true]):
 Tp (qaa Tryz.f113 0) (qcA C b c A N P Q a) .ret (qie false):=
 h.lp [2] []
theorem qB7(h:Oo [.b (decide (a<b)) true,.p (0≤a),.p (a<(A.length:Int)),.e A a.toNat (wk Q E F G H J K L),.r 187 [.agg (gr C b c),.agg (wk Q E F G H J K L)] [cB q],.n q false,.u a]):
 Tp (qaa Tryz.f113 0) (qcA C b c A M N P a) .normal (qcA C b c A M N P (a+1)):=
 h.lp [4,3,1] [1]
def qfU(A:LL)(a b:Int)(C E F G:LL):St:=
 { env:=envOf 170 [(1,vP 1),(3,vI a)],boxes:=[(1,[.sl .free 4 A,lI a,lI b,.sl .free 8 C,.sl .free 6 E,.sl .free 5 F,.sl .free 3 G])] }
theorem qB8(h:Oo [.b (decide (c<a)) false]):
 Tp (qaa Tryz.f113 0) (qcA A a b C E F G c) (.exit 0) (qfU A a b C E F G):=
 h.lp [1,3] [1]
theorem qB9(h:Oo [.r 163 [.agg (gr A a b)] [cB q],.n q false,.b ((C.length:Int) != a) false,.v (a*a),.b ((E.length:Int) != a*a) false,.b ((F.length:Int) != 4) false,.l [] [4,3,1] [1] (qaa Tryz.f113 0) (qcA A a b C E F G 0) .ret (qie r)]):
 Rt 113 [.agg (cl A a b C E F G)] [cB r]:=
 h.of
def qbT(a b:Int)(A:LL)(c d:Int)(C E F G:LL):St:=
 { env:=envOf 170 [(1,vP 1),(3,vI a),(5,vI b)],boxes:=[(1,[.sl .free 4 A,lI c,lI d,.sl .free 8 C,.sl .free 6 E,.sl .free 5 F,.sl .free 3 G])] }
def qfV(q:Bool):St:=
 { env:=envOf 170 [(2,.al (.one (.sb q)))],boxes:=[] }
theorem qCa(h:Oo [.b (decide (a<(A.length:Int))) true,.p (0≤a),.p (a<(A.length:Int)),.e A a.toNat (lk b C c d e f),.r 188 [.agg (lk b C c d e f)] [cB q],.n q true]):
 Tp (qaa Tryz.f113 1) (qbT g a H i j E A F G) .ret (qfV false):=
 h.lp [2] []
theorem qCb(h:Oo [.b (decide (a<(A.length:Int))) true,.p (0≤a),.p (a<(A.length:Int)),.e A a.toNat (lk b C d e f g),.r 188 [.agg (lk b C d e f g)] [cB q],.n q false,.b (b != c) true]):
 Tp (qaa Tryz.f113 1) (qbT i a H j c E A F G) .ret (qfV false):=
 h.lp [2] []
theorem qCc(h:Oo [.b (decide (a<(A.length:Int))) true,.p (0≤a),.p (a<(A.length:Int)),.e A a.toNat (lk c C e f g i),.r 188 [.agg (lk c C e f g i)] [cB q],.n q false,.b (c != b) false,.r 189 [.agg (gr E d b),cS 5 C] [cB r],.n r true]):
 Tp (qaa Tryz.f113 1) (qbT j a E d b F A G H) .ret (qfV false):=
 h.lp [2] []
theorem qCd(h:Oo [.b (decide (a<(A.length:Int))) true,.p (0≤a),.p (a<(A.length:Int)),.e A a.toNat (lk d C f g i j),.r 188 [.agg (lk d C f g i j)] [cB q],.n q false,.b (d != c) false,.r 189 [.agg (gr E e c),cS 5 C] [cB r],.n r false,.p (b≠0),.v (a.tdiv b),.p (b≠0),.b (a.tdiv b==a.tmod b) true,.b (decide ((C.length:Int)>0)) true]):
 Tp (qaa Tryz.f113 1) (qbT b a E e c F A G H) .ret (qfV false):=
 h.lp [2] []
theorem qCe(h:Oo [.b (decide (a<(A.length:Int))) true,.p (0≤a),.p (a<(A.length:Int)),.e A a.toNat (lk e C f g i j),.r 188 [.agg (lk e C f g i j)] [cB q],.n q false,.b (e != c) false,.r 189 [.agg (gr E d c),cS 5 C] [cB r],.n r false,.p (b≠0),.v (a.tdiv b),.p (b≠0),.b (a.tdiv b==a.tmod b) true,.b (decide ((C.length:Int)>0)) false,.u a]):
 Tp (qaa Tryz.f113 1) (qbT b a E d c F A G H) .normal (qbT b (a+1) E d c F A G H):=
 h.lp [5,1,3] [1]
theorem qCf(h:Oo [.b (decide (a<(A.length:Int))) true,.p (0≤a),.p (a<(A.length:Int)),.e A a.toNat (lk e C f g i j),.r 188 [.agg (lk e C f g i j)] [cB q],.n q false,.b (e != c) false,.r 189 [.agg (gr E d c),cS 5 C] [cB r],.n r false,.p (b≠0),.v (a.tdiv b),.p (b≠0),.b (a.tdiv b==a.tmod b) false,.u a]):
 Tp (qaa Tryz.f113 1) (qbT b a E d c F A G H) .normal (qbT b (a+1) E d c F A G H):=
 h.lp [5,1,3] [1]
def qgV(a:Int)(A:LL)(b c:Int)(C E F G:LL):St:=
 { env:=envOf 170 [(1,vP 1),(3,vI a)],boxes:=[(1,[.sl .free 4 A,lI b,lI c,.sl .free 8 C,.sl .free 6 E,.sl .free 5 F,.sl .free 3 G])] }
theorem qCg(h:Oo [.b (decide (d<(A.length:Int))) false]):
 Tp (qaa Tryz.f113 1) (qbT a d G b c C A E F) (.exit 2) (qgV a G b c C A E F):=
 h.lp [1,3] [1]
theorem qCh(h:Oo [.r 163 [.agg (gr A a b)] [cB q],.n q false,.b ((C.length:Int) != a) false,.v (a*a),.b ((E.length:Int) != a*a) false,.b ((F.length:Int) != 4) false,.l [] [4,3,1] [1] (qaa Tryz.f113 0) (qcA A a b C E F G 0) (.exit 0) (qfU A a b C E F G),.l [] [5,1,3] [1] (qaa Tryz.f113 1) (qbT a 0 A a b C E F G) .ret (qfV r)]):
 Rt 113 [.agg (cl A a b C E F G)] [cB r]:=
 h.of
def qb3(a:Int)(A:LL)(b c:Int)(C E F G:LL)(d:Int):St:=
 { env:=envOf 170 [(1,vP 1),(3,vI a),(7,vI d)],boxes:=[(1,[.sl .free 4 A,lI b,lI c,.sl .free 8 C,.sl .free 6 E,.sl .free 5 F,.sl .free 3 G])] }
def qeP(q:Bool):St:=
 { env:=envOf 170 [(2,.al (.one (.sb q)))],boxes:=[] }
theorem qCi(h:Oo [.b (decide (a<(A.length:Int))) true,.p (0≤a),.p (a<(A.length:Int)),.e A a.toNat [B r,I c,I e,B s,B t],.v (b-1),.r 137 [cI c,cI 0,cI (b-1)] [cB q],.n q true]):
 Tp (qaa Tryz.f113 2) (qb3 b G f d C E A F a) .ret (qeP false):=
 h.lp [2] []
theorem qCj(h:Oo [.b (decide (a<(A.length:Int))) true,.p (0≤a),.p (a<(A.length:Int)),.e A a.toNat [B s,I c,I f,B t,B u],.v (b-1),.r 137 [cI c,cI 0,cI (b-1)] [cB q],.n q false,.p (0≤a),.p (a<(A.length:Int)),.e A a.toNat [B r,I g,I i,B v,B w],.n r true,.p (0≤a),.p (a<(A.length:Int)),.e A a.toNat [B x,I d,I j,B y,B z],.b (d != 0) true]):
 Tp (qaa Tryz.f113 2) (qb3 b G k e C E A F a) .ret (qeP false):=
 h.lp [2] []
theorem qCk(h:Oo [.b (decide (a<(A.length:Int))) true,.p (0≤a),.p (a<(A.length:Int)),.e A a.toNat [B t,I c,I g,B u,B v],.v (b-1),.r 137 [cI c,cI 0,cI (b-1)] [cB q],.n q false,.p (0≤a),.p (a<(A.length:Int)),.e A a.toNat [B r,I i,I j,B w,B x],.n r true,.p (0≤a),.p (a<(A.length:Int)),.e A a.toNat [B y,I d,I k,B z,B q0],.b (d != 0) false,.p (0≤a),.p (a<(A.length:Int)),.e A a.toNat [B r0,I l,I e,B s0,B t0],.r 137 [cI e,cI (-1000000),cI 1000000] [cB s],.n s true]):
 Tp (qaa Tryz.f113 2) (qb3 b G m f C E A F a) .ret (qeP false):=
 h.lp [2] []
theorem qCl(h:Oo [.b (decide (a<(A.length:Int))) true,.p (0≤a),.p (a<(A.length:Int)),.e A a.toNat [B t,I d,I i,B u,B v],.v (b-1),.r 137 [cI d,cI 0,cI (b-1)] [cB q],.n q false,.p (0≤a),.p (a<(A.length:Int)),.e A a.toNat [B r,I j,I k,B w,B x],.n r true,.p (0≤a),.p (a<(A.length:Int)),.e A a.toNat [B y,I e,I l,B z,B q0],.b (e != 0) false,.p (0≤a),.p (a<(A.length:Int)),.e A a.toNat [B r0,I m,I f,B s0,B t0],.r 137 [cI f,cI (-1000000),cI 1000000] [cB s],.n s false,.u a]):
 Tp (qaa Tryz.f113 2) (qb3 b G g c C E A F a) .normal (qb3 b G g c C E A F (a+1)):=
 h.lp [7,1,3] [1]
theorem qCm(h:Oo [.b (decide (a<(A.length:Int))) true,.p (0≤a),.p (a<(A.length:Int)),.e A a.toNat [B t,I c,I f,B u,B v],.v (b-1),.r 137 [cI c,cI 0,cI (b-1)] [cB q],.n q false,.p (0≤a),.p (a<(A.length:Int)),.e A a.toNat [B r,I g,I i,B w,B x],.n r false,.p (0≤a),.p (a<(A.length:Int)),.e A a.toNat [B y,I j,I d,B z,B q0],.r 137 [cI d,cI (-1000000),cI 1000000] [cB s],.n s true]):
 Tp (qaa Tryz.f113 2) (qb3 b G k e C E A F a) .ret (qeP false):=
 h.lp [2] []
theorem qCn(h:Oo [.b (decide (a<(A.length:Int))) true,.p (0≤a),.p (a<(A.length:Int)),.e A a.toNat [B t,I d,I g,B u,B v],.v (b-1),.r 137 [cI d,cI 0,cI (b-1)] [cB q],.n q false,.p (0≤a),.p (a<(A.length:Int)),.e A a.toNat [B r,I i,I j,B w,B x],.n r false,.p (0≤a),.p (a<(A.length:Int)),.e A a.toNat [B y,I k,I e,B z,B q0],.r 137 [cI e,cI (-1000000),cI 1000000] [cB s],.n s false,.u a]):
 Tp (qaa Tryz.f113 2) (qb3 b G f c C E A F a) .normal (qb3 b G f c C E A F (a+1)):=
 h.lp [7,1,3] [1]
def qif(a:Int)(A:LL)(b c:Int)(C E F G:LL):St:=
 { env:=envOf 170 [(1,vP 1),(3,vI a)],boxes:=[(1,[.sl .free 4 A,lI b,lI c,.sl .free 8 C,.sl .free 6 E,.sl .free 5 F,.sl .free 3 G])] }
theorem qCo(h:Oo [.b (decide (c<(A.length:Int))) false]):
 Tp (qaa Tryz.f113 2) (qb3 a G d b C E A F c) (.exit 4) (qif a G d b C E A F):=
 h.lp [1,3] [1]
theorem qCp(h:Oo [.r 163 [.agg (gr A a b)] [cB r],.n r false,.b ((C.length:Int) != a) false,.v (a*a),.b ((E.length:Int) != a*a) false,.b ((F.length:Int) != 4) false,.l [] [4,3,1] [1] (qaa Tryz.f113 0) (qcA A a b C E F G 0) (.exit 0) (qfU A a b C E F G),.l [] [5,1,3] [1] (qaa Tryz.f113 1) (qbT a 0 A a b C E F G) (.exit 2) (qgV a M d c H J K L),.l [] [7,1,3] [1] (qaa Tryz.f113 2) (qb3 a M d c H J K L 0) .ret (qeP q)]):
 Rt 113 [.agg (cl A a b C E F G)] [cB q]:=
 h.of
def qc8(a:Int)(A:LL)(b c:Int)(C E F G:LL)(d:Int):St:=
 { env:=envOf 170 [(1,vP 1),(3,vI a),(8,vI d)],boxes:=[(1,[.sl .free 4 A,lI b,lI c,.sl .free 8 C,.sl .free 6 E,.sl .free 5 F,.sl .free 3 G])] }
def qgW(q:Bool):St:=
 { env:=envOf 170 [(2,.al (.one (.sb q)))],boxes:=[] }
theorem qCq(h:Oo [.b (decide (a<(A.length:Int))) true,.p (0≤a),.p (a<(A.length:Int)),.e A a.toNat [I c,I e,B r],.v (b-1),.r 137 [cI c,cI 0,cI (b-1)] [cB q],.n q true]):
 Tp (qaa Tryz.f113 3) (qc8 b G f d C E F A a) .ret (qgW false):=
 h.lp [2] []
theorem qCr(h:Oo [.b (decide (a<(A.length:Int))) true,.p (0≤a),.p (a<(A.length:Int)),.e A a.toNat [I c,I f,B s],.v (b-1),.r 137 [cI c,cI 0,cI (b-1)] [cB q],.n q false,.p (0≤a),.p (a<(A.length:Int)),.e A a.toNat [I g,I d,B t],.r 137 [cI d,cI 0,cI 3] [cB r],.n r true]):
 Tp (qaa Tryz.f113 3) (qc8 b G i e C E F A a) .ret (qgW false):=
 h.lp [2] []
theorem qCs(h:Oo [.b (decide (a<(A.length:Int))) true,.p (0≤a),.p (a<(A.length:Int)),.e A a.toNat [I d,I g,B s],.v (b-1),.r 137 [cI d,cI 0,cI (b-1)] [cB q],.n q false,.p (0≤a),.p (a<(A.length:Int)),.e A a.toNat [I i,I e,B t],.r 137 [cI e,cI 0,cI 3] [cB r],.n r false,.u a]):
 Tp (qaa Tryz.f113 3) (qc8 b G f c C E F A a) .normal (qc8 b G f c C E F A (a+1)):=
 h.lp [8,1,3] [1]
def qkA:St:=
 { env:=envOf 170 [],boxes:=[] }
theorem qCt(h:Oo [.b (decide (a<(A.length:Int))) false]):
 Tp (qaa Tryz.f113 3) (qc8 b G d c C E F A a) (.exit 6) qkA:=
 h.lp [] []
theorem qCu(h:Oo [.r 163 [.agg (gr A a b)] [cB r],.n r false,.b ((C.length:Int) != a) false,.v (a*a),.b ((E.length:Int) != a*a) false,.b ((F.length:Int) != 4) false,.l [] [4,3,1] [1] (qaa Tryz.f113 0) (qcA A a b C E F L 0) (.exit 0) (qfU A a b C E F L),.l [] [5,1,3] [1] (qaa Tryz.f113 1) (qbT a 0 A a b C E F L) (.exit 2) (qgV a M d c G H J K),.l [] [7,1,3] [1] (qaa Tryz.f113 2) (qb3 a M d c G H J K 0) (.exit 4) (qif a M d c G H J K),.l [] [8,1,3] [1] (qaa Tryz.f113 3) (qc8 a M d c G H J K 0) .ret (qgW q)]):
 Rt 113 [.agg (cl A a b C E F L)] [cB q]:=
 h.of
theorem qCv(h:Oo [.r 163 [.agg (gr A a b)] [cB q],.n q false,.b ((C.length:Int) != a) false,.v (a*a),.b ((E.length:Int) != a*a) false,.b ((F.length:Int) != 4) false,.l [] [4,3,1] [1] (qaa Tryz.f113 0) (qcA A a b C E F L 0) (.exit 0) (qfU A a b C E F L),.l [] [5,1,3] [1] (qaa Tryz.f113 1) (qbT a 0 A a b C E F L) (.exit 2) (qgV a M d c G H J K),.l [] [7,1,3] [1] (qaa Tryz.f113 2) (qb3 a M d c G H J K 0) (.exit 4) (qif a M d c G H J K),.l [] [8,1,3] [1] (qaa Tryz.f113 3) (qc8 a M d c G H J K 0) (.exit 6) qkA]):
 Rt 113 [.agg (cl A a b C E F L)] [cB true]:=
 h.of
theorem qCw(h:Oo [.r 122 [.agg (gr A a b)] [cB q],.n q true]):
 Rt 64 [.agg (cl A a b C E F G)] [cB false]:=
 h.of
theorem qCx(h:Oo [.r 122 [.agg (gr A a b)] [cB q],.n q false,.b ((C.length:Int) != a) true]):
 Rt 64 [.agg (cl A a b C E F G)] [cB false]:=
 h.of
theorem qCy(h:Oo [.r 122 [.agg (gr A a b)] [cB q],.n q false,.b ((C.length:Int) != a) false,.v (a*a),.b ((E.length:Int) != a*a) true]):
 Rt 64 [.agg (cl A a b C E F G)] [cB false]:=
 h.of
theorem qCz(h:Oo [.r 122 [.agg (gr A a b)] [cB q],.n q false,.b ((C.length:Int) != a) false,.v (a*a),.b ((E.length:Int) != a*a) false,.b ((F.length:Int) != 4) true]):
 Rt 64 [.agg (cl A a b C E F G)] [cB false]:=
 h.of
def qcB(a:Int)(A:LL)(b:Int)(C:LL)(c d:Int)(E F G H:LL):St:=
 { env:=envOf 147 [(1,vP 1),(3,vI a),(42,vF 8 A),(43,vI (A.length:Int)),(44,vI b)],boxes:=[(1,[.sl .free 4 C,lI c,lI d,.sl .free 8 E,.sl .free 6 F,.sl .free 5 G,.sl .free 3 H])] }
def qig(q:Bool):St:=
 { env:=envOf 147 [(2,.al (.one (.sb q)))],boxes:=[] }
theorem qCA(h:Oo [.b (decide (a<(A.length:Int))) true,.p (0≤a),.p (a<(A.length:Int)),.e A a.toNat (wk C E F G H J K L),.r 123 [.agg (gr M b c),.agg (wk C E F G H J K L)] [cB q],.n q true]):
 Tp (qaa Tryz.f64 0) (qcB d A a M b c N P Q R) .ret (qig false):=
 h.lp [2] []
theorem qCB(h:Oo [.b (decide (a<(A.length:Int))) true,.p (0≤a),.p (a<(A.length:Int)),.e A a.toNat (wk J K L M N P Q R),.r 123 [.agg (gr C b c),.agg (wk J K L M N P Q R)] [cB q],.n q false,.u a]):
 Tp (qaa Tryz.f64 0) (qcB d A a C b c E F G H) .normal (qcB d A (a+1) C b c E F G H):=
 h.lp [44,43,42,1,3] [1]
def qfW(a:Int)(A:LL)(b c:Int)(C E F G:LL):St:=
 { env:=envOf 147 [(1,vP 1),(3,vI a)],boxes:=[(1,[.sl .free 4 A,lI b,lI c,.sl .free 8 C,.sl .free 6 E,.sl .free 5 F,.sl .free 3 G])] }
theorem qCC(h:Oo [.b (decide (d<(G.length:Int))) false]):
 Tp (qaa Tryz.f64 0) (qcB a G d H b c A C E F) (.exit 0) (qfW a H b c A C E F):=
 h.lp [1,3] [1]
theorem qCD(h:Oo [.r 122 [.agg (gr C a b)] [cB q],.n q false,.b ((A.length:Int) != a) false,.v (a*a),.b ((E.length:Int) != a*a) false,.b ((F.length:Int) != 4) false,.l [] [44,43,42,1,3] [1] (qaa Tryz.f64 0) (qcB a A 0 C a b A E F G) .ret (qig r)]):
 Rt 64 [.agg (cl C a b A E F G)] [cB r]:=
 h.of
def qbU(a:Int)(A:LL)(b:Int)(C:LL)(c d:Int)(E F G H:LL):St:=
 { env:=envOf 147 [(1,vP 1),(3,vI a),(55,vF 6 A),(56,vI (A.length:Int)),(57,vI b)],boxes:=[(1,[.sl .free 4 C,lI c,lI d,.sl .free 8 E,.sl .free 6 F,.sl .free 5 G,.sl .free 3 H])] }
def qfX(q:Bool):St:=
 { env:=envOf 147 [(2,.al (.one (.sb q)))],boxes:=[] }
theorem qCE(h:Oo [.b (decide (a<(A.length:Int))) true,.p (0≤a),.p (a<(A.length:Int)),.e A a.toNat (lk b C c d e f),.r 124 [.agg (lk b C c d e f)] [cB q],.n q true]):
 Tp (qaa Tryz.f64 1) (qbU g A a E i j F G H J) .ret (qfX false):=
 h.lp [2] []
theorem qCF(h:Oo [.b (decide (a<(A.length:Int))) true,.p (0≤a),.p (a<(A.length:Int)),.e A a.toNat (lk b C d e f g),.r 124 [.agg (lk b C d e f g)] [cB q],.n q false,.b (b != c) true]):
 Tp (qaa Tryz.f64 1) (qbU i A a E j c F G H J) .ret (qfX false):=
 h.lp [2] []
theorem qCG(h:Oo [.b (decide (a<(A.length:Int))) true,.p (0≤a),.p (a<(A.length:Int)),.e A a.toNat (lk c C e f g i),.r 124 [.agg (lk c C e f g i)] [cB q],.n q false,.b (c != b) false,.r 125 [.agg (gr E d b),cS 5 C] [cB r],.n r true]):
 Tp (qaa Tryz.f64 1) (qbU j A a E d b F G H J) .ret (qfX false):=
 h.lp [2] []
theorem qCH(h:Oo [.b (decide (a<(A.length:Int))) true,.p (0≤a),.p (a<(A.length:Int)),.e A a.toNat (lk d C f g i j),.r 124 [.agg (lk d C f g i j)] [cB q],.n q false,.b (d != c) false,.r 125 [.agg (gr E e c),cS 5 C] [cB r],.n r false,.p (b≠0),.v (a.tdiv b),.p (b≠0),.b (a.tdiv b==a.tmod b) true,.b (decide ((C.length:Int)>0)) true]):
 Tp (qaa Tryz.f64 1) (qbU b A a E e c F G H J) .ret (qfX false):=
 h.lp [2] []
theorem qCI(h:Oo [.b (decide (a<(A.length:Int))) true,.p (0≤a),.p (a<(A.length:Int)),.e A a.toNat (lk e C f g i j),.r 124 [.agg (lk e C f g i j)] [cB q],.n q false,.b (e != c) false,.r 125 [.agg (gr E d c),cS 5 C] [cB r],.n r false,.p (b≠0),.v (a.tdiv b),.p (b≠0),.b (a.tdiv b==a.tmod b) true,.b (decide ((C.length:Int)>0)) false,.u a]):
 Tp (qaa Tryz.f64 1) (qbU b A a E d c F G H J) .normal (qbU b A (a+1) E d c F G H J):=
 h.lp [57,56,55,1,3] [1]
theorem qCJ(h:Oo [.b (decide (a<(A.length:Int))) true,.p (0≤a),.p (a<(A.length:Int)),.e A a.toNat (lk e E f g i j),.r 124 [.agg (lk e E f g i j)] [cB q],.n q false,.b (e != c) false,.r 125 [.agg (gr C d c),cS 5 E] [cB r],.n r false,.p (b≠0),.v (a.tdiv b),.p (b≠0),.b (a.tdiv b==a.tmod b) false,.u a]):
 Tp (qaa Tryz.f64 1) (qbU b A a C d c F G H J) .normal (qbU b A (a+1) C d c F G H J):=
 h.lp [57,56,55,1,3] [1]
def qgX(a:Int)(A:LL)(b c:Int)(C E F G:LL):St:=
 { env:=envOf 147 [(1,vP 1),(3,vI a)],boxes:=[(1,[.sl .free 4 A,lI b,lI c,.sl .free 8 C,.sl .free 6 E,.sl .free 5 F,.sl .free 3 G])] }
theorem qCK(h:Oo [.b (decide (b<(A.length:Int))) false]):
 Tp (qaa Tryz.f64 1) (qbU a A b C c d E F G H) (.exit 2) (qgX a C c d E F G H):=
 h.lp [1,3] [1]
theorem qCL(h:Oo [.r 122 [.agg (gr C a b)] [cB r],.n r false,.b ((A.length:Int) != a) false,.v (a*a),.b ((F.length:Int) != a*a) false,.b ((G.length:Int) != 4) false,.l [] [44,43,42,1,3] [1] (qaa Tryz.f64 0) (qcB a A 0 C a b A F G L) (.exit 0) (qfW a M d c H E J K),.l [] [57,56,55,1,3] [1] (qaa Tryz.f64 1) (qbU a E 0 M d c H E J K) .ret (qfX q)]):
 Rt 64 [.agg (cl C a b A F G L)] [cB q]:=
 h.of
def qb4(a:Int)(A:LL)(b:Int)(C:LL)(c d:Int)(E F G H:LL):St:=
 { env:=envOf 147 [(1,vP 1),(3,vI a),(98,vF 5 A),(99,vI (A.length:Int)),(100,vI b)],boxes:=[(1,[.sl .free 4 C,lI c,lI d,.sl .free 8 E,.sl .free 6 F,.sl .free 5 G,.sl .free 3 H])] }
def qeQ(q:Bool):St:=
 { env:=envOf 147 [(2,.al (.one (.sb q)))],boxes:=[] }
theorem qCM(h:Oo [.b (decide (a<(A.length:Int))) true,.p (0≤a),.p (a<(A.length:Int)),.e A a.toNat [B r,I c,I f,B s,B t],.v (b-1),.r 81 [cI c,cI 0,cI (b-1)] [cB q],.n q true]):
 Tp (qaa Tryz.f64 2) (qb4 b A a C d e E F G H) .ret (qeQ false):=
 h.lp [2] []
theorem qCN(h:Oo [.b (decide (a<(A.length:Int))) true,.p (0≤a),.p (a<(A.length:Int)),.e A a.toNat [B q,I c,I f,B s,B t],.v (b-1),.r 81 [cI c,cI 0,cI (b-1)] [cB r],.n r false,.n q true,.b (c != 0) true]):
 Tp (qaa Tryz.f64 2) (qb4 b A a C d e E F G H) .ret (qeQ false):=
 h.lp [2] []
theorem qCO(h:Oo [.b (decide (a<(A.length:Int))) true,.p (0≤a),.p (a<(A.length:Int)),.e A a.toNat [B q,I c,I d,B t,B u],.v (b-1),.r 81 [cI c,cI 0,cI (b-1)] [cB r],.n r false,.n q true,.b (c != 0) false,.r 81 [cI d,cI (-1000000),cI 1000000] [cB s],.n s true]):
 Tp (qaa Tryz.f64 2) (qb4 b A a C e f E F G H) .ret (qeQ false):=
 h.lp [2] []
theorem qCP(h:Oo [.b (decide (a<(A.length:Int))) true,.p (0≤a),.p (a<(A.length:Int)),.e A a.toNat [B q,I c,I f,B t,B u],.v (b-1),.r 81 [cI c,cI 0,cI (b-1)] [cB r],.n r false,.n q true,.b (c != 0) false,.r 81 [cI f,cI (-1000000),cI 1000000] [cB s],.n s false,.u a]):
 Tp (qaa Tryz.f64 2) (qb4 b A a C d e E F G H) .normal (qb4 b A (a+1) C d e E F G H):=
 h.lp [100,99,98,3,1] [1]
theorem qCQ(h:Oo [.b (decide (a<(A.length:Int))) true,.p (0≤a),.p (a<(A.length:Int)),.e A a.toNat [B q,I c,I d,B t,B u],.v (b-1),.r 81 [cI c,cI 0,cI (b-1)] [cB r],.n r false,.n q false,.r 81 [cI d,cI (-1000000),cI 1000000] [cB s],.n s true]):
 Tp (qaa Tryz.f64 2) (qb4 b A a C e f E F G H) .ret (qeQ false):=
 h.lp [2] []
theorem qCR(h:Oo [.b (decide (a<(A.length:Int))) true,.p (0≤a),.p (a<(A.length:Int)),.e A a.toNat [B q,I e,I f,B t,B u],.v (b-1),.r 81 [cI e,cI 0,cI (b-1)] [cB r],.n r false,.n q false,.r 81 [cI f,cI (-1000000),cI 1000000] [cB s],.n s false,.u a]):
 Tp (qaa Tryz.f64 2) (qb4 b A a C c d E F G H) .normal (qb4 b A (a+1) C c d E F G H):=
 h.lp [100,99,98,3,1] [1]
def qih(a:Int)(A:LL)(b c:Int)(C E F G:LL):St:=
 { env:=envOf 147 [(1,vP 1),(3,vI a)],boxes:=[(1,[.sl .free 4 A,lI b,lI c,.sl .free 8 C,.sl .free 6 E,.sl .free 5 F,.sl .free 3 G])] }
theorem qCS(h:Oo [.b (decide (b<(A.length:Int))) false]):
 Tp (qaa Tryz.f64 2) (qb4 a A b C c d E F G H) (.exit 4) (qih a C c d E F G H):=
 h.lp [1,3] [1]
theorem qCT(h:Oo [.r 122 [.agg (gr C a b)] [cB r],.n r false,.b ((A.length:Int) != a) false,.v (a*a),.b ((G.length:Int) != a*a) false,.b ((H.length:Int) != 4) false,.l [] [44,43,42,1,3] [1] (qaa Tryz.f64 0) (qcB a A 0 C a b A G H R) (.exit 0) (qfW a S f c J E K L),.l [] [57,56,55,1,3] [1] (qaa Tryz.f64 1) (qbU a E 0 S f c J E K L) (.exit 2) (qgX a M d e N P F Q),.l [] [100,99,98,3,1] [1] (qaa Tryz.f64 2) (qb4 a F 0 M d e N P F Q) .ret (qeQ q)]):
 Rt 64 [.agg (cl C a b A G H R)] [cB q]:=
 h.of
def qc9(a:Int)(A:LL)(b:Int):St:=
 { env:=envOf 147 [(3,vI a),(128,vF 3 A),(129,vI (A.length:Int)),(130,vI b)],boxes:=[] }
def qgY(q:Bool):St:=
 { env:=envOf 147 [(2,.al (.one (.sb q)))],boxes:=[] }
theorem qCU(h:Oo [.b (decide (a<(A.length:Int))) true,.p (0≤a),.p (a<(A.length:Int)),.e A a.toNat [I c,I d,B r],.v (b-1),.r 81 [cI c,cI 0,cI (b-1)] [cB q],.n q true]):
 Tp (qaa Tryz.f64 3) (qc9 b A a) .ret (qgY false):=
 h.lp [2] []
theorem qCV(h:Oo [.b (decide (a<(A.length:Int))) true,.p (0≤a),.p (a<(A.length:Int)),.e A a.toNat [I c,I d,B s],.v (b-1),.r 81 [cI c,cI 0,cI (b-1)] [cB q],.n q false,.r 81 [cI d,cI 0,cI 3] [cB r],.n r true]):
 Tp (qaa Tryz.f64 3) (qc9 b A a) .ret (qgY false):=
 h.lp [2] []
theorem qCW(h:Oo [.b (decide (a<(A.length:Int))) true,.p (0≤a),.p (a<(A.length:Int)),.e A a.toNat [I c,I d,B s],.v (b-1),.r 81 [cI c,cI 0,cI (b-1)] [cB q],.n q false,.r 81 [cI d,cI 0,cI 3] [cB r],.n r false,.u a]):
 Tp (qaa Tryz.f64 3) (qc9 b A a) .normal (qc9 b A (a+1)):=
 h.lp [130,129,128,3] []
def qkB:St:=
 { env:=envOf 147 [],boxes:=[] }
theorem qCX(h:Oo [.b (decide (a<(A.length:Int))) false]):
 Tp (qaa Tryz.f64 3) (qc9 b A a) (.exit 6) qkB:=
 h.lp [] []
theorem qCY(h:Oo [.r 122 [.agg (gr C a b)] [cB r],.n r false,.b ((A.length:Int) != a) false,.v (a*a),.b ((G.length:Int) != a*a) false,.b ((H.length:Int) != 4) false,.l [] [44,43,42,1,3] [1] (qaa Tryz.f64 0) (qcB a A 0 C a b A G H S) (.exit 0) (qfW a U f c J E K L),.l [] [57,56,55,1,3] [1] (qaa Tryz.f64 1) (qbU a E 0 U f c J E K L) (.exit 2) (qgX a M d e N P F Q),.l [] [100,99,98,3,1] [1] (qaa Tryz.f64 2) (qb4 a F 0 M d e N P F Q) (.exit 4) (qih a V g i W X Y R),.l [] [130,129,128,3] [] (qaa Tryz.f64 3) (qc9 a R 0) .ret (qgY q)]):
 Rt 64 [.agg (cl C a b A G H S)] [cB q]:=
 h.of
theorem qCZ(h:Oo [.r 122 [.agg (gr C a b)] [cB q],.n q false,.b ((A.length:Int) != a) false,.v (a*a),.b ((G.length:Int) != a*a) false,.b ((H.length:Int) != 4) false,.l [] [44,43,42,1,3] [1] (qaa Tryz.f64 0) (qcB a A 0 C a b A G H S) (.exit 0) (qfW a U f c J E K L),.l [] [57,56,55,1,3] [1] (qaa Tryz.f64 1) (qbU a E 0 U f c J E K L) (.exit 2) (qgX a M d e N P F Q),.l [] [100,99,98,3,1] [1] (qaa Tryz.f64 2) (qb4 a F 0 M d e N P F Q) (.exit 4) (qih a V g i W X Y R),.l [] [130,129,128,3] [] (qaa Tryz.f64 3) (qc9 a R 0) (.exit 6) qkB]):
 Rt 64 [.agg (cl C a b A G H S)] [cB true]:=
 h.of
end Go.Proofs.YtdanpadojemjeaaGreat
