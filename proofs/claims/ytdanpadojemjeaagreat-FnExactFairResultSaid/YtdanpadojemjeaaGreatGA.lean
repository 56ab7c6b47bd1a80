import Derived.Test.YtdanpadojemjeaaGreatRows
import Derived.Test.YtdanpadojemjeaaGreatGE
namespace Go.Proofs.YtdanpadojemjeaaGreat
open Go.Sx Go.RowKit
variable {a b c d e f g i j k l : Int} {A C E F : LL}
theorem qsO(h:Oo [.v (a-(A.length:Int)),.b (decide (a-(A.length:Int)<0)) true]):
 Rt 39 [cS 5 A,cI a] [cI (-1)]:=
 h.of
theorem qsP(h:Oo [.v (a-(A.length:Int)),.b (decide (a-(A.length:Int)<0)) false]):
 Rt 39 [cS 5 A,cI a] [cI (a-(A.length:Int))]:=
 h.of
theorem qsQ(h:Oo [.v (a-(A.length:Int)),.b (decide (a-(A.length:Int)<0)) true]):
 Rt 182 [cS 1 A,cI a] [cI (-1)]:=
 h.of
theorem qsR(h:Oo [.v (a-(A.length:Int)),.b (decide (a-(A.length:Int)<0)) false]):
 Rt 182 [cS 1 A,cI a] [cI (a-(A.length:Int))]:=
 h.of
theorem qsS(h:Oo [.r 182 [cS 1 A,cI a] [cI b],.b (decide (b<0)) true]):
 Rt 162 [.agg (nd c d e A),cI a] [cI (-1)]:=
 h.of
theorem qsT(h:Oo [.r 182 [cS 1 A,cI b] [cI a],.b (decide (a<0)) false]):
 Rt 162 [.agg (nd c d e A),cI b] [cI a]:=
 h.of
theorem qsU(h:Oo [.v (a-(A.length:Int)),.b (decide (a-(A.length:Int)<0)) true]):
 Rt 97 [cS 4 A,cI a] [cI (-1)]:=
 h.of
def qdb(A:LL)(a b:Int):St:=
 { env:=envOf 27 [(0,vF 4 A),(1,vI b),(5,vI a)],boxes:=[] }
def qnK(a:Int):St:=
 { env:=envOf 27 [(4,vI a)],boxes:=[] }
theorem qsV(h:Oo [.b (decide (a<(A.length:Int))) true,.p (0≤a),.p (a<(A.length:Int)),.e A a.toNat (nd c d e C),.r 162 [.agg (nd c d e C),cI b] [cI f],.b (decide (f<0)) true]):
 Tp (qaa Tryz.f97 0) (qdb A a b) .ret (qnK (-1)):=
 h.lp [4] []
theorem qsW(h:Oo [.b (decide (a<(A.length:Int))) true,.p (0≤a),.p (a<(A.length:Int)),.e A a.toNat (nd d e f C),.r 162 [.agg (nd d e f C),cI c] [cI b],.b (decide (b<0)) false,.u a]):
 Tp (qaa Tryz.f97 0) (qdb A a c) .normal (qdb A (a+1) b):=
 h.lp [5,0,1] []
def qnL(a:Int):St:=
 { env:=envOf 27 [(1,vI a)],boxes:=[] }
theorem qsX(h:Oo [.b (decide (a<(A.length:Int))) false]):
 Tp (qaa Tryz.f97 0) (qdb A a b) (.exit 0) (qnL b):=
 h.lp [1] []
theorem qsY(h:Oo [.v (a-(A.length:Int)),.b (decide (a-(A.length:Int)<0)) false,.l [] [5,0,1] [] (qaa Tryz.f97 0) (qdb A 0 (a-(A.length:Int))) .ret (qnK b)]):
 Rt 97 [cS 4 A,cI a] [cI b]:=
 h.of
theorem qsZ(h:Oo [.v (a-(A.length:Int)),.b (decide (a-(A.length:Int)<0)) false,.l [] [5,0,1] [] (qaa Tryz.f97 0) (qdb A 0 (a-(A.length:Int))) (.exit 0) (qnL b)]):
 Rt 97 [cS 4 A,cI a] [cI b]:=
 h.of
theorem qs0(h:Oo [.r 97 [cS 4 A,cI a] [cI b],.b (decide (b<0)) true]):
 Rt 38 [.agg (gr A c d),cI a] [cI (-1)]:=
 h.of
theorem qs1(h:Oo [.r 97 [cS 4 A,cI b] [cI a],.b (decide (a<0)) false]):
 Rt 38 [.agg (gr A c d),cI b] [cI a]:=
 h.of
end Go.Proofs.YtdanpadojemjeaaGreat
namespace Go.Proofs.YtdanpadojemjeaaGreat
open Go.Sx Go.RowKit
variable {a b c d e f g i j k l : Int} {A C E F : LL}
theorem qs6(h:Oo []):
 Rt 172 [.agg [I a,I b]] [.agg [I a,I b]]:=
 h.of
theorem qs7(h:Oo [.r 172 [.agg [I b,I c]] [.agg [I f,I g]]]):
 Rt 102 [.agg (ri a b c d e)] [.agg (ri a f g d e)]:=
 h.of
def qgC(A:LL)(a:Int)(C:LL):St:=
 { env:=envOf 23 [(0,vF 5 A),(3,PV.al (AL.one (lO 7 5 C))),(4,vI a)],boxes:=[] }
theorem qs8(A:LL)(a:Int)(C:LL)(e f g i j k l b c d:Int)(d13 d14 d15 d16 d17:D)(h:Oo [.b (decide (a<(A.length:Int))) true,.p (0≤a),.p (a<(A.length:Int)),.e A a.toNat (ri e f g i j),.r 102 [.agg (ri e f g i j)] [.agg (ri k l b c d)],.p (0≤a),.p (a<(C.length:Int)),.e C a.toNat [d13,d14,d15,d16,d17],.u a]):
 Tp (qaa Tryz.f42 0) (qgC A a C) .normal (qgC A (a+1) (C.set a.toNat (ri k l b c d))):=
 h.lp [4,0,3] []
def qnN(A:LL):St:=
 { env:=envOf 23 [(3,PV.al (AL.one (lO 7 5 A)))],boxes:=[] }
theorem qs9(h:Oo [.b (decide (a<(A.length:Int))) false]):
 Tp (qaa Tryz.f42 0) (qgC A a C) (.exit 0) (qnN C):=
 h.lp [3] []
theorem qta(h:Oo [.p (0≤(A.length:Int)),.p ((A.length:Int)≤(A.length:Int)),.p ((↑40:Int)*(A.length:Int)≤281474976710656),.p ((A.length:Int)≤9223372036854775807),.l [] [4,0,3] [] (qaa Tryz.f42 0) (qgC A 0 (List.replicate A.length (ri 0 0 0 0 0))) (.exit 0) (qnN C)]):
 Rt 42 [cS 5 A] [cS 5 C]:=
 h.of
def qgD(A:LL)(a:Int)(C:LL):St:=
 { env:=envOf 22 [(0,vF 1 A),(3,PV.al (AL.one (lO 7 1 C))),(4,vI a)],boxes:=[] }
theorem qtb(A:LL)(a:Int)(C:LL)(b:Int)(d4:D)(h:Oo [.b (decide (a<(A.length:Int))) true,.p (0≤a),.p (a<(A.length:Int)),.e A a.toNat [I b],.p (0≤a),.p (a<(C.length:Int)),.e C a.toNat [d4],.u a]):
 Tp (qaa Tryz.f191 0) (qgD A a C) .normal (qgD A (a+1) (C.set a.toNat [I b])):=
 h.lp [4,0,3] []
def qnO(A:LL):St:=
 { env:=envOf 22 [(3,PV.al (AL.one (lO 7 1 A)))],boxes:=[] }
theorem qtc(h:Oo [.b (decide (a<(A.length:Int))) false]):
 Tp (qaa Tryz.f191 0) (qgD A a C) (.exit 0) (qnO C):=
 h.lp [3] []
theorem qtd(h:Oo [.p (0≤(A.length:Int)),.p ((A.length:Int)≤(A.length:Int)),.p ((↑8:Int)*(A.length:Int)≤281474976710656),.p ((A.length:Int)≤9223372036854775807),.l [] [4,0,3] [] (qaa Tryz.f191 0) (qgD A 0 (List.replicate A.length [I 0])) (.exit 0) (qnO C)]):
 Rt 191 [cS 1 A] [cS 1 C]:=
 h.of
theorem qte(h:Oo [.r 191 [cS 1 A] [cS 1 C]]):
 Rt 171 [.agg (nd a b c A)] [.agg (nd a b c C)]:=
 h.of
def qgE(A:LL)(a:Int)(C:LL):St:=
 { env:=envOf 23 [(0,vF 4 A),(3,PV.al (AL.one (lO 7 4 C))),(4,vI a)],boxes:=[] }
theorem qtf(A:LL)(a:Int)(C:LL)(b c d:Int)(F:LL)(e f g:Int)(E:LL)(d11 d12 d13 d14:D)(h:Oo [.b (decide (a<(A.length:Int))) true,.p (0≤a),.p (a<(A.length:Int)),.e A a.toNat (nd b c d F),.r 171 [.agg (nd b c d F)] [.agg (nd e f g E)],.p (0≤a),.p (a<(C.length:Int)),.e C a.toNat [d11,d12,d13,d14],.u a]):
 Tp (qaa Tryz.f101 0) (qgE A a C) .normal (qgE A (a+1) (C.set a.toNat (nd e f g E))):=
 h.lp [4,0,3] []
def qnP(A:LL):St:=
 { env:=envOf 23 [(3,PV.al (AL.one (lO 7 4 A)))],boxes:=[] }
theorem qtg(h:Oo [.b (decide (a<(A.length:Int))) false]):
 Tp (qaa Tryz.f101 0) (qgE A a C) (.exit 0) (qnP C):=
 h.lp [3] []
theorem qth(h:Oo [.p (0≤(A.length:Int)),.p ((A.length:Int)≤(A.length:Int)),.p ((↑48:Int)*(A.length:Int)≤281474976710656),.p ((A.length:Int)≤9223372036854775807),.l [] [4,0,3] [] (qaa Tryz.f101 0) (qgE A 0 (List.replicate A.length [I 0,I 0,I 0,D.v (sn)])) (.exit 0) (qnP C)]):
 Rt 101 [cS 4 A] [cS 4 C]:=
 h.of
theorem qti(h:Oo [.r 101 [cS 4 A] [cS 4 C]]):
 Rt 41 [.agg (gr A a b)] [.agg (gr C a b)]:=
 h.of
end Go.Proofs.YtdanpadojemjeaaGreat
