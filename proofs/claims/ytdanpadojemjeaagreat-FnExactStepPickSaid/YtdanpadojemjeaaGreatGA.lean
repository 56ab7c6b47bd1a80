import Derived.Test.YtdanpadojemjeaaGreatRows
import Derived.Test.YtdanpadojemjeaaGreatGE
namespace Go.Proofs.YtdanpadojemjeaaGreat
open Go.Sx Go.RowKit
variable {a b c d e f g i j k l : Int} {A C E F G H J K L M N P Q R S U V W : LL} {q r s t u v : Bool}
theorem qr3(h:Oo [.v (a-(A.length:Int)),.b (decide (a-(A.length:Int)<0)) true]):
 Rt 39 [cS 5 A,cI a] [cI (-1)]:=
 h.of
theorem qr4(h:Oo [.v (a-(A.length:Int)),.b (decide (a-(A.length:Int)<0)) false]):
 Rt 39 [cS 5 A,cI a] [cI (a-(A.length:Int))]:=
 h.of
theorem qr5(h:Oo [.v (a-(A.length:Int)),.b (decide (a-(A.length:Int)<0)) true]):
 Rt 181 [cS 4 A,cI a] [cI (-1)]:=
 h.of
theorem qr6(h:Oo [.v (a-(A.length:Int)),.b (decide (a-(A.length:Int)<0)) false]):
 Rt 181 [cS 4 A,cI a] [cI (a-(A.length:Int))]:=
 h.of
theorem qr7(h:Oo [.v (a-(A.length:Int)),.b (decide (a-(A.length:Int)<0)) true]):
 Rt 182 [cS 1 A,cI a] [cI (-1)]:=
 h.of
theorem qr8(h:Oo [.v (a-(A.length:Int)),.b (decide (a-(A.length:Int)<0)) false]):
 Rt 182 [cS 1 A,cI a] [cI (a-(A.length:Int))]:=
 h.of
theorem qr9(h:Oo [.v (a-(A.length:Int)),.b (decide (a-(A.length:Int)<0)) true]):
 Rt 183 [cS 1 A,cI a] [cI (-1)]:=
 h.of
theorem qsa(h:Oo [.v (a-(A.length:Int)),.b (decide (a-(A.length:Int)<0)) false]):
 Rt 183 [cS 1 A,cI a] [cI (a-(A.length:Int))]:=
 h.of
theorem qsb(h:Oo [.v (a-(A.length:Int)),.b (decide (a-(A.length:Int)<0)) true]):
 Rt 184 [cS 2 A,cI a] [cI (-1)]:=
 h.of
theorem qsc(h:Oo [.v (a-(A.length:Int)),.b (decide (a-(A.length:Int)<0)) false]):
 Rt 184 [cS 2 A,cI a] [cI (a-(A.length:Int))]:=
 h.of
theorem qsd(h:Oo [.v (a-(A.length:Int)),.b (decide (a-(A.length:Int)<0)) true]):
 Rt 53 [cS 5 A,cI a] [cI (-1)]:=
 h.of
theorem qse(h:Oo [.v (a-(A.length:Int)),.b (decide (a-(A.length:Int)<0)) false]):
 Rt 53 [cS 5 A,cI a] [cI (a-(A.length:Int))]:=
 h.of
theorem qsf(h:Oo [.v (a-(A.length:Int)),.b (decide (a-(A.length:Int)<0)) true]):
 Rt 54 [cS 3 A,cI a] [cI (-1)]:=
 h.of
theorem qsg(h:Oo [.v (a-(A.length:Int)),.b (decide (a-(A.length:Int)<0)) false]):
 Rt 54 [cS 3 A,cI a] [cI (a-(A.length:Int))]:=
 h.of
theorem qsh(h:Oo [.r 182 [cS 1 A,cI a] [cI b],.b (decide (b<0)) true]):
 Rt 162 [.agg (nd c d e A),cI a] [cI (-1)]:=
 h.of
theorem qsi(h:Oo [.r 182 [cS 1 A,cI b] [cI a],.b (decide (a<0)) false]):
 Rt 162 [.agg (nd c d e A),cI b] [cI a]:=
 h.of
theorem qsj(h:Oo [.v (a-(A.length:Int)),.b (decide (a-(A.length:Int)<0)) true]):
 Rt 97 [cS 4 A,cI a] [cI (-1)]:=
 h.of
def qc3(A:LL)(a b:Int):St:=
 { env:=envOf 27 [(0,vF 4 A),(1,vI b),(5,vI a)],boxes:=[] }
def qmZ(a:Int):St:=
 { env:=envOf 27 [(4,vI a)],boxes:=[] }
theorem qsk(h:Oo [.b (decide (a<(A.length:Int))) true,.p (0≤a),.p (a<(A.length:Int)),.e A a.toNat (nd c d e C),.r 162 [.agg (nd c d e C),cI b] [cI f],.b (decide (f<0)) true]):
 Tp (qaa Tryz.f97 0) (qc3 A a b) .ret (qmZ (-1)):=
 h.lp [4] []
theorem qsl(h:Oo [.b (decide (a<(A.length:Int))) true,.p (0≤a),.p (a<(A.length:Int)),.e A a.toNat (nd d e f C),.r 162 [.agg (nd d e f C),cI c] [cI b],.b (decide (b<0)) false,.u a]):
 Tp (qaa Tryz.f97 0) (qc3 A a c) .normal (qc3 A (a+1) b):=
 h.lp [5,0,1] []
def qm0(a:Int):St:=
 { env:=envOf 27 [(1,vI a)],boxes:=[] }
theorem qsm(h:Oo [.b (decide (a<(A.length:Int))) false]):
 Tp (qaa Tryz.f97 0) (qc3 A a b) (.exit 0) (qm0 b):=
 h.lp [1] []
theorem qsn(h:Oo [.v (a-(A.length:Int)),.b (decide (a-(A.length:Int)<0)) false,.l [] [5,0,1] [] (qaa Tryz.f97 0) (qc3 A 0 (a-(A.length:Int))) .ret (qmZ b)]):
 Rt 97 [cS 4 A,cI a] [cI b]:=
 h.of
theorem qso(h:Oo [.v (a-(A.length:Int)),.b (decide (a-(A.length:Int)<0)) false,.l [] [5,0,1] [] (qaa Tryz.f97 0) (qc3 A 0 (a-(A.length:Int))) (.exit 0) (qm0 b)]):
 Rt 97 [cS 4 A,cI a] [cI b]:=
 h.of
theorem qsp(h:Oo [.r 39 [cS 5 A,cI a] [cI b],.b (decide (b<0)) true]):
 Rt 111 [.agg (lk c A d e f g),cI a] [cI (-1)]:=
 h.of
theorem qsq(h:Oo [.r 39 [cS 5 A,cI b] [cI a],.b (decide (a<0)) false]):
 Rt 111 [.agg (lk c A d e f g),cI b] [cI a]:=
 h.of
theorem qsr(h:Oo [.v (a-(A.length:Int)),.b (decide (a-(A.length:Int)<0)) true]):
 Rt 52 [cS 6 A,cI a] [cI (-1)]:=
 h.of
def qc4(A:LL)(a b:Int):St:=
 { env:=envOf 27 [(0,vF 6 A),(1,vI b),(5,vI a)],boxes:=[] }
def qm1(a:Int):St:=
 { env:=envOf 27 [(4,vI a)],boxes:=[] }
theorem qss(h:Oo [.b (decide (a<(A.length:Int))) true,.p (0≤a),.p (a<(A.length:Int)),.e A a.toNat (lk d C e f g i),.r 111 [.agg (lk d C e f g i),cI c] [cI b],.b (decide (b<0)) true]):
 Tp (qaa Tryz.f52 0) (qc4 A a c) .ret (qm1 (-1)):=
 h.lp [4] []
theorem qst(h:Oo [.b (decide (a<(A.length:Int))) true,.p (0≤a),.p (a<(A.length:Int)),.e A a.toNat (lk d C e f g i),.r 111 [.agg (lk d C e f g i),cI c] [cI b],.b (decide (b<0)) false,.u a]):
 Tp (qaa Tryz.f52 0) (qc4 A a c) .normal (qc4 A (a+1) b):=
 h.lp [5,0,1] []
def qm2(a:Int):St:=
 { env:=envOf 27 [(1,vI a)],boxes:=[] }
theorem qsu(h:Oo [.b (decide (a<(A.length:Int))) false]):
 Tp (qaa Tryz.f52 0) (qc4 A a b) (.exit 0) (qm2 b):=
 h.lp [1] []
theorem qsv(h:Oo [.v (a-(A.length:Int)),.b (decide (a-(A.length:Int)<0)) false,.l [] [5,0,1] [] (qaa Tryz.f52 0) (qc4 A 0 (a-(A.length:Int))) .ret (qm1 b)]):
 Rt 52 [cS 6 A,cI a] [cI b]:=
 h.of
theorem qsw(h:Oo [.v (a-(A.length:Int)),.b (decide (a-(A.length:Int)<0)) false,.l [] [5,0,1] [] (qaa Tryz.f52 0) (qc4 A 0 (a-(A.length:Int))) (.exit 0) (qm2 b)]):
 Rt 52 [cS 6 A,cI a] [cI b]:=
 h.of
theorem qsx(h:Oo [.r 97 [cS 4 A,cI a] [cI b],.b (decide (b<0)) true]):
 Rt 38 [.agg (gr A c d),cI a] [cI (-1)]:=
 h.of
theorem qsy(h:Oo [.r 97 [cS 4 A,cI b] [cI a],.b (decide (a<0)) false]):
 Rt 38 [.agg (gr A c d),cI b] [cI a]:=
 h.of
theorem qsz(h:Oo [.r 39 [cS 5 A,cI a] [cI b],.b (decide (b<0)) true]):
 Rt 110 [.agg (wk A C E F G H J K),cI a] [cI (-1)]:=
 h.of
theorem qsA(h:Oo [.r 39 [cS 5 A,cI c] [cI a],.b (decide (a<0)) false,.r 39 [cS 5 C,cI a] [cI b],.b (decide (b<0)) true]):
 Rt 110 [.agg (wk A C E F G H J K),cI c] [cI (-1)]:=
 h.of
theorem qsB(h:Oo [.r 39 [cS 5 A,cI d] [cI b],.b (decide (b<0)) false,.r 39 [cS 5 C,cI b] [cI a],.b (decide (a<0)) false,.r 39 [cS 5 E,cI a] [cI c],.b (decide (c<0)) true]):
 Rt 110 [.agg (wk A C E F G H J K),cI d] [cI (-1)]:=
 h.of
theorem qsC(h:Oo [.r 39 [cS 5 A,cI e] [cI c],.b (decide (c<0)) false,.r 39 [cS 5 C,cI c] [cI a],.b (decide (a<0)) false,.r 39 [cS 5 E,cI a] [cI b],.b (decide (b<0)) false,.r 181 [cS 4 F,cI b] [cI d],.b (decide (d<0)) true]):
 Rt 110 [.agg (wk A C E F G H J K),cI e] [cI (-1)]:=
 h.of
theorem qsD(h:Oo [.r 39 [cS 5 A,cI f] [cI d],.b (decide (d<0)) false,.r 39 [cS 5 C,cI d] [cI a],.b (decide (a<0)) false,.r 39 [cS 5 E,cI a] [cI b],.b (decide (b<0)) false,.r 181 [cS 4 F,cI b] [cI c],.b (decide (c<0)) false,.r 182 [cS 1 G,cI c] [cI e],.b (decide (e<0)) true]):
 Rt 110 [.agg (wk A C E F G H J K),cI f] [cI (-1)]:=
 h.of
theorem qsE(h:Oo [.r 39 [cS 5 A,cI g] [cI e],.b (decide (e<0)) false,.r 39 [cS 5 C,cI e] [cI a],.b (decide (a<0)) false,.r 39 [cS 5 E,cI a] [cI b],.b (decide (b<0)) false,.r 181 [cS 4 F,cI b] [cI c],.b (decide (c<0)) false,.r 182 [cS 1 G,cI c] [cI d],.b (decide (d<0)) false,.r 183 [cS 1 H,cI d] [cI f],.b (decide (f<0)) true]):
 Rt 110 [.agg (wk A C E F G H J K),cI g] [cI (-1)]:=
 h.of
theorem qsF(h:Oo [.r 39 [cS 5 A,cI i] [cI f],.b (decide (f<0)) false,.r 39 [cS 5 C,cI f] [cI a],.b (decide (a<0)) false,.r 39 [cS 5 E,cI a] [cI b],.b (decide (b<0)) false,.r 181 [cS 4 F,cI b] [cI c],.b (decide (c<0)) false,.r 182 [cS 1 G,cI c] [cI d],.b (decide (d<0)) false,.r 183 [cS 1 H,cI d] [cI e],.b (decide (e<0)) false,.r 183 [cS 1 J,cI e] [cI g],.b (decide (g<0)) true]):
 Rt 110 [.agg (wk A C E F G H J K),cI i] [cI (-1)]:=
 h.of
theorem qsG(h:Oo [.r 39 [cS 5 A,cI j] [cI g],.b (decide (g<0)) false,.r 39 [cS 5 C,cI g] [cI a],.b (decide (a<0)) false,.r 39 [cS 5 E,cI a] [cI b],.b (decide (b<0)) false,.r 181 [cS 4 F,cI b] [cI c],.b (decide (c<0)) false,.r 182 [cS 1 G,cI c] [cI d],.b (decide (d<0)) false,.r 183 [cS 1 H,cI d] [cI e],.b (decide (e<0)) false,.r 183 [cS 1 J,cI e] [cI f],.b (decide (f<0)) false,.r 184 [cS 2 K,cI f] [cI i],.b (decide (i<0)) true]):
 Rt 110 [.agg (wk A C E F G H J K),cI j] [cI (-1)]:=
 h.of
theorem qsH(h:Oo [.r 39 [cS 5 A,cI j] [cI i],.b (decide (i<0)) false,.r 39 [cS 5 C,cI i] [cI a],.b (decide (a<0)) false,.r 39 [cS 5 E,cI a] [cI b],.b (decide (b<0)) false,.r 181 [cS 4 F,cI b] [cI c],.b (decide (c<0)) false,.r 182 [cS 1 G,cI c] [cI d],.b (decide (d<0)) false,.r 183 [cS 1 H,cI d] [cI e],.b (decide (e<0)) false,.r 183 [cS 1 J,cI e] [cI f],.b (decide (f<0)) false,.r 184 [cS 2 K,cI f] [cI g],.b (decide (g<0)) false]):
 Rt 110 [.agg (wk A C E F G H J K),cI j] [cI g]:=
 h.of
theorem qsI(h:Oo [.v (a-(A.length:Int)),.b (decide (a-(A.length:Int)<0)) true]):
 Rt 51 [cS 8 A,cI a] [cI (-1)]:=
 h.of
def qc5(A:LL)(a b:Int):St:=
 { env:=envOf 27 [(0,vF 8 A),(1,vI b),(5,vI a)],boxes:=[] }
def qm3(a:Int):St:=
 { env:=envOf 27 [(4,vI a)],boxes:=[] }
theorem qsJ(h:Oo [.b (decide (a<(A.length:Int))) true,.p (0≤a),.p (a<(A.length:Int)),.e A a.toNat (wk F G H J K L C E),.r 110 [.agg (wk F G H J K L C E),cI c] [cI b],.b (decide (b<0)) true]):
 Tp (qaa Tryz.f51 0) (qc5 A a c) .ret (qm3 (-1)):=
 h.lp [4] []
theorem qsK(h:Oo [.b (decide (a<(A.length:Int))) true,.p (0≤a),.p (a<(A.length:Int)),.e A a.toNat (wk F G H J K L C E),.r 110 [.agg (wk F G H J K L C E),cI c] [cI b],.b (decide (b<0)) false,.u a]):
 Tp (qaa Tryz.f51 0) (qc5 A a c) .normal (qc5 A (a+1) b):=
 h.lp [5,0,1] []
def qm4(a:Int):St:=
 { env:=envOf 27 [(1,vI a)],boxes:=[] }
theorem qsL(h:Oo [.b (decide (a<(A.length:Int))) false]):
 Tp (qaa Tryz.f51 0) (qc5 A a b) (.exit 0) (qm4 b):=
 h.lp [1] []
theorem qsM(h:Oo [.v (a-(A.length:Int)),.b (decide (a-(A.length:Int)<0)) false,.l [] [5,0,1] [] (qaa Tryz.f51 0) (qc5 A 0 (a-(A.length:Int))) .ret (qm3 b)]):
 Rt 51 [cS 8 A,cI a] [cI b]:=
 h.of
theorem qsN(h:Oo [.v (a-(A.length:Int)),.b (decide (a-(A.length:Int)<0)) false,.l [] [5,0,1] [] (qaa Tryz.f51 0) (qc5 A 0 (a-(A.length:Int))) (.exit 0) (qm4 b)]):
 Rt 51 [cS 8 A,cI a] [cI b]:=
 h.of
theorem qsO(h:Oo [.r 38 [.agg (gr A a b),cI c] [cI d],.b (decide (d<0)) true]):
 Rt 11 [.agg (cl A a b C E F G),cI c] [cI (-1)]:=
 h.of
theorem qsP(h:Oo [.r 38 [.agg (gr A b c),cI d] [cI a],.b (decide (a<0)) false,.r 51 [cS 8 C,cI a] [cI e],.b (decide (e<0)) true]):
 Rt 11 [.agg (cl A b c C E F G),cI d] [cI (-1)]:=
 h.of
theorem qsQ(h:Oo [.r 38 [.agg (gr A c e),cI f] [cI a],.b (decide (a<0)) false,.r 51 [cS 8 C,cI a] [cI b],.b (decide (b<0)) false,.r 52 [cS 6 E,cI b] [cI d],.b (decide (d<0)) true]):
 Rt 11 [.agg (cl A c e C E F G),cI f] [cI (-1)]:=
 h.of
theorem qsR(h:Oo [.r 38 [.agg (gr A d f),cI g] [cI b],.b (decide (b<0)) false,.r 51 [cS 8 C,cI b] [cI c],.b (decide (c<0)) false,.r 52 [cS 6 E,cI c] [cI a],.b (decide (a<0)) false,.r 53 [cS 5 F,cI a] [cI e],.b (decide (e<0)) true]):
 Rt 11 [.agg (cl A d f C E F G),cI g] [cI (-1)]:=
 h.of
theorem qsS(h:Oo [.r 38 [.agg (gr A e g),cI i] [cI c],.b (decide (c<0)) false,.r 51 [cS 8 C,cI c] [cI d],.b (decide (d<0)) false,.r 52 [cS 6 E,cI d] [cI a],.b (decide (a<0)) false,.r 53 [cS 5 F,cI a] [cI b],.b (decide (b<0)) false,.r 54 [cS 3 G,cI b] [cI f],.b (decide (f<0)) true]):
 Rt 11 [.agg (cl A e g C E F G),cI i] [cI (-1)]:=
 h.of
theorem qsT(h:Oo [.r 38 [.agg (gr A f g),cI i] [cI d],.b (decide (d<0)) false,.r 51 [cS 8 C,cI d] [cI e],.b (decide (e<0)) false,.r 52 [cS 6 E,cI e] [cI a],.b (decide (a<0)) false,.r 53 [cS 5 F,cI a] [cI b],.b (decide (b<0)) false,.r 54 [cS 3 G,cI b] [cI c],.b (decide (c<0)) false]):
 Rt 11 [.agg (cl A f g C E F G),cI i] [cI c]:=
 h.of
end Go.Proofs.YtdanpadojemjeaaGreat
namespace Go.Proofs.YtdanpadojemjeaaGreat
open Go.Sx Go.RowKit
variable {a b c d e f g i j k l : Int} {A C E F G H J K L M N P Q R S U V W : LL} {q r s t u v : Bool}
theorem qsU(h:Oo []):
 Rt 172 [.agg [I a,I b]] [.agg [I a,I b]]:=
 h.of
theorem qsV(h:Oo [.r 172 [.agg [I b,I c]] [.agg [I f,I g]]]):
 Rt 102 [.agg (ri a b c d e)] [.agg (ri a f g d e)]:=
 h.of
def qgw(A:LL)(a:Int)(C:LL):St:=
 { env:=envOf 23 [(0,vF 5 A),(3,PV.al (AL.one (lO 7 5 C))),(4,vI a)],boxes:=[] }
theorem qsW(A:LL)(a:Int)(C:LL)(e f g i j k l b c d:Int)(d13 d14 d15 d16 d17:D)(h:Oo [.b (decide (a<(A.length:Int))) true,.p (0≤a),.p (a<(A.length:Int)),.e A a.toNat (ri e f g i j),.r 102 [.agg (ri e f g i j)] [.agg (ri k l b c d)],.p (0≤a),.p (a<(C.length:Int)),.e C a.toNat [d13,d14,d15,d16,d17],.u a]):
 Tp (qaa Tryz.f42 0) (qgw A a C) .normal (qgw A (a+1) (C.set a.toNat (ri k l b c d))):=
 h.lp [4,0,3] []
def qm5(A:LL):St:=
 { env:=envOf 23 [(3,PV.al (AL.one (lO 7 5 A)))],boxes:=[] }
theorem qsX(h:Oo [.b (decide (a<(A.length:Int))) false]):
 Tp (qaa Tryz.f42 0) (qgw A a C) (.exit 0) (qm5 C):=
 h.lp [3] []
theorem qsY(h:Oo [.p (0≤(A.length:Int)),.p ((A.length:Int)≤(A.length:Int)),.p ((↑40:Int)*(A.length:Int)≤281474976710656),.p ((A.length:Int)≤9223372036854775807),.l [] [4,0,3] [] (qaa Tryz.f42 0) (qgw A 0 (List.replicate A.length (ri 0 0 0 0 0))) (.exit 0) (qm5 C)]):
 Rt 42 [cS 5 A] [cS 5 C]:=
 h.of
theorem qsZ(h:Oo []):
 Rt 228 [.agg [I a,I b,I c,I d]] [.agg [I a,I b,I c,I d]]:=
 h.of
def qgx(A:LL)(a:Int)(C:LL):St:=
 { env:=envOf 23 [(0,vF 4 A),(3,PV.al (AL.one (lO 7 4 C))),(4,vI a)],boxes:=[] }
theorem qs0(A:LL)(a:Int)(C:LL)(c d e f g i j b:Int)(d11 d12 d13 d14:D)(h:Oo [.b (decide (a<(A.length:Int))) true,.p (0≤a),.p (a<(A.length:Int)),.e A a.toNat [I c,I d,I e,I f],.r 228 [.agg [I c,I d,I e,I f]] [.agg [I g,I i,I j,I b]],.p (0≤a),.p (a<(C.length:Int)),.e C a.toNat [d11,d12,d13,d14],.u a]):
 Tp (qaa Tryz.f190 0) (qgx A a C) .normal (qgx A (a+1) (C.set a.toNat [I g,I i,I j,I b])):=
 h.lp [4,0,3] []
def qm6(A:LL):St:=
 { env:=envOf 23 [(3,PV.al (AL.one (lO 7 4 A)))],boxes:=[] }
theorem qs1(h:Oo [.b (decide (a<(A.length:Int))) false]):
 Tp (qaa Tryz.f190 0) (qgx A a C) (.exit 0) (qm6 C):=
 h.lp [3] []
theorem qs2(h:Oo [.p (0≤(A.length:Int)),.p ((A.length:Int)≤(A.length:Int)),.p ((↑32:Int)*(A.length:Int)≤281474976710656),.p ((A.length:Int)≤9223372036854775807),.l [] [4,0,3] [] (qaa Tryz.f190 0) (qgx A 0 (List.replicate A.length [I 0,I 0,I 0,I 0])) (.exit 0) (qm6 C)]):
 Rt 190 [cS 4 A] [cS 4 C]:=
 h.of
def qgy(A:LL)(a:Int)(C:LL):St:=
 { env:=envOf 22 [(0,vF 1 A),(3,PV.al (AL.one (lO 7 1 C))),(4,vI a)],boxes:=[] }
theorem qs3(A:LL)(a:Int)(C:LL)(b:Int)(d4:D)(h:Oo [.b (decide (a<(A.length:Int))) true,.p (0≤a),.p (a<(A.length:Int)),.e A a.toNat [I b],.p (0≤a),.p (a<(C.length:Int)),.e C a.toNat [d4],.u a]):
 Tp (qaa Tryz.f191 0) (qgy A a C) .normal (qgy A (a+1) (C.set a.toNat [I b])):=
 h.lp [4,0,3] []
def qm7(A:LL):St:=
 { env:=envOf 22 [(3,PV.al (AL.one (lO 7 1 A)))],boxes:=[] }
theorem qs4(h:Oo [.b (decide (a<(A.length:Int))) false]):
 Tp (qaa Tryz.f191 0) (qgy A a C) (.exit 0) (qm7 C):=
 h.lp [3] []
theorem qs5(h:Oo [.p (0≤(A.length:Int)),.p ((A.length:Int)≤(A.length:Int)),.p ((↑8:Int)*(A.length:Int)≤281474976710656),.p ((A.length:Int)≤9223372036854775807),.l [] [4,0,3] [] (qaa Tryz.f191 0) (qgy A 0 (List.replicate A.length [I 0])) (.exit 0) (qm7 C)]):
 Rt 191 [cS 1 A] [cS 1 C]:=
 h.of
def qgz(A:LL)(a:Int)(C:LL):St:=
 { env:=envOf 22 [(0,vF 1 A),(3,PV.al (AL.one (lO 7 1 C))),(4,vI a)],boxes:=[] }
theorem qs6(A:LL)(a:Int)(C:LL)(q:Bool)(d4:D)(h:Oo [.b (decide (a<(A.length:Int))) true,.p (0≤a),.p (a<(A.length:Int)),.e A a.toNat [B q],.p (0≤a),.p (a<(C.length:Int)),.e C a.toNat [d4],.u a]):
 Tp (qaa Tryz.f192 0) (qgz A a C) .normal (qgz A (a+1) (C.set a.toNat [B q])):=
 h.lp [4,0,3] []
def qm8(A:LL):St:=
 { env:=envOf 22 [(3,PV.al (AL.one (lO 7 1 A)))],boxes:=[] }
theorem qs7(h:Oo [.b (decide (a<(A.length:Int))) false]):
 Tp (qaa Tryz.f192 0) (qgz A a C) (.exit 0) (qm8 C):=
 h.lp [3] []
theorem qs8(h:Oo [.p (0≤(A.length:Int)),.p ((A.length:Int)≤(A.length:Int)),.p ((↑1:Int)*(A.length:Int)≤281474976710656),.p ((A.length:Int)≤9223372036854775807),.l [] [4,0,3] [] (qaa Tryz.f192 0) (qgz A 0 (List.replicate A.length [B false])) (.exit 0) (qm8 C)]):
 Rt 192 [cS 1 A] [cS 1 C]:=
 h.of
theorem qs9(h:Oo []):
 Rt 229 [.agg [I a,B q]] [.agg [I a,B q]]:=
 h.of
def qgA(A:LL)(a:Int)(C:LL):St:=
 { env:=envOf 23 [(0,vF 2 A),(3,PV.al (AL.one (lO 7 2 C))),(4,vI a)],boxes:=[] }
theorem qta(A:LL)(a:Int)(C:LL)(b:Int)(q:Bool)(c:Int)(r:Bool)(d7 d8:D)(h:Oo [.b (decide (a<(A.length:Int))) true,.p (0≤a),.p (a<(A.length:Int)),.e A a.toNat [I b,B q],.r 229 [.agg [I b,B q]] [.agg [I c,B r]],.p (0≤a),.p (a<(C.length:Int)),.e C a.toNat [d7,d8],.u a]):
 Tp (qaa Tryz.f193 0) (qgA A a C) .normal (qgA A (a+1) (C.set a.toNat [I c,B r])):=
 h.lp [4,0,3] []
def qm9(A:LL):St:=
 { env:=envOf 23 [(3,PV.al (AL.one (lO 7 2 A)))],boxes:=[] }
theorem qtb(h:Oo [.b (decide (a<(A.length:Int))) false]):
 Tp (qaa Tryz.f193 0) (qgA A a C) (.exit 0) (qm9 C):=
 h.lp [3] []
theorem qtc(h:Oo [.p (0≤(A.length:Int)),.p ((A.length:Int)≤(A.length:Int)),.p ((↑16:Int)*(A.length:Int)≤281474976710656),.p ((A.length:Int)≤9223372036854775807),.l [] [4,0,3] [] (qaa Tryz.f193 0) (qgA A 0 (List.replicate A.length [I 0,B false])) (.exit 0) (qm9 C)]):
 Rt 193 [cS 2 A] [cS 2 C]:=
 h.of
theorem qtd(h:Oo []):
 Rt 117 [.agg [B q,I a,I b,B r,B s]] [.agg [B q,I a,I b,B r,B s]]:=
 h.of
def qgB(A:LL)(a:Int)(C:LL):St:=
 { env:=envOf 23 [(0,vF 5 A),(3,PV.al (AL.one (lO 7 5 C))),(4,vI a)],boxes:=[] }
theorem qte(A:LL)(a:Int)(C:LL)(s:Bool)(c d:Int)(t u v:Bool)(e b:Int)(q r:Bool)(d13 d14 d15 d16 d17:D)(h:Oo [.b (decide (a<(A.length:Int))) true,.p (0≤a),.p (a<(A.length:Int)),.e A a.toNat [B s,I c,I d,B t,B u],.r 117 [.agg [B s,I c,I d,B t,B u]] [.agg [B v,I e,I b,B q,B r]],.p (0≤a),.p (a<(C.length:Int)),.e C a.toNat [d13,d14,d15,d16,d17],.u a]):
 Tp (qaa Tryz.f59 0) (qgB A a C) .normal (qgB A (a+1) (C.set a.toNat [B v,I e,I b,B q,B r])):=
 h.lp [4,0,3] []
def qna(A:LL):St:=
 { env:=envOf 23 [(3,PV.al (AL.one (lO 7 5 A)))],boxes:=[] }
theorem qtf(h:Oo [.b (decide (a<(A.length:Int))) false]):
 Tp (qaa Tryz.f59 0) (qgB A a C) (.exit 0) (qna C):=
 h.lp [3] []
theorem qtg(h:Oo [.p (0≤(A.length:Int)),.p ((A.length:Int)≤(A.length:Int)),.p ((↑32:Int)*(A.length:Int)≤281474976710656),.p ((A.length:Int)≤9223372036854775807),.l [] [4,0,3] [] (qaa Tryz.f59 0) (qgB A 0 (List.replicate A.length [B false,I 0,I 0,B false,B false])) (.exit 0) (qna C)]):
 Rt 59 [cS 5 A] [cS 5 C]:=
 h.of
theorem qth(h:Oo []):
 Rt 118 [.agg [I a,I b,B q]] [.agg [I a,I b,B q]]:=
 h.of
def qgC(A:LL)(a:Int)(C:LL):St:=
 { env:=envOf 23 [(0,vF 3 A),(3,PV.al (AL.one (lO 7 3 C))),(4,vI a)],boxes:=[] }
theorem qti(A:LL)(a:Int)(C:LL)(b c:Int)(q:Bool)(d e:Int)(r:Bool)(d9 d10 d11:D)(h:Oo [.b (decide (a<(A.length:Int))) true,.p (0≤a),.p (a<(A.length:Int)),.e A a.toNat [I b,I c,B q],.r 118 [.agg [I b,I c,B q]] [.agg [I d,I e,B r]],.p (0≤a),.p (a<(C.length:Int)),.e C a.toNat [d9,d10,d11],.u a]):
 Tp (qaa Tryz.f60 0) (qgC A a C) .normal (qgC A (a+1) (C.set a.toNat [I d,I e,B r])):=
 h.lp [4,0,3] []
def qnb(A:LL):St:=
 { env:=envOf 23 [(3,PV.al (AL.one (lO 7 3 A)))],boxes:=[] }
theorem qtj(h:Oo [.b (decide (a<(A.length:Int))) false]):
 Tp (qaa Tryz.f60 0) (qgC A a C) (.exit 0) (qnb C):=
 h.lp [3] []
theorem qtk(h:Oo [.p (0≤(A.length:Int)),.p ((A.length:Int)≤(A.length:Int)),.p ((↑24:Int)*(A.length:Int)≤281474976710656),.p ((A.length:Int)≤9223372036854775807),.l [] [4,0,3] [] (qaa Tryz.f60 0) (qgC A 0 (List.replicate A.length [I 0,I 0,B false])) (.exit 0) (qnb C)]):
 Rt 60 [cS 3 A] [cS 3 C]:=
 h.of
theorem qtl(h:Oo [.r 191 [cS 1 A] [cS 1 C]]):
 Rt 171 [.agg (nd a b c A)] [.agg (nd a b c C)]:=
 h.of
def qgD(A:LL)(a:Int)(C:LL):St:=
 { env:=envOf 23 [(0,vF 4 A),(3,PV.al (AL.one (lO 7 4 C))),(4,vI a)],boxes:=[] }
theorem qtm(A:LL)(a:Int)(C:LL)(b c d:Int)(F:LL)(e f g:Int)(E:LL)(d11 d12 d13 d14:D)(h:Oo [.b (decide (a<(A.length:Int))) true,.p (0≤a),.p (a<(A.length:Int)),.e A a.toNat (nd b c d F),.r 171 [.agg (nd b c d F)] [.agg (nd e f g E)],.p (0≤a),.p (a<(C.length:Int)),.e C a.toNat [d11,d12,d13,d14],.u a]):
 Tp (qaa Tryz.f101 0) (qgD A a C) .normal (qgD A (a+1) (C.set a.toNat (nd e f g E))):=
 h.lp [4,0,3] []
def qnc(A:LL):St:=
 { env:=envOf 23 [(3,PV.al (AL.one (lO 7 4 A)))],boxes:=[] }
theorem qtn(h:Oo [.b (decide (a<(A.length:Int))) false]):
 Tp (qaa Tryz.f101 0) (qgD A a C) (.exit 0) (qnc C):=
 h.lp [3] []
theorem qto(h:Oo [.p (0≤(A.length:Int)),.p ((A.length:Int)≤(A.length:Int)),.p ((↑48:Int)*(A.length:Int)≤281474976710656),.p ((A.length:Int)≤9223372036854775807),.l [] [4,0,3] [] (qaa Tryz.f101 0) (qgD A 0 (List.replicate A.length [I 0,I 0,I 0,D.v (sn)])) (.exit 0) (qnc C)]):
 Rt 101 [cS 4 A] [cS 4 C]:=
 h.of
theorem qtp(h:Oo [.r 42 [cS 5 A] [cS 5 C]]):
 Rt 116 [.agg (lk a A b c d e)] [.agg (lk a C b c d e)]:=
 h.of
def qgE(A:LL)(a:Int)(C:LL):St:=
 { env:=envOf 23 [(0,vF 6 A),(3,PV.al (AL.one (lO 7 6 C))),(4,vI a)],boxes:=[] }
theorem qtq(A:LL)(a:Int)(C:LL)(f:Int)(F:LL)(g i j k l:Int)(E:LL)(b c d e:Int)(d15 d16 d17 d18 d19 d20:D)(h:Oo [.b (decide (a<(A.length:Int))) true,.p (0≤a),.p (a<(A.length:Int)),.e A a.toNat (lk f F g i j k),.r 116 [.agg (lk f F g i j k)] [.agg (lk l E b c d e)],.p (0≤a),.p (a<(C.length:Int)),.e C a.toNat [d15,d16,d17,d18,d19,d20],.u a]):
 Tp (qaa Tryz.f58 0) (qgE A a C) .normal (qgE A (a+1) (C.set a.toNat (lk l E b c d e))):=
 h.lp [4,0,3] []
def qnd(A:LL):St:=
 { env:=envOf 23 [(3,PV.al (AL.one (lO 7 6 A)))],boxes:=[] }
theorem qtr(h:Oo [.b (decide (a<(A.length:Int))) false]):
 Tp (qaa Tryz.f58 0) (qgE A a C) (.exit 0) (qnd C):=
 h.lp [3] []
theorem qts(h:Oo [.p (0≤(A.length:Int)),.p ((A.length:Int)≤(A.length:Int)),.p ((↑64:Int)*(A.length:Int)≤281474976710656),.p ((A.length:Int)≤9223372036854775807),.l [] [4,0,3] [] (qaa Tryz.f58 0) (qgE A 0 (List.replicate A.length [I 0,D.v (sn),I 0,I 0,I 0,I 0])) (.exit 0) (qnd C)]):
 Rt 58 [cS 6 A] [cS 6 C]:=
 h.of
theorem qtt(h:Oo [.r 101 [cS 4 A] [cS 4 C]]):
 Rt 41 [.agg (gr A a b)] [.agg (gr C a b)]:=
 h.of
theorem qtu(h:Oo [.r 42 [cS 5 A] [cS 5 S],.r 42 [cS 5 C] [cS 5 U],.r 42 [cS 5 L] [cS 5 E],.r 190 [cS 4 M] [cS 4 F],.r 191 [cS 1 N] [cS 1 G],.r 192 [cS 1 P] [cS 1 H],.r 192 [cS 1 Q] [cS 1 J],.r 193 [cS 2 R] [cS 2 K]]):
 Rt 115 [.agg (wk A C L M N P Q R)] [.agg (wk S U E F G H J K)]:=
 h.of
def qgF(A:LL)(a:Int)(C:LL):St:=
 { env:=envOf 23 [(0,vF 8 A),(3,PV.al (AL.one (lO 7 8 C))),(4,vI a)],boxes:=[] }
theorem qtv(A:LL)(a:Int)(C P Q R S U V W E F G H J K L M N:LL)(d19 d20 d21 d22 d23 d24 d25 d26:D)(h:Oo [.b (decide (a<(A.length:Int))) true,.p (0≤a),.p (a<(A.length:Int)),.e A a.toNat (wk P Q R S U V W E),.r 115 [.agg (wk P Q R S U V W E)] [.agg (wk F G H J K L M N)],.p (0≤a),.p (a<(C.length:Int)),.e C a.toNat [d19,d20,d21,d22,d23,d24,d25,d26],.u a]):
 Tp (qaa Tryz.f57 0) (qgF A a C) .normal (qgF A (a+1) (C.set a.toNat (wk F G H J K L M N))):=
 h.lp [4,0,3] []
def qne(A:LL):St:=
 { env:=envOf 23 [(3,PV.al (AL.one (lO 7 8 A)))],boxes:=[] }
theorem qtw(h:Oo [.b (decide (a<(A.length:Int))) false]):
 Tp (qaa Tryz.f57 0) (qgF A a C) (.exit 0) (qne C):=
 h.lp [3] []
theorem qtx(h:Oo [.p (0≤(A.length:Int)),.p ((A.length:Int)≤(A.length:Int)),.p ((↑192:Int)*(A.length:Int)≤281474976710656),.p ((A.length:Int)≤9223372036854775807),.l [] [4,0,3] [] (qaa Tryz.f57 0) (qgF A 0 (List.replicate A.length [D.v (sn),D.v (sn),D.v (sn),D.v (sn),D.v (sn),D.v (sn),D.v (sn),D.v (sn)])) (.exit 0) (qne C)]):
 Rt 57 [cS 8 A] [cS 8 C]:=
 h.of
theorem qty(h:Oo [.r 41 [.agg (gr A a b)] [.agg (gr M c d)],.r 57 [cS 8 H] [cS 8 C],.r 58 [cS 6 J] [cS 6 E],.r 59 [cS 5 K] [cS 5 F],.r 60 [cS 3 L] [cS 3 G]]):
 Rt 13 [.agg (cl A a b H J K L)] [.agg (cl M c d C E F G)]:=
 h.of
theorem qtz(h:Oo []):
 Rt 23 [.agg [I a,I b,I c]] [.agg [I a,I b,I c]]:=
 h.of
end Go.Proofs.YtdanpadojemjeaaGreat
