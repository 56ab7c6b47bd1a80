import Derived.Test.YtenekpkjlgddnaaDoorRows
import Derived.Test.YtenekpkjlgddnaaDoorGE
namespace Go.Proofs.YtenekpkjlgddnaaDoor
open Go.Sx Go.RowKit
variable {a b c d e f g i j k l : Int} {A C E F G H J K L M N P Q R S U : LL} {q r s t u v w x : Bool}
theorem qi9(h:Oo [.v (a-(A.length:Int)),.b (decide (a-(A.length:Int)<0)) true]):
 Rt 17 [cS 5 A,cI a] [cI (-1)]:=
 h.of
theorem qja(h:Oo [.v (a-(A.length:Int)),.b (decide (a-(A.length:Int)<0)) false]):
 Rt 17 [cS 5 A,cI a] [cI (a-(A.length:Int))]:=
 h.of
theorem qjb(h:Oo [.v (a-(A.length:Int)),.b (decide (a-(A.length:Int)<0)) true]):
 Rt 18 [cS 4 A,cI a] [cI (-1)]:=
 h.of
theorem qjc(h:Oo [.v (a-(A.length:Int)),.b (decide (a-(A.length:Int)<0)) false]):
 Rt 18 [cS 4 A,cI a] [cI (a-(A.length:Int))]:=
 h.of
theorem qjd(h:Oo [.v (a-(A.length:Int)),.b (decide (a-(A.length:Int)<0)) true]):
 Rt 19 [cS 1 A,cI a] [cI (-1)]:=
 h.of
theorem qje(h:Oo [.v (a-(A.length:Int)),.b (decide (a-(A.length:Int)<0)) false]):
 Rt 19 [cS 1 A,cI a] [cI (a-(A.length:Int))]:=
 h.of
theorem qjf(h:Oo [.v (a-(A.length:Int)),.b (decide (a-(A.length:Int)<0)) true]):
 Rt 20 [cS 1 A,cI a] [cI (-1)]:=
 h.of
theorem qjg(h:Oo [.v (a-(A.length:Int)),.b (decide (a-(A.length:Int)<0)) false]):
 Rt 20 [cS 1 A,cI a] [cI (a-(A.length:Int))]:=
 h.of
theorem qjh(h:Oo [.v (a-(A.length:Int)),.b (decide (a-(A.length:Int)<0)) true]):
 Rt 21 [cS 2 A,cI a] [cI (-1)]:=
 h.of
theorem qji(h:Oo [.v (a-(A.length:Int)),.b (decide (a-(A.length:Int)<0)) false]):
 Rt 21 [cS 2 A,cI a] [cI (a-(A.length:Int))]:=
 h.of
theorem qjj(h:Oo [.r 17 [cS 5 A,cI a] [cI b],.b (decide (b<0)) true]):
 Rt 8 [.agg (wk A C E F G H J K),cI a] [cI (-1)]:=
 h.of
theorem qjk(h:Oo [.r 17 [cS 5 A,cI c] [cI a],.b (decide (a<0)) false,.r 17 [cS 5 C,cI a] [cI b],.b (decide (b<0)) true]):
 Rt 8 [.agg (wk A C E F G H J K),cI c] [cI (-1)]:=
 h.of
theorem qjl(h:Oo [.r 17 [cS 5 A,cI d] [cI b],.b (decide (b<0)) false,.r 17 [cS 5 C,cI b] [cI a],.b (decide (a<0)) false,.r 17 [cS 5 E,cI a] [cI c],.b (decide (c<0)) true]):
 Rt 8 [.agg (wk A C E F G H J K),cI d] [cI (-1)]:=
 h.of
theorem qjm(h:Oo [.r 17 [cS 5 A,cI e] [cI c],.b (decide (c<0)) false,.r 17 [cS 5 C,cI c] [cI a],.b (decide (a<0)) false,.r 17 [cS 5 E,cI a] [cI b],.b (decide (b<0)) false,.r 18 [cS 4 F,cI b] [cI d],.b (decide (d<0)) true]):
 Rt 8 [.agg (wk A C E F G H J K),cI e] [cI (-1)]:=
 h.of
theorem qjn(h:Oo [.r 17 [cS 5 A,cI f] [cI d],.b (decide (d<0)) false,.r 17 [cS 5 C,cI d] [cI a],.b (decide (a<0)) false,.r 17 [cS 5 E,cI a] [cI b],.b (decide (b<0)) false,.r 18 [cS 4 F,cI b] [cI c],.b (decide (c<0)) false,.r 19 [cS 1 G,cI c] [cI e],.b (decide (e<0)) true]):
 Rt 8 [.agg (wk A C E F G H J K),cI f] [cI (-1)]:=
 h.of
theorem qjo(h:Oo [.r 17 [cS 5 A,cI g] [cI e],.b (decide (e<0)) false,.r 17 [cS 5 C,cI e] [cI a],.b (decide (a<0)) false,.r 17 [cS 5 E,cI a] [cI b],.b (decide (b<0)) false,.r 18 [cS 4 F,cI b] [cI c],.b (decide (c<0)) false,.r 19 [cS 1 G,cI c] [cI d],.b (decide (d<0)) false,.r 20 [cS 1 H,cI d] [cI f],.b (decide (f<0)) true]):
 Rt 8 [.agg (wk A C E F G H J K),cI g] [cI (-1)]:=
 h.of
theorem qjp(h:Oo [.r 17 [cS 5 A,cI i] [cI f],.b (decide (f<0)) false,.r 17 [cS 5 C,cI f] [cI a],.b (decide (a<0)) false,.r 17 [cS 5 E,cI a] [cI b],.b (decide (b<0)) false,.r 18 [cS 4 F,cI b] [cI c],.b (decide (c<0)) false,.r 19 [cS 1 G,cI c] [cI d],.b (decide (d<0)) false,.r 20 [cS 1 H,cI d] [cI e],.b (decide (e<0)) false,.r 20 [cS 1 J,cI e] [cI g],.b (decide (g<0)) true]):
 Rt 8 [.agg (wk A C E F G H J K),cI i] [cI (-1)]:=
 h.of
theorem qjq(h:Oo [.r 17 [cS 5 A,cI j] [cI g],.b (decide (g<0)) false,.r 17 [cS 5 C,cI g] [cI a],.b (decide (a<0)) false,.r 17 [cS 5 E,cI a] [cI b],.b (decide (b<0)) false,.r 18 [cS 4 F,cI b] [cI c],.b (decide (c<0)) false,.r 19 [cS 1 G,cI c] [cI d],.b (decide (d<0)) false,.r 20 [cS 1 H,cI d] [cI e],.b (decide (e<0)) false,.r 20 [cS 1 J,cI e] [cI f],.b (decide (f<0)) false,.r 21 [cS 2 K,cI f] [cI i],.b (decide (i<0)) true]):
 Rt 8 [.agg (wk A C E F G H J K),cI j] [cI (-1)]:=
 h.of
theorem qjr(h:Oo [.r 17 [cS 5 A,cI j] [cI i],.b (decide (i<0)) false,.r 17 [cS 5 C,cI i] [cI a],.b (decide (a<0)) false,.r 17 [cS 5 E,cI a] [cI b],.b (decide (b<0)) false,.r 18 [cS 4 F,cI b] [cI c],.b (decide (c<0)) false,.r 19 [cS 1 G,cI c] [cI d],.b (decide (d<0)) false,.r 20 [cS 1 H,cI d] [cI e],.b (decide (e<0)) false,.r 20 [cS 1 J,cI e] [cI f],.b (decide (f<0)) false,.r 21 [cS 2 K,cI f] [cI g],.b (decide (g<0)) false]):
 Rt 8 [.agg (wk A C E F G H J K),cI j] [cI g]:=
 h.of
end Go.Proofs.YtenekpkjlgddnaaDoor
namespace Go.Proofs.YtenekpkjlgddnaaDoor
open Go.Sx Go.RowKit
variable {a b c d e f g i j k l : Int} {A C E F G H J K L M N P Q R S U : LL} {q r s t u v w x : Bool}
theorem qjw(h:Oo []):
 Rt 45 [.agg [I a,I b]] [.agg [I a,I b]]:=
 h.of
theorem qjx(h:Oo [.r 45 [.agg [I b,I c]] [.agg [I f,I g]]]):
 Rt 35 [.agg (ri a b c d e)] [.agg (ri a f g d e)]:=
 h.of
def qcM(A:LL)(a:Int)(C:LL):St:=
 { env:=envOf 23 [(0,vF 5 A),(3,PV.al (AL.one (lO 7 5 C))),(4,vI a)],boxes:=[] }
theorem qjy(A:LL)(a:Int)(C:LL)(e f g i j k l b c d:Int)(d13 d14 d15 d16 d17:D)(h:Oo [.b (decide (a<(A.length:Int))) true,.p (0≤a),.p (a<(A.length:Int)),.e A a.toNat (ri e f g i j),.r 35 [.agg (ri e f g i j)] [.agg (ri k l b c d)],.p (0≤a),.p (a<(C.length:Int)),.e C a.toNat [d13,d14,d15,d16,d17],.u a]):
 Tp (qac Tryd.f22 0) (qcM A a C) .normal (qcM A (a+1) (C.set a.toNat (ri k l b c d))):=
 h.lp [4,0,3] []
def qhc(A:LL):St:=
 { env:=envOf 23 [(3,PV.al (AL.one (lO 7 5 A)))],boxes:=[] }
theorem qjz(h:Oo [.b (decide (a<(A.length:Int))) false]):
 Tp (qac Tryd.f22 0) (qcM A a C) (.exit 0) (qhc C):=
 h.lp [3] []
theorem qjA(h:Oo [.p (0≤(A.length:Int)),.p ((A.length:Int)≤(A.length:Int)),.p ((↑40:Int)*(A.length:Int)≤281474976710656),.p ((A.length:Int)≤9223372036854775807),.l [] [4,0,3] [] (qac Tryd.f22 0) (qcM A 0 (List.replicate A.length (ri 0 0 0 0 0))) (.exit 0) (qhc C)]):
 Rt 22 [cS 5 A] [cS 5 C]:=
 h.of
theorem qjB(h:Oo []):
 Rt 36 [.agg [I a,I b,I c,I d]] [.agg [I a,I b,I c,I d]]:=
 h.of
def qcN(A:LL)(a:Int)(C:LL):St:=
 { env:=envOf 23 [(0,vF 4 A),(3,PV.al (AL.one (lO 7 4 C))),(4,vI a)],boxes:=[] }
theorem qjC(A:LL)(a:Int)(C:LL)(c d e f g i j b:Int)(d11 d12 d13 d14:D)(h:Oo [.b (decide (a<(A.length:Int))) true,.p (0≤a),.p (a<(A.length:Int)),.e A a.toNat [I c,I d,I e,I f],.r 36 [.agg [I c,I d,I e,I f]] [.agg [I g,I i,I j,I b]],.p (0≤a),.p (a<(C.length:Int)),.e C a.toNat [d11,d12,d13,d14],.u a]):
 Tp (qac Tryd.f23 0) (qcN A a C) .normal (qcN A (a+1) (C.set a.toNat [I g,I i,I j,I b])):=
 h.lp [4,0,3] []
def qhd(A:LL):St:=
 { env:=envOf 23 [(3,PV.al (AL.one (lO 7 4 A)))],boxes:=[] }
theorem qjD(h:Oo [.b (decide (a<(A.length:Int))) false]):
 Tp (qac Tryd.f23 0) (qcN A a C) (.exit 0) (qhd C):=
 h.lp [3] []
theorem qjE(h:Oo [.p (0≤(A.length:Int)),.p ((A.length:Int)≤(A.length:Int)),.p ((↑32:Int)*(A.length:Int)≤281474976710656),.p ((A.length:Int)≤9223372036854775807),.l [] [4,0,3] [] (qac Tryd.f23 0) (qcN A 0 (List.replicate A.length [I 0,I 0,I 0,I 0])) (.exit 0) (qhd C)]):
 Rt 23 [cS 4 A] [cS 4 C]:=
 h.of
def qcO(A:LL)(a:Int)(C:LL):St:=
 { env:=envOf 22 [(0,vF 1 A),(3,PV.al (AL.one (lO 7 1 C))),(4,vI a)],boxes:=[] }
theorem qjF(A:LL)(a:Int)(C:LL)(b:Int)(d4:D)(h:Oo [.b (decide (a<(A.length:Int))) true,.p (0≤a),.p (a<(A.length:Int)),.e A a.toNat [I b],.p (0≤a),.p (a<(C.length:Int)),.e C a.toNat [d4],.u a]):
 Tp (qac Tryd.f24 0) (qcO A a C) .normal (qcO A (a+1) (C.set a.toNat [I b])):=
 h.lp [4,0,3] []
def qhe(A:LL):St:=
 { env:=envOf 22 [(3,PV.al (AL.one (lO 7 1 A)))],boxes:=[] }
theorem qjG(h:Oo [.b (decide (a<(A.length:Int))) false]):
 Tp (qac Tryd.f24 0) (qcO A a C) (.exit 0) (qhe C):=
 h.lp [3] []
theorem qjH(h:Oo [.p (0≤(A.length:Int)),.p ((A.length:Int)≤(A.length:Int)),.p ((↑8:Int)*(A.length:Int)≤281474976710656),.p ((A.length:Int)≤9223372036854775807),.l [] [4,0,3] [] (qac Tryd.f24 0) (qcO A 0 (List.replicate A.length [I 0])) (.exit 0) (qhe C)]):
 Rt 24 [cS 1 A] [cS 1 C]:=
 h.of
def qcP(A:LL)(a:Int)(C:LL):St:=
 { env:=envOf 22 [(0,vF 1 A),(3,PV.al (AL.one (lO 7 1 C))),(4,vI a)],boxes:=[] }
theorem qjI(A:LL)(a:Int)(C:LL)(q:Bool)(d4:D)(h:Oo [.b (decide (a<(A.length:Int))) true,.p (0≤a),.p (a<(A.length:Int)),.e A a.toNat [B q],.p (0≤a),.p (a<(C.length:Int)),.e C a.toNat [d4],.u a]):
 Tp (qac Tryd.f25 0) (qcP A a C) .normal (qcP A (a+1) (C.set a.toNat [B q])):=
 h.lp [4,0,3] []
def qhf(A:LL):St:=
 { env:=envOf 22 [(3,PV.al (AL.one (lO 7 1 A)))],boxes:=[] }
theorem qjJ(h:Oo [.b (decide (a<(A.length:Int))) false]):
 Tp (qac Tryd.f25 0) (qcP A a C) (.exit 0) (qhf C):=
 h.lp [3] []
theorem qjK(h:Oo [.p (0≤(A.length:Int)),.p ((A.length:Int)≤(A.length:Int)),.p ((↑1:Int)*(A.length:Int)≤281474976710656),.p ((A.length:Int)≤9223372036854775807),.l [] [4,0,3] [] (qac Tryd.f25 0) (qcP A 0 (List.replicate A.length [B false])) (.exit 0) (qhf C)]):
 Rt 25 [cS 1 A] [cS 1 C]:=
 h.of
theorem qjL(h:Oo []):
 Rt 37 [.agg [I a,B q]] [.agg [I a,B q]]:=
 h.of
def qcQ(A:LL)(a:Int)(C:LL):St:=
 { env:=envOf 23 [(0,vF 2 A),(3,PV.al (AL.one (lO 7 2 C))),(4,vI a)],boxes:=[] }
theorem qjM(A:LL)(a:Int)(C:LL)(b:Int)(q:Bool)(c:Int)(r:Bool)(d7 d8:D)(h:Oo [.b (decide (a<(A.length:Int))) true,.p (0≤a),.p (a<(A.length:Int)),.e A a.toNat [I b,B q],.r 37 [.agg [I b,B q]] [.agg [I c,B r]],.p (0≤a),.p (a<(C.length:Int)),.e C a.toNat [d7,d8],.u a]):
 Tp (qac Tryd.f26 0) (qcQ A a C) .normal (qcQ A (a+1) (C.set a.toNat [I c,B r])):=
 h.lp [4,0,3] []
def qhg(A:LL):St:=
 { env:=envOf 23 [(3,PV.al (AL.one (lO 7 2 A)))],boxes:=[] }
theorem qjN(h:Oo [.b (decide (a<(A.length:Int))) false]):
 Tp (qac Tryd.f26 0) (qcQ A a C) (.exit 0) (qhg C):=
 h.lp [3] []
theorem qjO(h:Oo [.p (0≤(A.length:Int)),.p ((A.length:Int)≤(A.length:Int)),.p ((↑16:Int)*(A.length:Int)≤281474976710656),.p ((A.length:Int)≤9223372036854775807),.l [] [4,0,3] [] (qac Tryd.f26 0) (qcQ A 0 (List.replicate A.length [I 0,B false])) (.exit 0) (qhg C)]):
 Rt 26 [cS 2 A] [cS 2 C]:=
 h.of
theorem qjP(h:Oo [.r 22 [cS 5 A] [cS 5 S],.r 22 [cS 5 C] [cS 5 U],.r 22 [cS 5 L] [cS 5 E],.r 23 [cS 4 M] [cS 4 F],.r 24 [cS 1 N] [cS 1 G],.r 25 [cS 1 P] [cS 1 H],.r 25 [cS 1 Q] [cS 1 J],.r 26 [cS 2 R] [cS 2 K]]):
 Rt 10 [.agg (wk A C L M N P Q R)] [.agg (wk S U E F G H J K)]:=
 h.of
end Go.Proofs.YtenekpkjlgddnaaDoor
namespace Go.Proofs.YtenekpkjlgddnaaDoor
open Go.Sx Go.RowKit
variable {a b c d e f g i j k l : Int} {A C E F G H J K L M N P Q R S U : LL} {q r s t u v w x : Bool}
theorem qjY(h:Oo [.b (a != b) true]):
 Rt 48 [.agg [I a,I c],.agg [I b,I d]] [cB false]:=
 h.of
theorem qjZ(h:Oo [.b (a != c) false,.b (b != d) true]):
 Rt 48 [.agg [I a,I b],.agg [I c,I d]] [cB false]:=
 h.of
theorem qj0(h:Oo [.b (a != c) false,.b (b != d) false]):
 Rt 48 [.agg [I a,I b],.agg [I c,I d]] [cB true]:=
 h.of
theorem qj1(h:Oo [.b (a != b) true]):
 Rt 41 [.agg (ri a c d e f),.agg (ri b g i j k)] [cB false]:=
 h.of
theorem qj2(h:Oo [.b (a != d) false,.r 48 [.agg [I b,I c],.agg [I e,I f]] [cB q],.n q true]):
 Rt 41 [.agg (ri a b c g i),.agg (ri d e f j k)] [cB false]:=
 h.of
theorem qj3(h:Oo [.b (a != e) false,.r 48 [.agg [I b,I c],.agg [I f,I g]] [cB q],.n q false,.b (d != i) true]):
 Rt 41 [.agg (ri a b c d j),.agg (ri e f g i k)] [cB false]:=
 h.of
theorem qj4(h:Oo [.b (a != f) false,.r 48 [.agg [I b,I c],.agg [I g,I i]] [cB q],.n q false,.b (d != j) false,.b (e != k) true]):
 Rt 41 [.agg (ri a b c d e),.agg (ri f g i j k)] [cB false]:=
 h.of
theorem qj5(h:Oo [.b (a != f) false,.r 48 [.agg [I b,I c],.agg [I g,I i]] [cB q],.n q false,.b (d != j) false,.b (e != k) false]):
 Rt 41 [.agg (ri a b c d e),.agg (ri f g i j k)] [cB true]:=
 h.of
theorem qj6(h:Oo [.b ((A.length:Int) != (C.length:Int)) true]):
 Rt 28 [cS 5 A,cS 5 C] [cB false]:=
 h.of
def qbU(A C:LL)(a:Int):St:=
 { env:=envOf 27 [(0,vF 5 A),(1,vF 5 C),(5,vI a)],boxes:=[] }
def qhi(q:Bool):St:=
 { env:=envOf 27 [(4,.al (.one (.sb q)))],boxes:=[] }
theorem qj7(h:Oo [.b (decide (a<(A.length:Int))) true,.p (0≤a),.p (a<(A.length:Int)),.e A a.toNat (ri e f g i j),.p (0≤a),.p (a<(C.length:Int)),.e C a.toNat (ri k l b c d),.r 41 [.agg (ri e f g i j),.agg (ri k l b c d)] [cB q],.n q true]):
 Tp (qac Tryd.f28 0) (qbU A C a) .ret (qhi false):=
 h.lp [4] []
theorem qj8(h:Oo [.b (decide (a<(A.length:Int))) true,.p (0≤a),.p (a<(A.length:Int)),.e A a.toNat (ri e f g i j),.p (0≤a),.p (a<(C.length:Int)),.e C a.toNat (ri k l b c d),.r 41 [.agg (ri e f g i j),.agg (ri k l b c d)] [cB q],.n q false,.u a]):
 Tp (qac Tryd.f28 0) (qbU A C a) .normal (qbU A C (a+1)):=
 h.lp [5,0,1] []
def qhj:St:=
 { env:=envOf 27 [],boxes:=[] }
theorem qj9(h:Oo [.b (decide (a<(A.length:Int))) false]):
 Tp (qac Tryd.f28 0) (qbU A C a) (.exit 0) qhj:=
 h.lp [] []
theorem qka(A C:LL)(q:Bool)(h:Oo [.b ((A.length:Int) != (C.length:Int)) false,.l [] [5,0,1] [] (qac Tryd.f28 0) (qbU A C 0) .ret (qhi q)]):
 Rt 28 [cS 5 A,cS 5 C] [cB q]:=
 h.of
theorem qkb(h:Oo [.b ((A.length:Int) != (C.length:Int)) false,.l [] [5,0,1] [] (qac Tryd.f28 0) (qbU A C 0) (.exit 0) qhj]):
 Rt 28 [cS 5 A,cS 5 C] [cB true]:=
 h.of
theorem qkc(h:Oo [.b (a != b) true]):
 Rt 42 [.agg [I a,I c,I d,I e],.agg [I b,I f,I g,I i]] [cB false]:=
 h.of
theorem qkd(h:Oo [.b (a != c) false,.b (b != d) true]):
 Rt 42 [.agg [I a,I b,I e,I f],.agg [I c,I d,I g,I i]] [cB false]:=
 h.of
theorem qke(h:Oo [.b (a != d) false,.b (b != e) false,.b (c != f) true]):
 Rt 42 [.agg [I a,I b,I c,I g],.agg [I d,I e,I f,I i]] [cB false]:=
 h.of
theorem qkf(h:Oo [.b (a != e) false,.b (b != f) false,.b (c != g) false,.b (d != i) true]):
 Rt 42 [.agg [I a,I b,I c,I d],.agg [I e,I f,I g,I i]] [cB false]:=
 h.of
theorem qkg(h:Oo [.b (a != e) false,.b (b != f) false,.b (c != g) false,.b (d != i) false]):
 Rt 42 [.agg [I a,I b,I c,I d],.agg [I e,I f,I g,I i]] [cB true]:=
 h.of
theorem qkh(h:Oo [.b ((A.length:Int) != (C.length:Int)) true]):
 Rt 29 [cS 4 A,cS 4 C] [cB false]:=
 h.of
def qbV(A C:LL)(a:Int):St:=
 { env:=envOf 27 [(0,vF 4 A),(1,vF 4 C),(5,vI a)],boxes:=[] }
def qhk(q:Bool):St:=
 { env:=envOf 27 [(4,.al (.one (.sb q)))],boxes:=[] }
theorem qki(h:Oo [.b (decide (a<(A.length:Int))) true,.p (0≤a),.p (a<(A.length:Int)),.e A a.toNat [I c,I d,I e,I f],.p (0≤a),.p (a<(C.length:Int)),.e C a.toNat [I g,I i,I j,I b],.r 42 [.agg [I c,I d,I e,I f],.agg [I g,I i,I j,I b]] [cB q],.n q true]):
 Tp (qac Tryd.f29 0) (qbV A C a) .ret (qhk false):=
 h.lp [4] []
theorem qkj(h:Oo [.b (decide (a<(A.length:Int))) true,.p (0≤a),.p (a<(A.length:Int)),.e A a.toNat [I c,I d,I e,I f],.p (0≤a),.p (a<(C.length:Int)),.e C a.toNat [I g,I i,I j,I b],.r 42 [.agg [I c,I d,I e,I f],.agg [I g,I i,I j,I b]] [cB q],.n q false,.u a]):
 Tp (qac Tryd.f29 0) (qbV A C a) .normal (qbV A C (a+1)):=
 h.lp [5,0,1] []
def qhl:St:=
 { env:=envOf 27 [],boxes:=[] }
theorem qkk(h:Oo [.b (decide (a<(A.length:Int))) false]):
 Tp (qac Tryd.f29 0) (qbV A C a) (.exit 0) qhl:=
 h.lp [] []
theorem qkl(A C:LL)(q:Bool)(h:Oo [.b ((A.length:Int) != (C.length:Int)) false,.l [] [5,0,1] [] (qac Tryd.f29 0) (qbV A C 0) .ret (qhk q)]):
 Rt 29 [cS 4 A,cS 4 C] [cB q]:=
 h.of
theorem qkm(h:Oo [.b ((A.length:Int) != (C.length:Int)) false,.l [] [5,0,1] [] (qac Tryd.f29 0) (qbV A C 0) (.exit 0) qhl]):
 Rt 29 [cS 4 A,cS 4 C] [cB true]:=
 h.of
theorem qkn(h:Oo [.b ((A.length:Int) != (C.length:Int)) true]):
 Rt 30 [cS 1 A,cS 1 C] [cB false]:=
 h.of
def qbW(A C:LL)(a:Int):St:=
 { env:=envOf 26 [(0,vF 1 A),(1,vF 1 C),(5,vI a)],boxes:=[] }
def qhm(q:Bool):St:=
 { env:=envOf 26 [(4,.al (.one (.sb q)))],boxes:=[] }
theorem qko(h:Oo [.b (decide (a<(A.length:Int))) true,.p (0≤a),.p (a<(A.length:Int)),.e A a.toNat [I b],.p (0≤a),.p (a<(C.length:Int)),.e C a.toNat [I c],.b (b != c) true]):
 Tp (qac Tryd.f30 0) (qbW A C a) .ret (qhm false):=
 h.lp [4] []
theorem qkp(h:Oo [.b (decide (a<(A.length:Int))) true,.p (0≤a),.p (a<(A.length:Int)),.e A a.toNat [I b],.p (0≤a),.p (a<(C.length:Int)),.e C a.toNat [I c],.b (b != c) false,.u a]):
 Tp (qac Tryd.f30 0) (qbW A C a) .normal (qbW A C (a+1)):=
 h.lp [5,0,1] []
def qhn:St:=
 { env:=envOf 26 [],boxes:=[] }
theorem qkq(h:Oo [.b (decide (a<(A.length:Int))) false]):
 Tp (qac Tryd.f30 0) (qbW A C a) (.exit 0) qhn:=
 h.lp [] []
theorem qkr(A C:LL)(q:Bool)(h:Oo [.b ((A.length:Int) != (C.length:Int)) false,.l [] [5,0,1] [] (qac Tryd.f30 0) (qbW A C 0) .ret (qhm q)]):
 Rt 30 [cS 1 A,cS 1 C] [cB q]:=
 h.of
theorem qks(h:Oo [.b ((A.length:Int) != (C.length:Int)) false,.l [] [5,0,1] [] (qac Tryd.f30 0) (qbW A C 0) (.exit 0) qhn]):
 Rt 30 [cS 1 A,cS 1 C] [cB true]:=
 h.of
theorem qkt(h:Oo [.b ((A.length:Int) != (C.length:Int)) true]):
 Rt 31 [cS 1 A,cS 1 C] [cB false]:=
 h.of
def qbX(A C:LL)(a:Int):St:=
 { env:=envOf 26 [(0,vF 1 A),(1,vF 1 C),(5,vI a)],boxes:=[] }
def qho(q:Bool):St:=
 { env:=envOf 26 [(4,.al (.one (.sb q)))],boxes:=[] }
theorem qku(h:Oo [.b (decide (a<(A.length:Int))) true,.p (0≤a),.p (a<(A.length:Int)),.e A a.toNat [B q],.p (0≤a),.p (a<(C.length:Int)),.e C a.toNat [B r],.b (!q==r) true]):
 Tp (qac Tryd.f31 0) (qbX A C a) .ret (qho false):=
 h.lp [4] []
theorem qkv(h:Oo [.b (decide (a<(A.length:Int))) true,.p (0≤a),.p (a<(A.length:Int)),.e A a.toNat [B q],.p (0≤a),.p (a<(C.length:Int)),.e C a.toNat [B r],.b (!q==r) false,.u a]):
 Tp (qac Tryd.f31 0) (qbX A C a) .normal (qbX A C (a+1)):=
 h.lp [5,0,1] []
def qhp:St:=
 { env:=envOf 26 [],boxes:=[] }
theorem qkw(h:Oo [.b (decide (a<(A.length:Int))) false]):
 Tp (qac Tryd.f31 0) (qbX A C a) (.exit 0) qhp:=
 h.lp [] []
theorem qkx(A C:LL)(q:Bool)(h:Oo [.b ((A.length:Int) != (C.length:Int)) false,.l [] [5,0,1] [] (qac Tryd.f31 0) (qbX A C 0) .ret (qho q)]):
 Rt 31 [cS 1 A,cS 1 C] [cB q]:=
 h.of
theorem qky(h:Oo [.b ((A.length:Int) != (C.length:Int)) false,.l [] [5,0,1] [] (qac Tryd.f31 0) (qbX A C 0) (.exit 0) qhp]):
 Rt 31 [cS 1 A,cS 1 C] [cB true]:=
 h.of
theorem qkz(h:Oo [.b (a != b) true]):
 Rt 43 [.agg [I a,B q],.agg [I b,B r]] [cB false]:=
 h.of
theorem qkA(h:Oo [.b (a != b) false,.b (!q==r) true]):
 Rt 43 [.agg [I a,B q],.agg [I b,B r]] [cB false]:=
 h.of
theorem qkB(h:Oo [.b (a != b) false,.b (!q==r) false]):
 Rt 43 [.agg [I a,B q],.agg [I b,B r]] [cB true]:=
 h.of
theorem qkC(h:Oo [.b ((A.length:Int) != (C.length:Int)) true]):
 Rt 32 [cS 2 A,cS 2 C] [cB false]:=
 h.of
def qbY(A C:LL)(a:Int):St:=
 { env:=envOf 27 [(0,vF 2 A),(1,vF 2 C),(5,vI a)],boxes:=[] }
def qhq(q:Bool):St:=
 { env:=envOf 27 [(4,.al (.one (.sb q)))],boxes:=[] }
theorem qkD(h:Oo [.b (decide (a<(A.length:Int))) true,.p (0≤a),.p (a<(A.length:Int)),.e A a.toNat [I b,B q],.p (0≤a),.p (a<(C.length:Int)),.e C a.toNat [I c,B r],.r 43 [.agg [I b,B q],.agg [I c,B r]] [cB s],.n s true]):
 Tp (qac Tryd.f32 0) (qbY A C a) .ret (qhq false):=
 h.lp [4] []
theorem qkE(h:Oo [.b (decide (a<(A.length:Int))) true,.p (0≤a),.p (a<(A.length:Int)),.e A a.toNat [I b,B q],.p (0≤a),.p (a<(C.length:Int)),.e C a.toNat [I c,B r],.r 43 [.agg [I b,B q],.agg [I c,B r]] [cB s],.n s false,.u a]):
 Tp (qac Tryd.f32 0) (qbY A C a) .normal (qbY A C (a+1)):=
 h.lp [5,0,1] []
def qhr:St:=
 { env:=envOf 27 [],boxes:=[] }
theorem qkF(h:Oo [.b (decide (a<(A.length:Int))) false]):
 Tp (qac Tryd.f32 0) (qbY A C a) (.exit 0) qhr:=
 h.lp [] []
theorem qkG(A C:LL)(q:Bool)(h:Oo [.b ((A.length:Int) != (C.length:Int)) false,.l [] [5,0,1] [] (qac Tryd.f32 0) (qbY A C 0) .ret (qhq q)]):
 Rt 32 [cS 2 A,cS 2 C] [cB q]:=
 h.of
theorem qkH(h:Oo [.b ((A.length:Int) != (C.length:Int)) false,.l [] [5,0,1] [] (qac Tryd.f32 0) (qbY A C 0) (.exit 0) qhr]):
 Rt 32 [cS 2 A,cS 2 C] [cB true]:=
 h.of
theorem qkI(h:Oo [.r 28 [cS 5 A,cS 5 C] [cB q],.n q true]):
 Rt 12 [.agg (wk A E M N P Q R S),.agg (wk C U F G H J K L)] [cB false]:=
 h.of
theorem qkJ(h:Oo [.r 28 [cS 5 A,cS 5 E] [cB q],.n q false,.r 28 [cS 5 C,cS 5 F] [cB r],.n r true]):
 Rt 12 [.agg (wk A C N P Q R S U),.agg (wk E F G H J K L M)] [cB false]:=
 h.of
theorem qkK(h:Oo [.r 28 [cS 5 A,cS 5 G] [cB q],.n q false,.r 28 [cS 5 C,cS 5 H] [cB r],.n r false,.r 28 [cS 5 F,cS 5 E] [cB s],.n s true]):
 Rt 12 [.agg (wk A C F P Q R S U),.agg (wk G H E J K L M N)] [cB false]:=
 h.of
theorem qkL(h:Oo [.r 28 [cS 5 A,cS 5 J] [cB q],.n q false,.r 28 [cS 5 C,cS 5 K] [cB r],.n r false,.r 28 [cS 5 G,cS 5 E] [cB s],.n s false,.r 29 [cS 4 H,cS 4 F] [cB t],.n t true]):
 Rt 12 [.agg (wk A C G H Q R S U),.agg (wk J K E F L M N P)] [cB false]:=
 h.of
theorem qkM(h:Oo [.r 28 [cS 5 A,cS 5 L] [cB q],.n q false,.r 28 [cS 5 C,cS 5 M] [cB r],.n r false,.r 28 [cS 5 H,cS 5 E] [cB s],.n s false,.r 29 [cS 4 J,cS 4 F] [cB t],.n t false,.r 30 [cS 1 K,cS 1 G] [cB u],.n u true]):
 Rt 12 [.agg (wk A C H J K R S U),.agg (wk L M E F G N P Q)] [cB false]:=
 h.of
theorem qkN(h:Oo [.r 28 [cS 5 A,cS 5 N] [cB q],.n q false,.r 28 [cS 5 C,cS 5 P] [cB r],.n r false,.r 28 [cS 5 J,cS 5 E] [cB s],.n s false,.r 29 [cS 4 K,cS 4 F] [cB t],.n t false,.r 30 [cS 1 L,cS 1 G] [cB u],.n u false,.r 31 [cS 1 M,cS 1 H] [cB v],.n v true]):
 Rt 12 [.agg (wk A C J K L M S U),.agg (wk N P E F G H Q R)] [cB false]:=
 h.of
theorem qkO(h:Oo [.r 28 [cS 5 A,cS 5 Q] [cB q],.n q false,.r 28 [cS 5 C,cS 5 R] [cB r],.n r false,.r 28 [cS 5 K,cS 5 E] [cB s],.n s false,.r 29 [cS 4 L,cS 4 F] [cB t],.n t false,.r 30 [cS 1 M,cS 1 G] [cB u],.n u false,.r 31 [cS 1 N,cS 1 H] [cB v],.n v false,.r 31 [cS 1 P,cS 1 J] [cB w],.n w true]):
 Rt 12 [.agg (wk A C K L M N P U),.agg (wk Q R E F G H J S)] [cB false]:=
 h.of
theorem qkP(h:Oo [.r 28 [cS 5 A,cS 5 S] [cB q],.n q false,.r 28 [cS 5 C,cS 5 U] [cB r],.n r false,.r 28 [cS 5 L,cS 5 E] [cB s],.n s false,.r 29 [cS 4 M,cS 4 F] [cB t],.n t false,.r 30 [cS 1 N,cS 1 G] [cB u],.n u false,.r 31 [cS 1 P,cS 1 H] [cB v],.n v false,.r 31 [cS 1 Q,cS 1 J] [cB w],.n w false,.r 32 [cS 2 R,cS 2 K] [cB x],.n x true]):
 Rt 12 [.agg (wk A C L M N P Q R),.agg (wk S U E F G H J K)] [cB false]:=
 h.of
theorem qkQ(h:Oo [.r 28 [cS 5 A,cS 5 S] [cB q],.n q false,.r 28 [cS 5 C,cS 5 U] [cB r],.n r false,.r 28 [cS 5 L,cS 5 E] [cB s],.n s false,.r 29 [cS 4 M,cS 4 F] [cB t],.n t false,.r 30 [cS 1 N,cS 1 G] [cB u],.n u false,.r 31 [cS 1 P,cS 1 H] [cB v],.n v false,.r 31 [cS 1 Q,cS 1 J] [cB w],.n w false,.r 32 [cS 2 R,cS 2 K] [cB x],.n x false]):
 Rt 12 [.agg (wk A C L M N P Q R),.agg (wk S U E F G H J K)] [cB true]:=
 h.of
end Go.Proofs.YtenekpkjlgddnaaDoor
