import Derived.Test.YtenekpkjlgddnaaGreatRows
import Derived.Test.YtenekpkjlgddnaaGreatGE
set_option linter.unusedVariables false
set_option linter.unusedSimpArgs false
namespace Go.Proofs.YtenekpkjlgddnaaGreat
open Go.Sx Go.RowKit Go.Proofs.Tryz
variable {a b c d e f g i j k : Int} {A C E F G H J K : LL} {q r : Bool}
theorem qoe(h:Oo [.g ([]:LL) A 40,.h A]):
 Rt 70 [cS 5 A] [cS 5 ([]++A)]:=
 h.of
theorem qof(h:Oo [.b (decide (b<a)) true]):
 Rt 28 [cI c,cI a,cI b] [cI a]:=
 h.of
theorem qog(h:Oo [.b (decide (c<a)) false,.b (decide (b<a)) true]):
 Rt 28 [cI b,cI a,cI c] [cI a]:=
 h.of
theorem qoh(h:Oo [.b (decide (a<c)) false,.b (decide (b<c)) false,.b (decide (b>a)) true]):
 Rt 28 [cI b,cI c,cI a] [cI a]:=
 h.of
theorem qoi(h:Oo [.b (decide (c<b)) false,.b (decide (a<b)) false,.b (decide (a>c)) false]):
 Rt 28 [cI a,cI b,cI c] [cI a]:=
 h.of
theorem qoj(h:Oo [.b (decide (a≥b)) true]):
 Rt 48 [cI a,cI b,cI c] [cB (decide (a≤c))]:=
 h.of
theorem qok(h:Oo [.b (decide (a≥b)) false]):
 Rt 48 [cI a,cI b,cI c] [cB false]:=
 h.of
theorem qol(h:Oo [.b (decide (a≥b)) true]):
 Rt 30 [cI a,cI b,cI c] [cB (decide (a≤c))]:=
 h.of
theorem qom(h:Oo [.b (decide (a≥b)) false]):
 Rt 30 [cI a,cI b,cI c] [cB false]:=
 h.of
theorem qon(a:Int)(h:Oo []):
 Rt 106 [cI a] [cB (a != a)]:=
 h.of
theorem qoo(h:Oo [.r 106 [cI a] [cB q],.r 106 [cI b] [cB r],.b q false,.b r false,.b (decide (a<b)) true]):
 Rt 104 [cI a,cI b] [cI (-1)]:=
 h.of
theorem qop(h:Oo [.r 106 [cI a] [cB q],.r 106 [cI b] [cB r],.b q false,.b r false,.b (decide (a<b)) false,.b (decide (a>b)) true]):
 Rt 104 [cI a,cI b] [cI 1]:=
 h.of
theorem qoq(h:Oo [.r 106 [cI a] [cB q],.r 106 [cI b] [cB r],.b q false,.b r false,.b (decide (a<b)) false,.b (decide (a>b)) false]):
 Rt 104 [cI a,cI b] [cI 0]:=
 h.of
def qdw(A C:LL)(a:Int):St:=
 { env:=envOf 36 [(0,vF 1 A),(1,vF 1 C),(9,vF 1 A),(10,vI (A.length:Int)),(11,vI a)],boxes:=[] }
def qhN(a:Int):St:=
 { env:=envOf 36 [(4,vI a)],boxes:=[] }
theorem qor(h:Oo [.b (decide (a<(A.length:Int))) true,.p (0≤a),.p (a<(A.length:Int)),.e A a.toNat [I c],.b (decide (a≥(C.length:Int))) false,.p (0≤a),.p (a<(C.length:Int)),.e C a.toNat [I d],.r 104 [cI c,cI d] [cI b],.b (b != 0) true]):
 Tp (qab f99 0) (qdw A C a) .ret (qhN b):=
 h.lp [4] []
theorem qos(h:Oo [.b (decide (a<(A.length:Int))) true,.p (0≤a),.p (a<(A.length:Int)),.e A a.toNat [I b],.b (decide (a≥(C.length:Int))) false,.p (0≤a),.p (a<(C.length:Int)),.e C a.toNat [I c],.r 104 [cI b,cI c] [cI d],.b (d != 0) false,.u a]):
 Tp (qab f99 0) (qdw A C a) .normal (qdw A C (a+1)):=
 h.lp [11,10,9,1,0] []
def qkr(A C:LL):St:=
 { env:=envOf 36 [(0,vF 1 A),(1,vF 1 C)],boxes:=[] }
theorem qot(h:Oo [.b (decide (a<(A.length:Int))) false]):
 Tp (qab f99 0) (qdw A C a) (.exit 0) (qkr A C):=
 h.lp [0,1] []
theorem qou(h:Oo [.l [] [11,10,9,1,0] [] (qab f99 0) (qdw A C 0) .ret (qhN a)]):
 Rt 99 [cS 1 A,cS 1 C] [cI a]:=
 h.of
theorem qov(h:Oo [.l [] [11,10,9,1,0] [] (qab f99 0) (qdw A C 0) (.exit 0) (qkr A C),.b (decide ((A.length:Int)<(C.length:Int))) false]):
 Rt 99 [cS 1 A,cS 1 C] [cI 0]:=
 h.of
theorem qow(h:Oo [.r 99 [cS 1 A,cS 1 C] [cI a]]):
 Rt 92 [cS 1 A,cS 1 C] [cI a]:=
 h.of
def qdx(A:LL)(a b:Int)(C:LL):St:=
 { env:=envOf 25 [(1,vI a),(5,PV.al (AL.one (lO 22 5 C))),(8,vF 5 A),(9,vI (A.length:Int)),(10,vI b)],boxes:=[] }
theorem qox(h:Oo [.b (decide (a<(A.length:Int))) true,.p (0≤a),.p (a<(A.length:Int)),.e A a.toNat (ri c b d e f),.b (b==g) true,.g C [(ri c b d e f)] 40,.h [(ri c b d e f)],.u a]):
 Tp (qab f85 0) (qdx A g a C) .normal (qdx A g (a+1) (C++[(ri c b d e f)])):=
 h.lp [10,9,8,1,5] []
theorem qoy(h:Oo [.b (decide (a<(A.length:Int))) true,.p (0≤a),.p (a<(A.length:Int)),.e A a.toNat (ri d c e f g),.b (c==b) false,.u a]):
 Tp (qab f85 0) (qdx A b a C) .normal (qdx A b (a+1) C):=
 h.lp [10,9,8,1,5] []
def qks(A:LL):St:=
 { env:=envOf 25 [(5,PV.al (AL.one (lO 22 5 A)))],boxes:=[] }
theorem qoz(h:Oo [.b (decide (a<(A.length:Int))) false]):
 Tp (qab f85 0) (qdx A b a C) (.exit 0) (qks C):=
 h.lp [5] []
theorem qoA(h:Oo [.l [(5,22,5)] [10,9,8,1,5] [] (qab f85 0) (qdx A a 0 []) (.exit 0) (qks C)]):
 Rt 85 [cS 5 A,cI a] [cS 5 C]:=
 h.of
theorem qoB(h:Oo [.r 81 [cS 2 A,.one (.cl 82 [D.ptr [I a]])] [cB q]]):
 Rt 66 [cS 2 A,cI a] [cB q]:=
 h.of
theorem qoC(h:Oo []):
 Rt 82 [.agg [I a,B q],.one (.ptr [I b])] [cB (a==b)]:=
 h.of
theorem qoD(h:Oo [.r 66 [cS 2 A,cI a] [cB q]]):
 Rt 49 [.agg (wk C E F G H J K A),cI a] [cB q]:=
 h.of
def qdy(A:LL)(g1:Nat)(k2:List D)(a:Int):St:=
 { env:=envOf 19 [(0,vF 5 A),(1,.al (.one (.fd (D.cl g1 k2)))),(7,vI (A.length:Int)),(8,vI a)],boxes:=[] }
def qhO(a:Int):St:=
 { env:=envOf 19 [(4,vI a)],boxes:=[] }
theorem qoE(A:LL)(g1:Nat)(k2:List D)(a b c d e f:Int)(q:Bool)(h:Oo [.b (decide (a<(A.length:Int))) true,.p (0≤a),.p (a<(A.length:Int)),.e A a.toNat (ri b c d e f),.p (qaA prog g1=true),.r g1 ([.agg (ri b c d e f)]++List.map .one k2) [cB q],.b q true]):
 Tp (qab f91 0) (qdy A g1 k2 a) .ret (qhO a):=
 h.lp [4] []
theorem qoF(A:LL)(g1:Nat)(k2:List D)(a b c d e f:Int)(q:Bool)(h:Oo [.b (decide (a<(A.length:Int))) true,.p (0≤a),.p (a<(A.length:Int)),.e A a.toNat (ri b c d e f),.p (qaA prog g1=true),.r g1 ([.agg (ri b c d e f)]++List.map .one k2) [cB q],.b q false,.u a]):
 Tp (qab f91 0) (qdy A g1 k2 a) .normal (qdy A g1 k2 (a+1)):=
 h.lp [8,7,1,0] []
def qkt:St:=
 { env:=envOf 19 [],boxes:=[] }
theorem qoG(A:LL)(g1:Nat)(k2:List D)(a:Int)(h:Oo [.b (decide (a<(A.length:Int))) false]):
 Tp (qab f91 0) (qdy A g1 k2 a) (.exit 0) qkt:=
 h.lp [] []
theorem qoH(A:LL)(g1:Nat)(k2:List D)(a:Int)(h:Oo [.l [] [8,7,1,0] [] (qab f91 0) (qdy A g1 k2 0) .ret (qhO a)]):
 Rt 91 [cS 5 A,.one (.cl g1 k2)] [cI a]:=
 h.of
theorem qoI(A:LL)(g1:Nat)(k2:List D)(h:Oo [.l [] [8,7,1,0] [] (qab f91 0) (qdy A g1 k2 0) (.exit 0) qkt]):
 Rt 91 [cS 5 A,.one (.cl g1 k2)] [cI (-1)]:=
 h.of
def qdz(A:LL)(g1:Nat)(k2:List D)(a:Int):St:=
 { env:=envOf 19 [(0,vF 2 A),(1,.al (.one (.fd (D.cl g1 k2)))),(7,vI (A.length:Int)),(8,vI a)],boxes:=[] }
def qhP(a:Int):St:=
 { env:=envOf 19 [(4,vI a)],boxes:=[] }
theorem qoJ(A:LL)(g1:Nat)(k2:List D)(a b:Int)(q r:Bool)(h:Oo [.b (decide (a<(A.length:Int))) true,.p (0≤a),.p (a<(A.length:Int)),.e A a.toNat [I b,B q],.p (qaA prog g1=true),.r g1 ([.agg [I b,B q]]++List.map .one k2) [cB r],.b r true]):
 Tp (qab f90 0) (qdz A g1 k2 a) .ret (qhP a):=
 h.lp [4] []
theorem qoK(A:LL)(g1:Nat)(k2:List D)(a b:Int)(q r:Bool)(h:Oo [.b (decide (a<(A.length:Int))) true,.p (0≤a),.p (a<(A.length:Int)),.e A a.toNat [I b,B q],.p (qaA prog g1=true),.r g1 ([.agg [I b,B q]]++List.map .one k2) [cB r],.b r false,.u a]):
 Tp (qab f90 0) (qdz A g1 k2 a) .normal (qdz A g1 k2 (a+1)):=
 h.lp [8,7,1,0] []
def qku:St:=
 { env:=envOf 19 [],boxes:=[] }
theorem qoL(A:LL)(g1:Nat)(k2:List D)(a:Int)(h:Oo [.b (decide (a<(A.length:Int))) false]):
 Tp (qab f90 0) (qdz A g1 k2 a) (.exit 0) qku:=
 h.lp [] []
theorem qoM(A:LL)(g1:Nat)(k2:List D)(a:Int)(h:Oo [.l [] [8,7,1,0] [] (qab f90 0) (qdz A g1 k2 0) .ret (qhP a)]):
 Rt 90 [cS 2 A,.one (.cl g1 k2)] [cI a]:=
 h.of
theorem qoN(A:LL)(g1:Nat)(k2:List D)(h:Oo [.l [] [8,7,1,0] [] (qab f90 0) (qdz A g1 k2 0) (.exit 0) qku]):
 Rt 90 [cS 2 A,.one (.cl g1 k2)] [cI (-1)]:=
 h.of
def qdA(A:LL)(g1:Nat)(k2:List D)(a:Int):St:=
 { env:=envOf 19 [(0,vF 3 A),(1,.al (.one (.fd (D.cl g1 k2)))),(7,vI (A.length:Int)),(8,vI a)],boxes:=[] }
def qhQ(a:Int):St:=
 { env:=envOf 19 [(4,vI a)],boxes:=[] }
theorem qoO(A:LL)(g1:Nat)(k2:List D)(a b c:Int)(q r:Bool)(h:Oo [.b (decide (a<(A.length:Int))) true,.p (0≤a),.p (a<(A.length:Int)),.e A a.toNat [I b,I c,B q],.p (qaA prog g1=true),.r g1 ([.agg [I b,I c,B q]]++List.map .one k2) [cB r],.b r true]):
 Tp (qab f51 0) (qdA A g1 k2 a) .ret (qhQ a):=
 h.lp [4] []
theorem qoP(A:LL)(g1:Nat)(k2:List D)(a b c:Int)(q r:Bool)(h:Oo [.b (decide (a<(A.length:Int))) true,.p (0≤a),.p (a<(A.length:Int)),.e A a.toNat [I b,I c,B q],.p (qaA prog g1=true),.r g1 ([.agg [I b,I c,B q]]++List.map .one k2) [cB r],.b r false,.u a]):
 Tp (qab f51 0) (qdA A g1 k2 a) .normal (qdA A g1 k2 (a+1)):=
 h.lp [8,7,1,0] []
def qkv:St:=
 { env:=envOf 19 [],boxes:=[] }
theorem qoQ(A:LL)(g1:Nat)(k2:List D)(a:Int)(h:Oo [.b (decide (a<(A.length:Int))) false]):
 Tp (qab f51 0) (qdA A g1 k2 a) (.exit 0) qkv:=
 h.lp [] []
theorem qoR(A:LL)(g1:Nat)(k2:List D)(a:Int)(h:Oo [.l [] [8,7,1,0] [] (qab f51 0) (qdA A g1 k2 0) .ret (qhQ a)]):
 Rt 51 [cS 3 A,.one (.cl g1 k2)] [cI a]:=
 h.of
theorem qoS(A:LL)(g1:Nat)(k2:List D)(h:Oo [.l [] [8,7,1,0] [] (qab f51 0) (qdA A g1 k2 0) (.exit 0) qkv]):
 Rt 51 [cS 3 A,.one (.cl g1 k2)] [cI (-1)]:=
 h.of
def qdB(A:LL)(g1:Nat)(k2:List D)(a:Int):St:=
 { env:=envOf 19 [(0,vF 4 A),(1,.al (.one (.fd (D.cl g1 k2)))),(7,vI (A.length:Int)),(8,vI a)],boxes:=[] }
def qhR(a:Int):St:=
 { env:=envOf 19 [(4,vI a)],boxes:=[] }
theorem qoT(A:LL)(g1:Nat)(k2:List D)(a b c d e:Int)(q:Bool)(h:Oo [.b (decide (a<(A.length:Int))) true,.p (0≤a),.p (a<(A.length:Int)),.e A a.toNat [I b,I c,I d,I e],.p (qaA prog g1=true),.r g1 ([.agg [I b,I c,I d,I e]]++List.map .one k2) [cB q],.b q true]):
 Tp (qab f100 0) (qdB A g1 k2 a) .ret (qhR a):=
 h.lp [4] []
theorem qoU(A:LL)(g1:Nat)(k2:List D)(a b c d e:Int)(q:Bool)(h:Oo [.b (decide (a<(A.length:Int))) true,.p (0≤a),.p (a<(A.length:Int)),.e A a.toNat [I b,I c,I d,I e],.p (qaA prog g1=true),.r g1 ([.agg [I b,I c,I d,I e]]++List.map .one k2) [cB q],.b q false,.u a]):
 Tp (qab f100 0) (qdB A g1 k2 a) .normal (qdB A g1 k2 (a+1)):=
 h.lp [8,7,1,0] []
def qkw:St:=
 { env:=envOf 19 [],boxes:=[] }
theorem qoV(A:LL)(g1:Nat)(k2:List D)(a:Int)(h:Oo [.b (decide (a<(A.length:Int))) false]):
 Tp (qab f100 0) (qdB A g1 k2 a) (.exit 0) qkw:=
 h.lp [] []
theorem qoW(A:LL)(g1:Nat)(k2:List D)(a:Int)(h:Oo [.l [] [8,7,1,0] [] (qab f100 0) (qdB A g1 k2 0) .ret (qhR a)]):
 Rt 100 [cS 4 A,.one (.cl g1 k2)] [cI a]:=
 h.of
theorem qoX(A:LL)(g1:Nat)(k2:List D)(h:Oo [.l [] [8,7,1,0] [] (qab f100 0) (qdB A g1 k2 0) (.exit 0) qkw]):
 Rt 100 [cS 4 A,.one (.cl g1 k2)] [cI (-1)]:=
 h.of
theorem qoY(A:LL)(g1:Nat)(k2:List D)(a:Int)(h:Oo [.r 91 [cS 5 A,.one (.cl g1 k2)] [cI a]]):
 Rt 83 [cS 5 A,.one (.cl g1 k2)] [cB (decide (a≥0))]:=
 h.of
theorem qoZ(A:LL)(g1:Nat)(k2:List D)(a:Int)(h:Oo [.r 90 [cS 2 A,.one (.cl g1 k2)] [cI a]]):
 Rt 81 [cS 2 A,.one (.cl g1 k2)] [cB (decide (a≥0))]:=
 h.of
end Go.Proofs.YtenekpkjlgddnaaGreat
namespace Go.Proofs.YtenekpkjlgddnaaGreat
open Go.Sx Go.RowKit Go.Proofs.Tryz
variable {a b c d e f g i j k : Int} {A C E F G H J K : LL} {q r : Bool}
theorem qo2(h:Oo [.g ([]:LL) A 32,.h A]):
 Rt 71 [cS 4 A] [cS 4 ([]++A)]:=
 h.of
theorem qo3(h:Oo [.r 98 [cS 4 A,.agg [I a,I b,I c,I d]] [cB q]]):
 Rt 89 [cS 4 A,.agg [I a,I b,I c,I d]] [cB q]:=
 h.of
theorem qo4(h:Oo [.r 92 [.one (.sl 1 [[I b],[I a],[I c],[I d]]),.one (.sl 1 [[I f],[I e],[I g],[I i]])] [cI j]]):
 Rt 86 [.agg [I a,I b,I c,I d],.agg [I e,I f,I g,I i]] [cI j]:=
 h.of
theorem qo5(h:Oo [.r 103 [cS 4 A,.agg [I a,I b,I c,I d]] [cI e]]):
 Rt 98 [cS 4 A,.agg [I a,I b,I c,I d]] [cB (decide (e≥0))]:=
 h.of
def qdC(A:LL)(a b c d e:Int):St:=
 { env:=envOf 19 [(0,vF 4 A),(3,vP 3),(7,vI (A.length:Int)),(8,vI e)],boxes:=[(3,[lI a,lI b,lI c,lI d])] }
def qhS(a:Int):St:=
 { env:=envOf 19 [(4,vI a)],boxes:=[] }
theorem qo6(h:Oo [.b (decide (a<(A.length:Int))) true,.p (0≤a),.p (a<(A.length:Int)),.e A a.toNat [I f,I g,I i,I j],.b (b==f&&(c==g&&(d==i&&e==j))) true]):
 Tp (qab f103 0) (qdC A b c d e a) .ret (qhS a):=
 h.lp [4] []
theorem qo7(h:Oo [.b (decide (a<(A.length:Int))) true,.p (0≤a),.p (a<(A.length:Int)),.e A a.toNat [I f,I g,I i,I j],.b (b==f&&(c==g&&(d==i&&e==j))) false,.u a]):
 Tp (qab f103 0) (qdC A b c d e a) .normal (qdC A b c d e (a+1)):=
 h.lp [8,7,3,0] [3]
def qkC:St:=
 { env:=envOf 19 [],boxes:=[] }
theorem qo8(h:Oo [.b (decide (a<(A.length:Int))) false]):
 Tp (qab f103 0) (qdC A b c d e a) (.exit 0) qkC:=
 h.lp [] []
theorem qo9(h:Oo [.l [] [8,7,3,0] [3] (qab f103 0) (qdC A a b c d 0) .ret (qhS e)]):
 Rt 103 [cS 4 A,.agg [I a,I b,I c,I d]] [cI e]:=
 h.of
theorem qpa(h:Oo [.l [] [8,7,3,0] [3] (qab f103 0) (qdC A a b c d 0) (.exit 0) qkC]):
 Rt 103 [cS 4 A,.agg [I a,I b,I c,I d]] [cI (-1)]:=
 h.of
theorem qpb(h:Oo [.r 71 [cS 4 A] [cS 4 C],.r 89 [cS 4 A,.agg [I a,I b,I c,I d]] [cB q],.b q true]):
 Rt 88 [cS 4 A,.agg [I a,I b,I c,I d]] [cS 4 C]:=
 h.of
def qdD(A:LL)(a b c d:Int)(C:LL)(e:Int):St:=
 { env:=envOf 33 [(0,vF 4 A),(3,vP 3),(5,PV.al (AL.one (lO 90000 4 C))),(6,vI e)],boxes:=[(3,[lI a,lI b,lI c,lI d])] }
theorem qpc(h:Oo [.b (decide (a<(A.length:Int))) true,.p (0≤a),.p (a<(A.length:Int)),.e A a.toNat [I j,I k,I f,I g],.r 86 [.agg [I j,I k,I f,I g],.agg [I b,I c,I d,I e]] [cI i],.b (decide (i<0)) true,.u a]):
 Tp (qab f88 0) (qdD A b c d e C a) .normal (qdD A b c d e C (a+1)):=
 h.lp [6,0,3,5] [3]
def qeP(a b c d:Int)(A:LL)(e:Int):St:=
 { env:=envOf 33 [(3,vP 3),(5,PV.al (AL.one (lO 90000 4 A))),(6,vI e)],boxes:=[(3,[lI a,lI b,lI c,lI d])] }
theorem qpd(h:Oo [.b (decide (a<(A.length:Int))) true,.p (0≤a),.p (a<(A.length:Int)),.e A a.toNat [I j,I k,I f,I g],.r 86 [.agg [I j,I k,I f,I g],.agg [I b,I c,I d,I e]] [cI i],.b (decide (i<0)) false]):
 Tp (qab f88 0) (qdD A b c d e C a) (.exit 0) (qeP b c d e C a):=
 h.lp [5,6,3] [3]
theorem qpe(h:Oo [.b (decide (a<(A.length:Int))) false]):
 Tp (qab f88 0) (qdD A b c d e C a) (.exit 0) (qeP b c d e C a):=
 h.lp [5,6,3] [3]
theorem qpf(h:Oo [.r 71 [cS 4 A] [cS 4 C],.r 89 [cS 4 A,.agg [I a,I b,I c,I d]] [cB q],.b q false,.l [] [6,0,3,5] [3] (qab f88 0) (qdD A a b c d C 0) (.exit 0) (qeP a b c d C e),.a (.resG [[some none],[none],[some none]] 0 [] [cS 4 E]),.p (RetG prog 97 [GA.one (GC.gv 4 C none),GA.one (GC.ro (I e)),GA.one (GC.gv 4 [[I a,I b,I c,I d]] none)] [cS 4 E])]):
 Rt 88 [cS 4 A,.agg [I a,I b,I c,I d]] [cS 4 E]:=
 h.of
theorem qkD(h:Oo [.v ((A.length:Int)-1),.r 48 [cI a,cI 0,cI ((A.length:Int)-1)] [cB q]]):
 Rt 74 [.agg (gr A b c),cI a] [cB q]:=
 h.of
theorem qpg(h:Oo [.b (a==d) true,.b (b==e) true]):
 Rt 96 [.agg [I a,I b,I c,I g],.agg [I d,I e,I f,I i]] [cB (c==f)]:=
 h.of
theorem qph(h:Oo [.b (a==c) true,.b (b==d) false]):
 Rt 96 [.agg [I a,I b,I e,I f],.agg [I c,I d,I g,I i]] [cB false]:=
 h.of
theorem qpi(h:Oo [.b (a==b) false]):
 Rt 96 [.agg [I a,I c,I d,I e],.agg [I b,I f,I g,I i]] [cB false]:=
 h.of
theorem qpj(h:Oo [.r 96 [.agg [I e,I f,I g,I i],.agg [I a,I b,I c,I d]] [cB q]]):
 Rt 95 [.agg [I a,I b,I c,I d],.one (.ptr [I e,I f,I g,I i])] [cB q]:=
 h.of
theorem qpk(A:LL)(g1:Nat)(k2:List D)(a:Int)(h:Oo [.r 100 [cS 4 A,.one (.cl g1 k2)] [cI a],.b (a==-1) true]):
 Rg 94 [GA.one (GC.gv 4 A none),GA.one (GC.ro (D.cl g1 k2))] [cS 4 A]:=
 h.ofG
def qcX(g0:Nat)(k1:List D)(a b:Int)(A:LL):St:=
 { env:=envOf 42 [(0,PV.al (AL.one (lO 1000000000 4 A))),(1,.al (.one (.fd (D.cl g0 k1)))),(5,vI b),(6,vI a)],boxes:=[] }
theorem qpl(g1:Nat)(k2:List D)(a b:Int)(A:LL)(d e f c:Int)(q:Bool)(d12 d13 d14 d15:D)(h:Oo [.b (decide (a<(A.length:Int))) true,.p (0≤a),.p (a<(A.length:Int)),.e A a.toNat [I d,I e,I f,I c],.p (qaA prog g1=true),.r g1 ([.agg [I d,I e,I f,I c]]++List.map .one k2) [cB q],.n q true,.p (0≤b),.p (b<(A.length:Int)),.e A b.toNat [d12,d13,d14,d15],.u b,.u a]):
 Tp (qab f94 0) (qcX g1 k2 a b A) .normal (qcX g1 k2 (a+1) (b+1) (A.set b.toNat [I d,I e,I f,I c])):=
 h.lp [6,0,1,5] []
theorem qpm(g1:Nat)(k2:List D)(a c:Int)(A:LL)(d e f b:Int)(q:Bool)(h:Oo [.b (decide (a<(A.length:Int))) true,.p (0≤a),.p (a<(A.length:Int)),.e A a.toNat [I d,I e,I f,I b],.p (qaA prog g1=true),.r g1 ([.agg [I d,I e,I f,I b]]++List.map .one k2) [cB q],.n q false,.u a]):
 Tp (qab f94 0) (qcX g1 k2 a c A) .normal (qcX g1 k2 (a+1) c A):=
 h.lp [6,0,1,5] []
def qhT(A:LL)(a:Int):St:=
 { env:=envOf 42 [(0,PV.al (AL.one (lO 1000000000 4 A))),(5,vI a)],boxes:=[] }
theorem qpn(g1:Nat)(k2:List D)(a b:Int)(A:LL)(h:Oo [.b (decide (a<(A.length:Int))) false]):
 Tp (qab f94 0) (qcX g1 k2 a b A) (.exit 0) (qhT A b):=
 h.lp [0,5] []
theorem qpo(C:LL)(g1:Nat)(k2:List D)(b:Int)(A:LL)(a:Int)(h:Oo [.r 100 [cS 4 C,.one (.cl g1 k2)] [cI b],.b (b==-1) false,.u b,.l [] [6,0,1,5] [] (qab f94 0) (qcX g1 k2 (b+1) b C) (.exit 0) (qhT A a),.a .own,.p (0≤(some a).getD 0),.p ((some a).getD 0<(A.length:Int)),.h A,.p ((0:Int)≤none.getD 0),.p (none.getD 0≤(some a).getD (↑(List.take ((some a).getD 0).toNat A++List.replicate (A.length-((some a).getD 0).toNat) [I 0,I 0,I 0,I 0]).length:Int)),.p ((some a).getD (↑(List.take ((some a).getD 0).toNat A++List.replicate (A.length-((some a).getD 0).toNat) [I 0,I 0,I 0,I 0]).length:Int)≤(↑(List.take ((some a).getD 0).toNat A++List.replicate (A.length-((some a).getD 0).toNat) [I 0,I 0,I 0,I 0]).length:Int))]):
 Rg 94 [GA.one (GC.gv 4 C none),GA.one (GC.ro (D.cl g1 k2))] [.one (.sl 4 (List.take (((some a).getD (↑(List.take ((some a).getD 0).toNat A++List.replicate (A.length-((some a).getD 0).toNat) [I 0,I 0,I 0,I 0]).length:Int)).toNat-0) (List.drop 0 (List.take ((some a).getD 0).toNat A++List.replicate (A.length-((some a).getD 0).toNat) [I 0,I 0,I 0,I 0]))))]:=
 h.ofG
def qbJ(A:LL)(a b c d:Int)(q:Bool)(e:Int):St:=
 { env:=envOf 41 [(1,vI a),(2,vI b),(3,vI c),(10,vI e),(11,.al (.one (.sb q))),(14,vF 4 A),(15,vI (A.length:Int)),(16,vI d)],boxes:=[] }
theorem qpp(h:Oo [.b (decide (a<(A.length:Int))) true,.p (0≤a),.p (a<(A.length:Int)),.e A a.toNat [I f,I g,I i,I c],.r 96 [.agg [I f,I g,I i,I c],.agg [I b,I d,I e,I 0]] [cB q],.b q true,.n r true,.u a]):
 Tp (qab f93 0) (qbJ A b d e a r j) .normal (qbJ A b d e (a+1) true c):=
 h.lp [16,15,14,1,2,3,11,10] []
theorem qpq(h:Oo [.b (decide (a<(A.length:Int))) true,.p (0≤a),.p (a<(A.length:Int)),.e A a.toNat [I g,I i,I j,I b],.r 96 [.agg [I g,I i,I j,I b],.agg [I c,I d,I e,I 0]] [cB q],.b q true,.n r false,.b (decide (b<f)) true,.u a]):
 Tp (qab f93 0) (qbJ A c d e a r f) .normal (qbJ A c d e (a+1) true b):=
 h.lp [16,15,14,1,2,3,11,10] []
theorem qpr(h:Oo [.b (decide (a<(A.length:Int))) true,.p (0≤a),.p (a<(A.length:Int)),.e A a.toNat [I g,I i,I j,I c],.r 96 [.agg [I g,I i,I j,I c],.agg [I b,I d,I e,I 0]] [cB r],.b r true,.n q false,.b (decide (c<f)) false,.u a]):
 Tp (qab f93 0) (qbJ A b d e a q f) .normal (qbJ A b d e (a+1) q f):=
 h.lp [16,15,14,1,2,3,11,10] []
theorem qps(h:Oo [.b (decide (a<(A.length:Int))) true,.p (0≤a),.p (a<(A.length:Int)),.e A a.toNat [I g,I i,I j,I e],.r 96 [.agg [I g,I i,I j,I e],.agg [I b,I c,I d,I 0]] [cB q],.b q false,.u a]):
 Tp (qab f93 0) (qbJ A b c d a r f) .normal (qbJ A b c d (a+1) r f):=
 h.lp [16,15,14,1,2,3,11,10] []
def qkE(a:Int)(q:Bool):St:=
 { env:=envOf 41 [(10,vI a),(11,.al (.one (.sb q)))],boxes:=[] }
theorem qpt(h:Oo [.b (decide (a<(A.length:Int))) false]):
 Tp (qab f93 0) (qbJ A c d e a q b) (.exit 0) (qkE b q):=
 h.lp [10,11] []
theorem qpu(h:Oo [.l [] [16,15,14,1,2,3,11,10] [] (qab f93 0) (qbJ A a b c 0 false 0) (.exit 0) (qkE d q)]):
 Rt 93 [cS 4 A,cI a,cI b,cI c] [cI d,cB q]:=
 h.of
theorem qpv(h:Oo [.r 93 [cS 4 A,cI a,cI b,cI c] [cI e,cB q],.b q true,.b (decide (e≤d)) true,.r 71 [cS 4 A] [cS 4 C]]):
 Rt 87 [cS 4 A,.agg [I a,I b,I c,I d]] [cS 4 C,cB false]:=
 h.of
theorem qpw(h:Oo [.r 93 [cS 4 A,cI a,cI b,cI c] [cI e,cB q],.b q true,.b (decide (e≤d)) false,.r 71 [cS 4 A] [cS 4 F],.a (.resG [[some none],[none]] 0 [] [cS 4 C]),.p (RetG prog 94 [GA.one (GC.gv 4 F none),GA.one (GC.ro (D.cl 95 [D.ptr [I a,I b,I c,I d]]))] [cS 4 C]),.r 88 [cS 4 C,.agg [I a,I b,I c,I d]] [cS 4 E]]):
 Rt 87 [cS 4 A,.agg [I a,I b,I c,I d]] [cS 4 E,cB true]:=
 h.of
theorem qpx(h:Oo [.r 93 [cS 4 A,cI a,cI b,cI c] [cI e,cB q],.b q false,.r 71 [cS 4 A] [cS 4 F],.a (.resG [[some none],[none]] 0 [] [cS 4 C]),.p (RetG prog 94 [GA.one (GC.gv 4 F none),GA.one (GC.ro (D.cl 95 [D.ptr [I a,I b,I c,I d]]))] [cS 4 C]),.r 88 [cS 4 C,.agg [I a,I b,I c,I d]] [cS 4 E]]):
 Rt 87 [cS 4 A,.agg [I a,I b,I c,I d]] [cS 4 E,cB true]:=
 h.of
theorem qpy(h:Oo [.b (a==5) true,.b (a==5) true,.r 87 [cS 4 A,.agg [I b,I c,I d,I e]] [cS 4 C,cB q]]):
 Rt 76 [cI a,cS 4 A,.agg [I b,I c,I d,I e]] [cS 4 C,cB q]:=
 h.of
theorem qpz(h:Oo [.b (a==5) false,.b (a==8) true,.r 87 [cS 4 A,.agg [I b,I c,I d,I e]] [cS 4 C,cB q]]):
 Rt 76 [cI a,cS 4 A,.agg [I b,I c,I d,I e]] [cS 4 C,cB q]:=
 h.of
theorem qpA(h:Oo [.b (a==5) false,.b (a==8) false,.b (a==6) true,.r 88 [cS 4 A,.agg [I b,I c,I d,I e]] [cS 4 C],.r 89 [cS 4 A,.agg [I b,I c,I d,I e]] [cB q]]):
 Rt 76 [cI a,cS 4 A,.agg [I b,I c,I d,I e]] [cS 4 C,.one (B !q)]:=
 h.of
theorem qpB(h:Oo [.b (a==5) false,.b (a==8) false,.b (a==6) false,.r 71 [cS 4 A] [cS 4 C]]):
 Rt 76 [cI a,cS 4 A,.agg [I b,I c,I d,I e]] [cS 4 C,cB true]:=
 h.of
end Go.Proofs.YtenekpkjlgddnaaGreat
