import Derived.Test.YtenekpkjlgddnaaRows
import Derived.Test.YtenekpkjlgddnaaGE
namespace Go.Proofs.Ytenekpkjlgddnaa
open Go.Sx Go.RowKit Go.Proofs.Try
variable {a b c d e f g i j k : Int} {A C E F : LL} {q r : Bool}
theorem qkj(h:Oo [.b (decide (a≥b)) true]):
 Rt 63 [cI a,cI b,cI c] [cB (decide (a≤c))]:=
 h.of
theorem qkk(h:Oo [.b (decide (a≥b)) false]):
 Rt 63 [cI a,cI b,cI c] [cB false]:=
 h.of
theorem qkl(a:Int)(h:Oo []):
 Rt 122 [cI a] [cB (a != a)]:=
 h.of
theorem qkm(h:Oo [.r 122 [cI a] [cB q],.r 122 [cI b] [cB r],.b q false,.b r false,.b (decide (a<b)) true]):
 Rt 118 [cI a,cI b] [cI (-1)]:=
 h.of
theorem qkn(h:Oo [.r 122 [cI a] [cB q],.r 122 [cI b] [cB r],.b q false,.b r false,.b (decide (a<b)) false,.b (decide (a>b)) true]):
 Rt 118 [cI a,cI b] [cI 1]:=
 h.of
theorem qko(h:Oo [.r 122 [cI a] [cB q],.r 122 [cI b] [cB r],.b q false,.b r false,.b (decide (a<b)) false,.b (decide (a>b)) false]):
 Rt 118 [cI a,cI b] [cI 0]:=
 h.of
def qcq(A C:LL)(a:Int):St:=
 { env:=envOf 36 [(0,vF 1 A),(1,vF 1 C),(9,vF 1 A),(10,vI (A.length:Int)),(11,vI a)],boxes:=[] }
def qfX(a:Int):St:=
 { env:=envOf 36 [(4,vI a)],boxes:=[] }
theorem qkp(h:Oo [.b (decide (a<(A.length:Int))) true,.p (0≤a),.p (a<(A.length:Int)),.e A a.toNat [I c],.b (decide (a≥(C.length:Int))) false,.p (0≤a),.p (a<(C.length:Int)),.e C a.toNat [I d],.r 118 [cI c,cI d] [cI b],.b (b != 0) true]):
 Tp (qab f107 0) (qcq A C a) .ret (qfX b):=
 h.lp [4] []
theorem qkq(h:Oo [.b (decide (a<(A.length:Int))) true,.p (0≤a),.p (a<(A.length:Int)),.e A a.toNat [I b],.b (decide (a≥(C.length:Int))) false,.p (0≤a),.p (a<(C.length:Int)),.e C a.toNat [I c],.r 118 [cI b,cI c] [cI d],.b (d != 0) false,.u a]):
 Tp (qab f107 0) (qcq A C a) .normal (qcq A C (a+1)):=
 h.lp [11,10,9,1,0] []
def qh1(A C:LL):St:=
 { env:=envOf 36 [(0,vF 1 A),(1,vF 1 C)],boxes:=[] }
theorem qkr(h:Oo [.b (decide (a<(A.length:Int))) false]):
 Tp (qab f107 0) (qcq A C a) (.exit 0) (qh1 A C):=
 h.lp [0,1] []
theorem qks(h:Oo [.l [] [11,10,9,1,0] [] (qab f107 0) (qcq A C 0) .ret (qfX a)]):
 Rt 107 [cS 1 A,cS 1 C] [cI a]:=
 h.of
theorem qkt(h:Oo [.l [] [11,10,9,1,0] [] (qab f107 0) (qcq A C 0) (.exit 0) (qh1 A C),.b (decide ((A.length:Int)<(C.length:Int))) false]):
 Rt 107 [cS 1 A,cS 1 C] [cI 0]:=
 h.of
theorem qku(h:Oo [.r 107 [cS 1 A,cS 1 C] [cI a]]):
 Rt 85 [cS 1 A,cS 1 C] [cI a]:=
 h.of
def qcr(A:LL)(a b:Int)(C:LL):St:=
 { env:=envOf 25 [(1,vI a),(5,PV.al (AL.one (lO 22 5 C))),(8,vF 5 A),(9,vI (A.length:Int)),(10,vI b)],boxes:=[] }
theorem qkv(h:Oo [.b (decide (a<(A.length:Int))) true,.p (0≤a),.p (a<(A.length:Int)),.e A a.toNat (ri c b d e f),.b (b==g) true,.g C [(ri c b d e f)] 40,.h [(ri c b d e f)],.u a]):
 Tp (qab f54 0) (qcr A g a C) .normal (qcr A g (a+1) (C++[(ri c b d e f)])):=
 h.lp [10,9,8,1,5] []
theorem qkw(h:Oo [.b (decide (a<(A.length:Int))) true,.p (0≤a),.p (a<(A.length:Int)),.e A a.toNat (ri d c e f g),.b (c==b) false,.u a]):
 Tp (qab f54 0) (qcr A b a C) .normal (qcr A b (a+1) C):=
 h.lp [10,9,8,1,5] []
def qh2(A:LL):St:=
 { env:=envOf 25 [(5,PV.al (AL.one (lO 22 5 A)))],boxes:=[] }
theorem qkx(h:Oo [.b (decide (a<(A.length:Int))) false]):
 Tp (qab f54 0) (qcr A b a C) (.exit 0) (qh2 C):=
 h.lp [5] []
theorem qky(h:Oo [.l [(5,22,5)] [10,9,8,1,5] [] (qab f54 0) (qcr A a 0 []) (.exit 0) (qh2 C)]):
 Rt 54 [cS 5 A,cI a] [cS 5 C]:=
 h.of
def qcs(A:LL)(g1:Nat)(k2:List D)(a:Int):St:=
 { env:=envOf 19 [(0,vF 4 A),(1,.al (.one (.fd (D.cl g1 k2)))),(7,vI (A.length:Int)),(8,vI a)],boxes:=[] }
def qfY(a:Int):St:=
 { env:=envOf 19 [(4,vI a)],boxes:=[] }
theorem qkz(A:LL)(g1:Nat)(k2:List D)(a b c d e:Int)(q:Bool)(h:Oo [.b (decide (a<(A.length:Int))) true,.p (0≤a),.p (a<(A.length:Int)),.e A a.toNat [I b,I c,I d,I e],.p (qaJ prog g1=true),.r g1 ([.agg [I b,I c,I d,I e]]++List.map .one k2) [cB q],.b q true]):
 Tp (qab f108 0) (qcs A g1 k2 a) .ret (qfY a):=
 h.lp [4] []
theorem qkA(A:LL)(g1:Nat)(k2:List D)(a b c d e:Int)(q:Bool)(h:Oo [.b (decide (a<(A.length:Int))) true,.p (0≤a),.p (a<(A.length:Int)),.e A a.toNat [I b,I c,I d,I e],.p (qaJ prog g1=true),.r g1 ([.agg [I b,I c,I d,I e]]++List.map .one k2) [cB q],.b q false,.u a]):
 Tp (qab f108 0) (qcs A g1 k2 a) .normal (qcs A g1 k2 (a+1)):=
 h.lp [8,7,1,0] []
def qh3:St:=
 { env:=envOf 19 [],boxes:=[] }
theorem qkB(A:LL)(g1:Nat)(k2:List D)(a:Int)(h:Oo [.b (decide (a<(A.length:Int))) false]):
 Tp (qab f108 0) (qcs A g1 k2 a) (.exit 0) qh3:=
 h.lp [] []
theorem qkC(A:LL)(g1:Nat)(k2:List D)(a:Int)(h:Oo [.l [] [8,7,1,0] [] (qab f108 0) (qcs A g1 k2 0) .ret (qfY a)]):
 Rt 108 [cS 4 A,.one (.cl g1 k2)] [cI a]:=
 h.of
theorem qkD(A:LL)(g1:Nat)(k2:List D)(h:Oo [.l [] [8,7,1,0] [] (qab f108 0) (qcs A g1 k2 0) (.exit 0) qh3]):
 Rt 108 [cS 4 A,.one (.cl g1 k2)] [cI (-1)]:=
 h.of
end Go.Proofs.Ytenekpkjlgddnaa
namespace Go.Proofs.Ytenekpkjlgddnaa
open Go.Sx Go.RowKit Go.Proofs.Try
variable {a b c d e f g i j k : Int} {A C E F : LL} {q r : Bool}
theorem qkF(h:Oo [.g ([]:LL) A 32,.h A]):
 Rt 44 [cS 4 A] [cS 4 ([]++A)]:=
 h.of
theorem qkG(h:Oo [.r 92 [cS 4 A,.agg [I a,I b,I c,I d]] [cB q]]):
 Rt 69 [cS 4 A,.agg [I a,I b,I c,I d]] [cB q]:=
 h.of
theorem qkH(h:Oo [.r 85 [.one (.sl 1 [[I b],[I a],[I c],[I d]]),.one (.sl 1 [[I f],[I e],[I g],[I i]])] [cI j]]):
 Rt 90 [.agg [I a,I b,I c,I d],.agg [I e,I f,I g,I i]] [cI j]:=
 h.of
theorem qkI(h:Oo [.r 111 [cS 4 A,.agg [I a,I b,I c,I d]] [cI e]]):
 Rt 92 [cS 4 A,.agg [I a,I b,I c,I d]] [cB (decide (e≥0))]:=
 h.of
def qct(A:LL)(a b c d e:Int):St:=
 { env:=envOf 19 [(0,vF 4 A),(3,vP 3),(7,vI (A.length:Int)),(8,vI e)],boxes:=[(3,[lI a,lI b,lI c,lI d])] }
def qf0(a:Int):St:=
 { env:=envOf 19 [(4,vI a)],boxes:=[] }
theorem qkJ(h:Oo [.b (decide (a<(A.length:Int))) true,.p (0≤a),.p (a<(A.length:Int)),.e A a.toNat [I f,I g,I i,I j],.b (b==f&&(c==g&&(d==i&&e==j))) true]):
 Tp (qab f111 0) (qct A b c d e a) .ret (qf0 a):=
 h.lp [4] []
theorem qkK(h:Oo [.b (decide (a<(A.length:Int))) true,.p (0≤a),.p (a<(A.length:Int)),.e A a.toNat [I f,I g,I i,I j],.b (b==f&&(c==g&&(d==i&&e==j))) false,.u a]):
 Tp (qab f111 0) (qct A b c d e a) .normal (qct A b c d e (a+1)):=
 h.lp [8,7,3,0] [3]
def qh6:St:=
 { env:=envOf 19 [],boxes:=[] }
theorem qkL(h:Oo [.b (decide (a<(A.length:Int))) false]):
 Tp (qab f111 0) (qct A b c d e a) (.exit 0) qh6:=
 h.lp [] []
theorem qkM(h:Oo [.l [] [8,7,3,0] [3] (qab f111 0) (qct A a b c d 0) .ret (qf0 e)]):
 Rt 111 [cS 4 A,.agg [I a,I b,I c,I d]] [cI e]:=
 h.of
theorem qkN(h:Oo [.l [] [8,7,3,0] [3] (qab f111 0) (qct A a b c d 0) (.exit 0) qh6]):
 Rt 111 [cS 4 A,.agg [I a,I b,I c,I d]] [cI (-1)]:=
 h.of
theorem qkO(h:Oo [.r 44 [cS 4 A] [cS 4 C],.r 69 [cS 4 A,.agg [I a,I b,I c,I d]] [cB q],.b q true]):
 Rt 68 [cS 4 A,.agg [I a,I b,I c,I d]] [cS 4 C]:=
 h.of
def qcu(A:LL)(a b c d:Int)(C:LL)(e:Int):St:=
 { env:=envOf 33 [(0,vF 4 A),(3,vP 3),(5,PV.al (AL.one (lO 90000 4 C))),(6,vI e)],boxes:=[(3,[lI a,lI b,lI c,lI d])] }
theorem qkP(h:Oo [.b (decide (a<(A.length:Int))) true,.p (0≤a),.p (a<(A.length:Int)),.e A a.toNat [I j,I k,I f,I g],.r 90 [.agg [I j,I k,I f,I g],.agg [I b,I c,I d,I e]] [cI i],.b (decide (i<0)) true,.u a]):
 Tp (qab f68 0) (qcu A b c d e C a) .normal (qcu A b c d e C (a+1)):=
 h.lp [6,0,3,5] [3]
def qdo(a b c d:Int)(A:LL)(e:Int):St:=
 { env:=envOf 33 [(3,vP 3),(5,PV.al (AL.one (lO 90000 4 A))),(6,vI e)],boxes:=[(3,[lI a,lI b,lI c,lI d])] }
theorem qkQ(h:Oo [.b (decide (a<(A.length:Int))) true,.p (0≤a),.p (a<(A.length:Int)),.e A a.toNat [I j,I k,I f,I g],.r 90 [.agg [I j,I k,I f,I g],.agg [I b,I c,I d,I e]] [cI i],.b (decide (i<0)) false]):
 Tp (qab f68 0) (qcu A b c d e C a) (.exit 0) (qdo b c d e C a):=
 h.lp [5,6,3] [3]
theorem qkR(h:Oo [.b (decide (a<(A.length:Int))) false]):
 Tp (qab f68 0) (qcu A b c d e C a) (.exit 0) (qdo b c d e C a):=
 h.lp [5,6,3] [3]
theorem qkS(h:Oo [.r 44 [cS 4 A] [cS 4 C],.r 69 [cS 4 A,.agg [I a,I b,I c,I d]] [cB q],.b q false,.l [] [6,0,3,5] [3] (qab f68 0) (qcu A a b c d C 0) (.exit 0) (qdo a b c d C e),.a (.resG [[some none],[none],[some none]] 0 [] [cS 4 E]),.p (RetG prog 91 [GA.one (GC.gv 4 C none),GA.one (GC.ro (I e)),GA.one (GC.gv 4 [[I a,I b,I c,I d]] none)] [cS 4 E])]):
 Rt 68 [cS 4 A,.agg [I a,I b,I c,I d]] [cS 4 E]:=
 h.of
theorem qh7(h:Oo [.v ((A.length:Int)-1),.r 63 [cI a,cI 0,cI ((A.length:Int)-1)] [cB q]]):
 Rt 42 [.agg (gr A b c),cI a] [cB q]:=
 h.of
theorem qkT(h:Oo [.b (a==d) true,.b (b==e) true]):
 Rt 89 [.agg [I a,I b,I c,I g],.agg [I d,I e,I f,I i]] [cB (c==f)]:=
 h.of
theorem qkU(h:Oo [.b (a==c) true,.b (b==d) false]):
 Rt 89 [.agg [I a,I b,I e,I f],.agg [I c,I d,I g,I i]] [cB false]:=
 h.of
theorem qkV(h:Oo [.b (a==b) false]):
 Rt 89 [.agg [I a,I c,I d,I e],.agg [I b,I f,I g,I i]] [cB false]:=
 h.of
theorem qkW(h:Oo [.r 89 [.agg [I e,I f,I g,I i],.agg [I a,I b,I c,I d]] [cB q]]):
 Rt 88 [.agg [I a,I b,I c,I d],.one (.ptr [I e,I f,I g,I i])] [cB q]:=
 h.of
theorem qkX(A:LL)(g1:Nat)(k2:List D)(a:Int)(h:Oo [.r 108 [cS 4 A,.one (.cl g1 k2)] [cI a],.b (a==-1) true]):
 Rg 87 [GA.one (GC.gv 4 A none),GA.one (GC.ro (D.cl g1 k2))] [cS 4 A]:=
 h.ofG
def qb5(g0:Nat)(k1:List D)(a b:Int)(A:LL):St:=
 { env:=envOf 42 [(0,PV.al (AL.one (lO 1000000000 4 A))),(1,.al (.one (.fd (D.cl g0 k1)))),(5,vI b),(6,vI a)],boxes:=[] }
theorem qkY(g1:Nat)(k2:List D)(a b:Int)(A:LL)(d e f c:Int)(q:Bool)(d12 d13 d14 d15:D)(h:Oo [.b (decide (a<(A.length:Int))) true,.p (0≤a),.p (a<(A.length:Int)),.e A a.toNat [I d,I e,I f,I c],.p (qaJ prog g1=true),.r g1 ([.agg [I d,I e,I f,I c]]++List.map .one k2) [cB q],.n q true,.p (0≤b),.p (b<(A.length:Int)),.e A b.toNat [d12,d13,d14,d15],.u b,.u a]):
 Tp (qab f87 0) (qb5 g1 k2 a b A) .normal (qb5 g1 k2 (a+1) (b+1) (A.set b.toNat [I d,I e,I f,I c])):=
 h.lp [6,0,1,5] []
theorem qkZ(g1:Nat)(k2:List D)(a c:Int)(A:LL)(d e f b:Int)(q:Bool)(h:Oo [.b (decide (a<(A.length:Int))) true,.p (0≤a),.p (a<(A.length:Int)),.e A a.toNat [I d,I e,I f,I b],.p (qaJ prog g1=true),.r g1 ([.agg [I d,I e,I f,I b]]++List.map .one k2) [cB q],.n q false,.u a]):
 Tp (qab f87 0) (qb5 g1 k2 a c A) .normal (qb5 g1 k2 (a+1) c A):=
 h.lp [6,0,1,5] []
def qf1(A:LL)(a:Int):St:=
 { env:=envOf 42 [(0,PV.al (AL.one (lO 1000000000 4 A))),(5,vI a)],boxes:=[] }
theorem qk0(g1:Nat)(k2:List D)(a b:Int)(A:LL)(h:Oo [.b (decide (a<(A.length:Int))) false]):
 Tp (qab f87 0) (qb5 g1 k2 a b A) (.exit 0) (qf1 A b):=
 h.lp [0,5] []
theorem qk1(C:LL)(g1:Nat)(k2:List D)(b:Int)(A:LL)(a:Int)(h:Oo [.r 108 [cS 4 C,.one (.cl g1 k2)] [cI b],.b (b==-1) false,.u b,.l [] [6,0,1,5] [] (qab f87 0) (qb5 g1 k2 (b+1) b C) (.exit 0) (qf1 A a),.a .own,.p (0≤(some a).getD 0),.p ((some a).getD 0<(A.length:Int)),.h A,.p ((0:Int)≤none.getD 0),.p (none.getD 0≤(some a).getD (↑(List.take ((some a).getD 0).toNat A++List.replicate (A.length-((some a).getD 0).toNat) [I 0,I 0,I 0,I 0]).length:Int)),.p ((some a).getD (↑(List.take ((some a).getD 0).toNat A++List.replicate (A.length-((some a).getD 0).toNat) [I 0,I 0,I 0,I 0]).length:Int)≤(↑(List.take ((some a).getD 0).toNat A++List.replicate (A.length-((some a).getD 0).toNat) [I 0,I 0,I 0,I 0]).length:Int))]):
 Rg 87 [GA.one (GC.gv 4 C none),GA.one (GC.ro (D.cl g1 k2))] [.one (.sl 4 (List.take (((some a).getD (↑(List.take ((some a).getD 0).toNat A++List.replicate (A.length-((some a).getD 0).toNat) [I 0,I 0,I 0,I 0]).length:Int)).toNat-0) (List.drop 0 (List.take ((some a).getD 0).toNat A++List.replicate (A.length-((some a).getD 0).toNat) [I 0,I 0,I 0,I 0]))))]:=
 h.ofG
def qbe(A:LL)(a b c d:Int)(q:Bool)(e:Int):St:=
 { env:=envOf 41 [(1,vI a),(2,vI b),(3,vI c),(10,vI e),(11,.al (.one (.sb q))),(14,vF 4 A),(15,vI (A.length:Int)),(16,vI d)],boxes:=[] }
theorem qk2(h:Oo [.b (decide (a<(A.length:Int))) true,.p (0≤a),.p (a<(A.length:Int)),.e A a.toNat [I f,I g,I i,I c],.r 89 [.agg [I f,I g,I i,I c],.agg [I b,I d,I e,I 0]] [cB q],.b q true,.n r true,.u a]):
 Tp (qab f86 0) (qbe A b d e a r j) .normal (qbe A b d e (a+1) true c):=
 h.lp [16,15,14,1,2,3,11,10] []
theorem qk3(h:Oo [.b (decide (a<(A.length:Int))) true,.p (0≤a),.p (a<(A.length:Int)),.e A a.toNat [I g,I i,I j,I b],.r 89 [.agg [I g,I i,I j,I b],.agg [I c,I d,I e,I 0]] [cB q],.b q true,.n r false,.b (decide (b<f)) true,.u a]):
 Tp (qab f86 0) (qbe A c d e a r f) .normal (qbe A c d e (a+1) true b):=
 h.lp [16,15,14,1,2,3,11,10] []
theorem qk4(h:Oo [.b (decide (a<(A.length:Int))) true,.p (0≤a),.p (a<(A.length:Int)),.e A a.toNat [I g,I i,I j,I c],.r 89 [.agg [I g,I i,I j,I c],.agg [I b,I d,I e,I 0]] [cB r],.b r true,.n q false,.b (decide (c<f)) false,.u a]):
 Tp (qab f86 0) (qbe A b d e a q f) .normal (qbe A b d e (a+1) q f):=
 h.lp [16,15,14,1,2,3,11,10] []
theorem qk5(h:Oo [.b (decide (a<(A.length:Int))) true,.p (0≤a),.p (a<(A.length:Int)),.e A a.toNat [I g,I i,I j,I e],.r 89 [.agg [I g,I i,I j,I e],.agg [I b,I c,I d,I 0]] [cB q],.b q false,.u a]):
 Tp (qab f86 0) (qbe A b c d a r f) .normal (qbe A b c d (a+1) r f):=
 h.lp [16,15,14,1,2,3,11,10] []
def qh8(a:Int)(q:Bool):St:=
 { env:=envOf 41 [(10,vI a),(11,.al (.one (.sb q)))],boxes:=[] }
theorem qk6(h:Oo [.b (decide (a<(A.length:Int))) false]):
 Tp (qab f86 0) (qbe A c d e a q b) (.exit 0) (qh8 b q):=
 h.lp [10,11] []
theorem qk7(h:Oo [.l [] [16,15,14,1,2,3,11,10] [] (qab f86 0) (qbe A a b c 0 false 0) (.exit 0) (qh8 d q)]):
 Rt 86 [cS 4 A,cI a,cI b,cI c] [cI d,cB q]:=
 h.of
theorem qk8(h:Oo [.r 86 [cS 4 A,cI a,cI b,cI c] [cI e,cB q],.b q true,.b (decide (e≤d)) true,.r 44 [cS 4 A] [cS 4 C]]):
 Rt 67 [cS 4 A,.agg [I a,I b,I c,I d]] [cS 4 C,cB false]:=
 h.of
theorem qk9(h:Oo [.r 86 [cS 4 A,cI a,cI b,cI c] [cI e,cB q],.b q true,.b (decide (e≤d)) false,.r 44 [cS 4 A] [cS 4 F],.a (.resG [[some none],[none]] 0 [] [cS 4 C]),.p (RetG prog 87 [GA.one (GC.gv 4 F none),GA.one (GC.ro (D.cl 88 [D.ptr [I a,I b,I c,I d]]))] [cS 4 C]),.r 68 [cS 4 C,.agg [I a,I b,I c,I d]] [cS 4 E]]):
 Rt 67 [cS 4 A,.agg [I a,I b,I c,I d]] [cS 4 E,cB true]:=
 h.of
theorem qla(h:Oo [.r 86 [cS 4 A,cI a,cI b,cI c] [cI e,cB q],.b q false,.r 44 [cS 4 A] [cS 4 F],.a (.resG [[some none],[none]] 0 [] [cS 4 C]),.p (RetG prog 87 [GA.one (GC.gv 4 F none),GA.one (GC.ro (D.cl 88 [D.ptr [I a,I b,I c,I d]]))] [cS 4 C]),.r 68 [cS 4 C,.agg [I a,I b,I c,I d]] [cS 4 E]]):
 Rt 67 [cS 4 A,.agg [I a,I b,I c,I d]] [cS 4 E,cB true]:=
 h.of
theorem qlb(h:Oo [.b (a==5) true,.b (a==5) true,.r 67 [cS 4 A,.agg [I b,I c,I d,I e]] [cS 4 C,cB q]]):
 Rt 46 [cI a,cS 4 A,.agg [I b,I c,I d,I e]] [cS 4 C,cB q]:=
 h.of
theorem qlc(h:Oo [.b (a==5) false,.b (a==8) true,.r 67 [cS 4 A,.agg [I b,I c,I d,I e]] [cS 4 C,cB q]]):
 Rt 46 [cI a,cS 4 A,.agg [I b,I c,I d,I e]] [cS 4 C,cB q]:=
 h.of
theorem qld(h:Oo [.b (a==5) false,.b (a==8) false,.b (a==6) true,.r 68 [cS 4 A,.agg [I b,I c,I d,I e]] [cS 4 C],.r 69 [cS 4 A,.agg [I b,I c,I d,I e]] [cB q]]):
 Rt 46 [cI a,cS 4 A,.agg [I b,I c,I d,I e]] [cS 4 C,.one (B !q)]:=
 h.of
theorem qle(h:Oo [.b (a==5) false,.b (a==8) false,.b (a==6) false,.r 44 [cS 4 A] [cS 4 C]]):
 Rt 46 [cI a,cS 4 A,.agg [I b,I c,I d,I e]] [cS 4 C,cB true]:=
 h.of
end Go.Proofs.Ytenekpkjlgddnaa
