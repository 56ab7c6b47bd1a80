import Derived.Test.YtdanpadojemjeaaGreatRows
import Derived.Test.YtdanpadojemjeaaGreatGE
namespace Go.Proofs.YtdanpadojemjeaaGreat
open Go.Sx Go.RowKit Go.Proofs.Tryz
variable {a b c d e f g i j k l m n o p a0 b0 c0 : Int} {A C E : LL}
def qfk(a b:Int)(A:LL):St:=
 { env:=envOf 50 [(0,PV.al (AL.one (lO 1000000000 5 A))),(1,vI b),(5,vI a)],boxes:=[] }
theorem qLX(a b:Int)(A:LL)(d5 d6 d7 d8 d9 d10 d11 d12 d13 d14 d15 d16 d17 d18 d19 d20 d21 d22 d23 d24 d25 d26 d27 d28 d29:D)(h:Oo [.b (decide (a<(A.length:Int))) true,.p (0≤a),.p (a<(A.length:Int)),.e A a.toNat [d5,d6,d7,d8,d9],.u b,.x (A.set a.toNat [I b,d6,d7,d8,d9]) a [d10,d11,d12,d13,d14],.v (b+1+1),.x ((A.set a.toNat [I b,d6,d7,d8,d9]).set a.toNat [d10,I (b+1),d12,d13,d14]) a [d15,d16,d17,d18,d19],.v (b+1+1+1),.x (((A.set a.toNat [I b,d6,d7,d8,d9]).set a.toNat [d10,I (b+1),d12,d13,d14]).set a.toNat [d15,d16,I (b+1+1),d18,d19]) a [d20,d21,d22,d23,d24],.v (b+1+1+1+1),.p (0≤a),.p (a<(↑((((A.set a.toNat [I b,d6,d7,d8,d9]).set a.toNat [d10,I (b+1),d12,d13,d14]).set a.toNat [d15,d16,I (b+1+1),d18,d19]).set a.toNat [d20,d21,d22,I (b+1+1+1),d24]).length:Int)),.e ((((A.set a.toNat [I b,d6,d7,d8,d9]).set a.toNat [d10,I (b+1),d12,d13,d14]).set a.toNat [d15,d16,I (b+1+1),d18,d19]).set a.toNat [d20,d21,d22,I (b+1+1+1),d24]) a.toNat [d25,d26,d27,d28,d29],.v (b+1+1+1+1+1),.u a]):
 Tp (qaa f48 0) (qfk a b A) .normal (qfk (a+1) (b+1+1+1+1+1) (((((A.set a.toNat [I b,d6,d7,d8,d9]).set a.toNat [d10,I (b+1),d12,d13,d14]).set a.toNat [d15,d16,I (b+1+1),d18,d19]).set a.toNat [d20,d21,d22,I (b+1+1+1),d24]).set a.toNat [d25,d26,d27,d28,I (b+1+1+1+1)])):=
 h.lp [5,0,1] []
def ql0(a:Int)(A:LL):St:=
 { env:=envOf 50 [(0,PV.al (AL.one (lO 1000000000 5 A))),(1,vI a)],boxes:=[] }
theorem qLY(a b:Int)(A:LL)(h:Oo [.b (decide (a<(A.length:Int))) false]):
 Tp (qaa f48 0) (qfk a b A) (.exit 0) (ql0 b A):=
 h.lp [1,0] []
theorem qLZ(h:Oo [.l [] [5,0,1] [] (qaa f48 0) (qfk 0 a A) (.exit 0) (ql0 b C)]):
 Rg 48 [GA.one (GC.gv 5 A (some C)),GA.one (GC.ro (I a))] [cI b]:=
 h.ofG
def qfl(a b:Int)(A:LL):St:=
 { env:=envOf 19 [(0,PV.al (AL.one (lO 1000000000 1 A))),(1,vI b),(5,vI a)],boxes:=[] }
theorem qL0(a b:Int)(A:LL)(d5:D)(h:Oo [.b (decide (a<(A.length:Int))) true,.p (0≤a),.p (a<(A.length:Int)),.e A a.toNat [d5],.u b,.u a]):
 Tp (qaa f131 0) (qfl a b A) .normal (qfl (a+1) (b+1) (A.set a.toNat [I b])):=
 h.lp [5,0,1] []
def ql1(a:Int)(A:LL):St:=
 { env:=envOf 19 [(0,PV.al (AL.one (lO 1000000000 1 A))),(1,vI a)],boxes:=[] }
theorem qL1(a b:Int)(A:LL)(h:Oo [.b (decide (a<(A.length:Int))) false]):
 Tp (qaa f131 0) (qfl a b A) (.exit 0) (ql1 b A):=
 h.lp [1,0] []
theorem qL2(h:Oo [.l [] [5,0,1] [] (qaa f131 0) (qfl 0 a A) (.exit 0) (ql1 b C)]):
 Rg 131 [GA.one (GC.gv 1 A (some C)),GA.one (GC.ro (I a))] [cI b]:=
 h.ofG
def qfm(a b:Int)(A:LL):St:=
 { env:=envOf 41 [(0,PV.al (AL.one (lO 1000000000 4 A))),(1,vI b),(5,vI a)],boxes:=[] }
theorem qL3(a b:Int)(A:LL)(d5 d6 d7 d8 d9 d10 d11 d12 d13 d14 d15 d16 d17 d18 d19 d20:D)(h:Oo [.b (decide (a<(A.length:Int))) true,.p (0≤a),.p (a<(A.length:Int)),.e A a.toNat [d5,d6,d7,d8],.u b,.x (A.set a.toNat [I b,d6,d7,d8]) a [d9,d10,d11,d12],.v (b+1+1),.x ((A.set a.toNat [I b,d6,d7,d8]).set a.toNat [d9,I (b+1),d11,d12]) a [d13,d14,d15,d16],.v (b+1+1+1),.x (((A.set a.toNat [I b,d6,d7,d8]).set a.toNat [d9,I (b+1),d11,d12]).set a.toNat [d13,d14,I (b+1+1),d16]) a [d17,d18,d19,d20],.v (b+1+1+1+1),.u a]):
 Tp (qaa f49 0) (qfm a b A) .normal (qfm (a+1) (b+1+1+1+1) ((((A.set a.toNat [I b,d6,d7,d8]).set a.toNat [d9,I (b+1),d11,d12]).set a.toNat [d13,d14,I (b+1+1),d16]).set a.toNat [d17,d18,d19,I (b+1+1+1)])):=
 h.lp [5,0,1] []
def ql2(a:Int)(A:LL):St:=
 { env:=envOf 41 [(0,PV.al (AL.one (lO 1000000000 4 A))),(1,vI a)],boxes:=[] }
theorem qL4(a b:Int)(A:LL)(h:Oo [.b (decide (a<(A.length:Int))) false]):
 Tp (qaa f49 0) (qfm a b A) (.exit 0) (ql2 b A):=
 h.lp [1,0] []
theorem qL5(h:Oo [.l [] [5,0,1] [] (qaa f49 0) (qfm 0 a A) (.exit 0) (ql2 b C)]):
 Rg 49 [GA.one (GC.gv 4 A (some C)),GA.one (GC.ro (I a))] [cI b]:=
 h.ofG
def qfn(a b:Int)(A:LL):St:=
 { env:=envOf 41 [(0,PV.al (AL.one (lO 1000000000 4 A))),(1,vI b),(5,vI a)],boxes:=[] }
theorem qL6(a b:Int)(A:LL)(d5 d6 d7 d8 d9 d10 d11 d12 d13 d14 d15 d16:D)(c d e:Int)(C E:LL)(f:Int)(h:Oo [.b (decide (a<(A.length:Int))) true,.p (0≤a),.p (a<(A.length:Int)),.e A a.toNat [d5,d6,d7,d8],.u b,.x (A.set a.toNat [I b,d6,d7,d8]) a [d9,d10,d11,d12],.v (b+1+1),.x ((A.set a.toNat [I b,d6,d7,d8]).set a.toNat [d9,I (b+1),d11,d12]) a [d13,d14,d15,d16],.a .sub,.v (b+1+1+1),.x (((A.set a.toNat [I b,d6,d7,d8]).set a.toNat [d9,I (b+1),d11,d12]).set a.toNat [d13,d14,I (b+1+1),d16]) a (nd c d e C),.a (.resG [[some (some E)],[none]] 0 (nd c d e C) [cI f]),.p (RetG prog 131 [GA.one (GC.gv 1 C (some E)),GA.one (GC.ro (I (b+1+1+1)))] [cI f]),.p ((((A.set a.toNat [I b,d6,d7,d8]).set a.toNat [d9,I (b+1),d11,d12]).set a.toNat [d13,d14,I (b+1+1),d16])[a.toNat]?=some (nd c d e C)),.p (a.toNat=a.toNat),.u a]):
 Tp (qaa f109 0) (qfn a b A) .normal (qfn (a+1) f ((((A.set a.toNat [I b,d6,d7,d8]).set a.toNat [d9,I (b+1),d11,d12]).set a.toNat [d13,d14,I (b+1+1),d16]).set a.toNat (nd c d e E))):=
 h.lp [5,0,1] []
def ql3(a:Int)(A:LL):St:=
 { env:=envOf 41 [(0,PV.al (AL.one (lO 1000000000 4 A))),(1,vI a)],boxes:=[] }
theorem qL7(a b:Int)(A:LL)(h:Oo [.b (decide (a<(A.length:Int))) false]):
 Tp (qaa f109 0) (qfn a b A) (.exit 0) (ql3 b A):=
 h.lp [1,0] []
theorem qL8(h:Oo [.l [] [5,0,1] [] (qaa f109 0) (qfn 0 a A) (.exit 0) (ql3 b C)]):
 Rg 109 [GA.one (GC.gv 4 A (some C)),GA.one (GC.ro (I a))] [cI b]:=
 h.ofG
theorem qL9(h:Oo [.a (.resG [[some (some A)],[none]] 0 [] [cI a]),.p (RetG prog 109 [GA.one (GC.gv 4 C (some A)),GA.one (GC.ro (I b))] [cI a])]):
 Rg 47 [GA.agg [GC.gv 4 C (some A),GC.ro (I c),GC.ro (I d)],GA.one (GC.ro (I b))] [cI a]:=
 h.ofG
def qfo(A:LL)(a b:Int):St:=
 { env:=envOf 49 [(0,vF 4 A),(1,vI b),(5,vI a)],boxes:=[] }
theorem qMa(h:Oo [.b (decide (a<(A.length:Int))) true,.p (0≤a),.p (a<(A.length:Int)),.e A a.toNat [I e,I p,I a0,I b0],.b (e != b) false,.u b,.p (0≤a),.p (a<(A.length:Int)),.e A a.toNat [I c0,I f,I g,I i],.b (f != b+1) false,.v (b+1+1),.p (0≤a),.p (a<(A.length:Int)),.e A a.toNat [I j,I k,I c,I l],.b (c != b+1+1) false,.v (b+1+1+1),.p (0≤a),.p (a<(A.length:Int)),.e A a.toNat [I m,I n,I o,I d],.b (d != b+1+1+1) false,.v (b+1+1+1+1),.u a]):
 Tp (qaa f50 0) (qfo A a b) .normal (qfo A (a+1) (b+1+1+1+1)):=
 h.lp [5,0,1] []
def qrk(a:Int):St:=
 { env:=envOf 49 [(1,vI a)],boxes:=[] }
theorem qMb(h:Oo [.b (decide (a<(A.length:Int))) false]):
 Tp (qaa f50 0) (qfo A a b) (.exit 0) (qrk b):=
 h.lp [1] []
theorem qMc(h:Oo [.l [] [5,0,1] [] (qaa f50 0) (qfo A 0 a) (.exit 0) (qrk b)]):
 Rt 50 [cS 4 A,cI a] [cI b]:=
 h.of
end Go.Proofs.YtdanpadojemjeaaGreat
