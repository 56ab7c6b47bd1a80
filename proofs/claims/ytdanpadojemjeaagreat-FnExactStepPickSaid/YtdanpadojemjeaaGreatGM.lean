import Derived.Test.YtdanpadojemjeaaGreatRows
import Derived.Test.YtdanpadojemjeaaGreatGE
namespace Go.Proofs.YtdanpadojemjeaaGreat
open Go.Sx Go.RowKit Go.Proofs.Tryz
variable {a b c d e f g i j k l m n o p a0 a1 b0 b1 c0 c1 d0 d1 e0 f0 i0 j0 k0 l0 m0 n0 o0 p0 : Int} {A C E F G H J K L M N P Q R S U V W X Y Z A0 A1 A2 C0 C1 C2 E0 E1 E2 F0 F1 F2 G0 G1 G2 H0 H1 H2 J0 J1 J2 K0 K1 K2 L0 L1 L2 M0 M1 M2 N0 N1 P0 P1 Q0 Q1 R0 R1 S0 S1 U0 U1 V0 V1 W0 W1 X0 X1 Y0 Y1 Z0 Z1 : LL} {q r s t u v w x y z q0 r0 s0 t0 u0 : Bool}
def qe4(a b:Int)(A:LL):St:=
 { env:=envOf 50 [(0,PV.al (AL.one (lO 1000000000 5 A))),(1,vI b),(5,vI a)],boxes:=[] }
theorem qLd(a b:Int)(A:LL)(d5 d6 d7 d8 d9 d10 d11 d12 d13 d14 d15 d16 d17 d18 d19 d20 d21 d22 d23 d24 d25 d26 d27 d28 d29:D)(h:Oo [.b (decide (a<(A.length:Int))) true,.p (0≤a),.p (a<(A.length:Int)),.e A a.toNat [d5,d6,d7,d8,d9],.u b,.x (A.set a.toNat [I b,d6,d7,d8,d9]) a [d10,d11,d12,d13,d14],.v (b+1+1),.x ((A.set a.toNat [I b,d6,d7,d8,d9]).set a.toNat [d10,I (b+1),d12,d13,d14]) a [d15,d16,d17,d18,d19],.v (b+1+1+1),.x (((A.set a.toNat [I b,d6,d7,d8,d9]).set a.toNat [d10,I (b+1),d12,d13,d14]).set a.toNat [d15,d16,I (b+1+1),d18,d19]) a [d20,d21,d22,d23,d24],.v (b+1+1+1+1),.p (0≤a),.p (a<(↑((((A.set a.toNat [I b,d6,d7,d8,d9]).set a.toNat [d10,I (b+1),d12,d13,d14]).set a.toNat [d15,d16,I (b+1+1),d18,d19]).set a.toNat [d20,d21,d22,I (b+1+1+1),d24]).length:Int)),.e ((((A.set a.toNat [I b,d6,d7,d8,d9]).set a.toNat [d10,I (b+1),d12,d13,d14]).set a.toNat [d15,d16,I (b+1+1),d18,d19]).set a.toNat [d20,d21,d22,I (b+1+1+1),d24]) a.toNat [d25,d26,d27,d28,d29],.v (b+1+1+1+1+1),.u a]):
 Tp (qaa f48 0) (qe4 a b A) .normal (qe4 (a+1) (b+1+1+1+1+1) (((((A.set a.toNat [I b,d6,d7,d8,d9]).set a.toNat [d10,I (b+1),d12,d13,d14]).set a.toNat [d15,d16,I (b+1+1),d18,d19]).set a.toNat [d20,d21,d22,I (b+1+1+1),d24]).set a.toNat [d25,d26,d27,d28,I (b+1+1+1+1)])):=
 h.lp [5,0,1] []
def qk6(a:Int)(A:LL):St:=
 { env:=envOf 50 [(0,PV.al (AL.one (lO 1000000000 5 A))),(1,vI a)],boxes:=[] }
theorem qLe(a b:Int)(A:LL)(h:Oo [.b (decide (a<(A.length:Int))) false]):
 Tp (qaa f48 0) (qe4 a b A) (.exit 0) (qk6 b A):=
 h.lp [1,0] []
theorem qLf(h:Oo [.l [] [5,0,1] [] (qaa f48 0) (qe4 0 a A) (.exit 0) (qk6 b C)]):
 Rg 48 [GA.one (GC.gv 5 A (some C)),GA.one (GC.ro (I a))] [cI b]:=
 h.ofG
def qe5(a b:Int)(A:LL):St:=
 { env:=envOf 36 [(0,PV.al (AL.one (lO 1000000000 3 A))),(1,vI b),(5,vI a)],boxes:=[] }
theorem qLg(a b:Int)(A:LL)(d5 d6 d7 d8 d9 d10 d11 d12 d13:D)(h:Oo [.b (decide (a<(A.length:Int))) true,.p (0≤a),.p (a<(A.length:Int)),.e A a.toNat [d5,d6,d7],.u b,.x (A.set a.toNat [I b,d6,d7]) a [d8,d9,d10],.v (b+1+1),.p ((3:Int)≠0),.x ((A.set a.toNat [I b,d6,d7]).set a.toNat [d8,I (b+1),d10]) a [d11,d12,d13],.v (b+1+1+1),.u a]):
 Tp (qaa f74 0) (qe5 a b A) .normal (qe5 (a+1) (b+1+1+1) (((A.set a.toNat [I b,d6,d7]).set a.toNat [d8,I (b+1),d10]).set a.toNat [d11,d12,B ((b+1+1).tmod 3==0)])):=
 h.lp [5,0,1] []
def qk7(a:Int)(A:LL):St:=
 { env:=envOf 36 [(0,PV.al (AL.one (lO 1000000000 3 A))),(1,vI a)],boxes:=[] }
theorem qLh(a b:Int)(A:LL)(h:Oo [.b (decide (a<(A.length:Int))) false]):
 Tp (qaa f74 0) (qe5 a b A) (.exit 0) (qk7 b A):=
 h.lp [1,0] []
theorem qLi(h:Oo [.l [] [5,0,1] [] (qaa f74 0) (qe5 0 a A) (.exit 0) (qk7 b C)]):
 Rg 74 [GA.one (GC.gv 3 A (some C)),GA.one (GC.ro (I a))] [cI b]:=
 h.ofG
def qe6(a b:Int)(A:LL):St:=
 { env:=envOf 19 [(0,PV.al (AL.one (lO 1000000000 1 A))),(1,vI b),(5,vI a)],boxes:=[] }
theorem qLj(a b:Int)(A:LL)(d5:D)(h:Oo [.b (decide (a<(A.length:Int))) true,.p (0≤a),.p (a<(A.length:Int)),.e A a.toNat [d5],.u b,.u a]):
 Tp (qaa f131 0) (qe6 a b A) .normal (qe6 (a+1) (b+1) (A.set a.toNat [I b])):=
 h.lp [5,0,1] []
def qk8(a:Int)(A:LL):St:=
 { env:=envOf 19 [(0,PV.al (AL.one (lO 1000000000 1 A))),(1,vI a)],boxes:=[] }
theorem qLk(a b:Int)(A:LL)(h:Oo [.b (decide (a<(A.length:Int))) false]):
 Tp (qaa f131 0) (qe6 a b A) (.exit 0) (qk8 b A):=
 h.lp [1,0] []
theorem qLl(h:Oo [.l [] [5,0,1] [] (qaa f131 0) (qe6 0 a A) (.exit 0) (qk8 b C)]):
 Rg 131 [GA.one (GC.gv 1 A (some C)),GA.one (GC.ro (I a))] [cI b]:=
 h.ofG
def qe7(a b:Int)(A:LL):St:=
 { env:=envOf 41 [(0,PV.al (AL.one (lO 1000000000 4 A))),(1,vI b),(5,vI a)],boxes:=[] }
theorem qLm(a b:Int)(A:LL)(d5 d6 d7 d8 d9 d10 d11 d12 d13 d14 d15 d16 d17 d18 d19 d20:D)(h:Oo [.b (decide (a<(A.length:Int))) true,.p (0≤a),.p (a<(A.length:Int)),.e A a.toNat [d5,d6,d7,d8],.u b,.x (A.set a.toNat [I b,d6,d7,d8]) a [d9,d10,d11,d12],.v (b+1+1),.x ((A.set a.toNat [I b,d6,d7,d8]).set a.toNat [d9,I (b+1),d11,d12]) a [d13,d14,d15,d16],.v (b+1+1+1),.x (((A.set a.toNat [I b,d6,d7,d8]).set a.toNat [d9,I (b+1),d11,d12]).set a.toNat [d13,d14,I (b+1+1),d16]) a [d17,d18,d19,d20],.v (b+1+1+1+1),.u a]):
 Tp (qaa f49 0) (qe7 a b A) .normal (qe7 (a+1) (b+1+1+1+1) ((((A.set a.toNat [I b,d6,d7,d8]).set a.toNat [d9,I (b+1),d11,d12]).set a.toNat [d13,d14,I (b+1+1),d16]).set a.toNat [d17,d18,d19,I (b+1+1+1)])):=
 h.lp [5,0,1] []
def qk9(a:Int)(A:LL):St:=
 { env:=envOf 41 [(0,PV.al (AL.one (lO 1000000000 4 A))),(1,vI a)],boxes:=[] }
theorem qLn(a b:Int)(A:LL)(h:Oo [.b (decide (a<(A.length:Int))) false]):
 Tp (qaa f49 0) (qe7 a b A) (.exit 0) (qk9 b A):=
 h.lp [1,0] []
theorem qLo(h:Oo [.l [] [5,0,1] [] (qaa f49 0) (qe7 0 a A) (.exit 0) (qk9 b C)]):
 Rg 49 [GA.one (GC.gv 4 A (some C)),GA.one (GC.ro (I a))] [cI b]:=
 h.ofG
def qe8(a b:Int)(A:LL):St:=
 { env:=envOf 21 [(0,PV.al (AL.one (lO 1000000000 1 A))),(1,vI b),(5,vI a)],boxes:=[] }
theorem qLp(a b:Int)(A:LL)(d5:D)(h:Oo [.b (decide (a<(A.length:Int))) true,.p ((3:Int)≠0),.p (0≤a),.p (a<(A.length:Int)),.e A a.toNat [d5],.u b,.u a]):
 Tp (qaa f32 0) (qe8 a b A) .normal (qe8 (a+1) (b+1) (A.set a.toNat [B (b.tmod 3==0)])):=
 h.lp [5,0,1] []
def qla(a:Int)(A:LL):St:=
 { env:=envOf 21 [(0,PV.al (AL.one (lO 1000000000 1 A))),(1,vI a)],boxes:=[] }
theorem qLq(a b:Int)(A:LL)(h:Oo [.b (decide (a<(A.length:Int))) false]):
 Tp (qaa f32 0) (qe8 a b A) (.exit 0) (qla b A):=
 h.lp [1,0] []
theorem qLr(h:Oo [.l [] [5,0,1] [] (qaa f32 0) (qe8 0 a A) (.exit 0) (qla b C)]):
 Rg 32 [GA.one (GC.gv 1 A (some C)),GA.one (GC.ro (I a))] [cI b]:=
 h.ofG
def qe9(a b:Int)(A:LL):St:=
 { env:=envOf 29 [(0,PV.al (AL.one (lO 1000000000 2 A))),(1,vI b),(5,vI a)],boxes:=[] }
theorem qLs(a b:Int)(A:LL)(d5 d6 d7 d8:D)(h:Oo [.b (decide (a<(A.length:Int))) true,.p (0≤a),.p (a<(A.length:Int)),.e A a.toNat [d5,d6],.u b,.p ((3:Int)≠0),.x (A.set a.toNat [I b,d6]) a [d7,d8],.v (b+1+1),.u a]):
 Tp (qaa f132 0) (qe9 a b A) .normal (qe9 (a+1) (b+1+1) ((A.set a.toNat [I b,d6]).set a.toNat [d7,B ((b+1).tmod 3==0)])):=
 h.lp [5,0,1] []
def qlb(a:Int)(A:LL):St:=
 { env:=envOf 29 [(0,PV.al (AL.one (lO 1000000000 2 A))),(1,vI a)],boxes:=[] }
theorem qLt(a b:Int)(A:LL)(h:Oo [.b (decide (a<(A.length:Int))) false]):
 Tp (qaa f132 0) (qe9 a b A) (.exit 0) (qlb b A):=
 h.lp [1,0] []
theorem qLu(h:Oo [.l [] [5,0,1] [] (qaa f132 0) (qe9 0 a A) (.exit 0) (qlb b C)]):
 Rg 132 [GA.one (GC.gv 2 A (some C)),GA.one (GC.ro (I a))] [cI b]:=
 h.ofG
def qfa(a b:Int)(A:LL):St:=
 { env:=envOf 54 [(0,PV.al (AL.one (lO 1000000000 5 A))),(1,vI b),(5,vI a)],boxes:=[] }
theorem qLv(a b:Int)(A:LL)(d5 d6 d7 d8 d9 d10 d11 d12 d13 d14 d15 d16 d17 d18 d19 d20 d21 d22 d23 d24 d25 d26 d27 d28 d29:D)(h:Oo [.b (decide (a<(A.length:Int))) true,.p ((3:Int)≠0),.p (0≤a),.p (a<(A.length:Int)),.e A a.toNat [d5,d6,d7,d8,d9],.u b,.x (A.set a.toNat [B (b.tmod 3==0),d6,d7,d8,d9]) a [d10,d11,d12,d13,d14],.v (b+1+1),.x ((A.set a.toNat [B (b.tmod 3==0),d6,d7,d8,d9]).set a.toNat [d10,I (b+1),d12,d13,d14]) a [d15,d16,d17,d18,d19],.v (b+1+1+1),.p ((3:Int)≠0),.p (0≤a),.p (a<(↑(((A.set a.toNat [B (b.tmod 3==0),d6,d7,d8,d9]).set a.toNat [d10,I (b+1),d12,d13,d14]).set a.toNat [d15,d16,I (b+1+1),d18,d19]).length:Int)),.e (((A.set a.toNat [B (b.tmod 3==0),d6,d7,d8,d9]).set a.toNat [d10,I (b+1),d12,d13,d14]).set a.toNat [d15,d16,I (b+1+1),d18,d19]) a.toNat [d20,d21,d22,d23,d24],.v (b+1+1+1+1),.p ((3:Int)≠0),.p (0≤a),.p (a<(↑((((A.set a.toNat [B (b.tmod 3==0),d6,d7,d8,d9]).set a.toNat [d10,I (b+1),d12,d13,d14]).set a.toNat [d15,d16,I (b+1+1),d18,d19]).set a.toNat [d20,d21,d22,B ((b+1+1+1).tmod 3==0),d24]).length:Int)),.e ((((A.set a.toNat [B (b.tmod 3==0),d6,d7,d8,d9]).set a.toNat [d10,I (b+1),d12,d13,d14]).set a.toNat [d15,d16,I (b+1+1),d18,d19]).set a.toNat [d20,d21,d22,B ((b+1+1+1).tmod 3==0),d24]) a.toNat [d25,d26,d27,d28,d29],.v (b+1+1+1+1+1),.u a]):
 Tp (qaa f73 0) (qfa a b A) .normal (qfa (a+1) (b+1+1+1+1+1) (((((A.set a.toNat [B (b.tmod 3==0),d6,d7,d8,d9]).set a.toNat [d10,I (b+1),d12,d13,d14]).set a.toNat [d15,d16,I (b+1+1),d18,d19]).set a.toNat [d20,d21,d22,B ((b+1+1+1).tmod 3==0),d24]).set a.toNat [d25,d26,d27,d28,B ((b+1+1+1+1).tmod 3==0)])):=
 h.lp [5,0,1] []
def qlc(a:Int)(A:LL):St:=
 { env:=envOf 54 [(0,PV.al (AL.one (lO 1000000000 5 A))),(1,vI a)],boxes:=[] }
theorem qLw(a b:Int)(A:LL)(h:Oo [.b (decide (a<(A.length:Int))) false]):
 Tp (qaa f73 0) (qfa a b A) (.exit 0) (qlc b A):=
 h.lp [1,0] []
theorem qLx(h:Oo [.l [] [5,0,1] [] (qaa f73 0) (qfa 0 a A) (.exit 0) (qlc b C)]):
 Rg 73 [GA.one (GC.gv 5 A (some C)),GA.one (GC.ro (I a))] [cI b]:=
 h.ofG
def qfb(a b:Int)(A:LL):St:=
 { env:=envOf 41 [(0,PV.al (AL.one (lO 1000000000 4 A))),(1,vI b),(5,vI a)],boxes:=[] }
theorem qLy(a b:Int)(A:LL)(d5 d6 d7 d8 d9 d10 d11 d12 d13 d14 d15 d16:D)(c d e:Int)(C E:LL)(f:Int)(h:Oo [.b (decide (a<(A.length:Int))) true,.p (0≤a),.p (a<(A.length:Int)),.e A a.toNat [d5,d6,d7,d8],.u b,.x (A.set a.toNat [I b,d6,d7,d8]) a [d9,d10,d11,d12],.v (b+1+1),.x ((A.set a.toNat [I b,d6,d7,d8]).set a.toNat [d9,I (b+1),d11,d12]) a [d13,d14,d15,d16],.a .sub,.v (b+1+1+1),.x (((A.set a.toNat [I b,d6,d7,d8]).set a.toNat [d9,I (b+1),d11,d12]).set a.toNat [d13,d14,I (b+1+1),d16]) a (nd c d e C),.a (.resG [[some (some E)],[none]] 0 (nd c d e C) [cI f]),.p (RetG prog 131 [GA.one (GC.gv 1 C (some E)),GA.one (GC.ro (I (b+1+1+1)))] [cI f]),.p ((((A.set a.toNat [I b,d6,d7,d8]).set a.toNat [d9,I (b+1),d11,d12]).set a.toNat [d13,d14,I (b+1+1),d16])[a.toNat]?=some (nd c d e C)),.p (a.toNat=a.toNat),.u a]):
 Tp (qaa f109 0) (qfb a b A) .normal (qfb (a+1) f ((((A.set a.toNat [I b,d6,d7,d8]).set a.toNat [d9,I (b+1),d11,d12]).set a.toNat [d13,d14,I (b+1+1),d16]).set a.toNat (nd c d e E))):=
 h.lp [5,0,1] []
def qld(a:Int)(A:LL):St:=
 { env:=envOf 41 [(0,PV.al (AL.one (lO 1000000000 4 A))),(1,vI a)],boxes:=[] }
theorem qLz(a b:Int)(A:LL)(h:Oo [.b (decide (a<(A.length:Int))) false]):
 Tp (qaa f109 0) (qfb a b A) (.exit 0) (qld b A):=
 h.lp [1,0] []
theorem qLA(h:Oo [.l [] [5,0,1] [] (qaa f109 0) (qfb 0 a A) (.exit 0) (qld b C)]):
 Rg 109 [GA.one (GC.gv 4 A (some C)),GA.one (GC.ro (I a))] [cI b]:=
 h.ofG
def qfc(a b:Int)(A:LL):St:=
 { env:=envOf 55 [(0,PV.al (AL.one (lO 1000000000 6 A))),(1,vI b),(5,vI a)],boxes:=[] }
theorem qLB(a c:Int)(A:LL)(d5 d6 d7 d8 d9 d10:D)(d:Int)(E:LL)(e f g i:Int)(C:LL)(b:Int)(d19 d20 d21 d22 d23 d24 d25 d26 d27 d28 d29 d30 d31 d32 d33 d34 d35 d36 d37 d38 d39 d40 d41 d42:D)(h:Oo [.b (decide (a<(A.length:Int))) true,.p (0≤a),.p (a<(A.length:Int)),.e A a.toNat [d5,d6,d7,d8,d9,d10],.a .sub,.u c,.x (A.set a.toNat [I c,d6,d7,d8,d9,d10]) a (lk d E e f g i),.a (.resG [[some (some C)],[none]] 0 (lk d E e f g i) [cI b]),.p (RetG prog 48 [GA.one (GC.gv 5 E (some C)),GA.one (GC.ro (I (c+1)))] [cI b]),.p ((A.set a.toNat [I c,d6,d7,d8,d9,d10])[a.toNat]?=some (lk d E e f g i)),.p (a.toNat=a.toNat),.x ((A.set a.toNat [I c,d6,d7,d8,d9,d10]).set a.toNat (lk d C e f g i)) a [d19,d20,d21,d22,d23,d24],.u b,.x (((A.set a.toNat [I c,d6,d7,d8,d9,d10]).set a.toNat (lk d C e f g i)).set a.toNat [d19,d20,I b,d22,d23,d24]) a [d25,d26,d27,d28,d29,d30],.v (b+1+1),.p (0≤a),.p (a<(↑((((A.set a.toNat [I c,d6,d7,d8,d9,d10]).set a.toNat (lk d C e f g i)).set a.toNat [d19,d20,I b,d22,d23,d24]).set a.toNat [d25,d26,d27,I (b+1),d29,d30]).length:Int)),.e ((((A.set a.toNat [I c,d6,d7,d8,d9,d10]).set a.toNat (lk d C e f g i)).set a.toNat [d19,d20,I b,d22,d23,d24]).set a.toNat [d25,d26,d27,I (b+1),d29,d30]) a.toNat [d31,d32,d33,d34,d35,d36],.v (b+1+1+1),.p (0≤a),.p (a<(↑(((((A.set a.toNat [I c,d6,d7,d8,d9,d10]).set a.toNat (lk d C e f g i)).set a.toNat [d19,d20,I b,d22,d23,d24]).set a.toNat [d25,d26,d27,I (b+1),d29,d30]).set a.toNat [d31,d32,d33,d34,I (b+1+1),d36]).length:Int)),.e (((((A.set a.toNat [I c,d6,d7,d8,d9,d10]).set a.toNat (lk d C e f g i)).set a.toNat [d19,d20,I b,d22,d23,d24]).set a.toNat [d25,d26,d27,I (b+1),d29,d30]).set a.toNat [d31,d32,d33,d34,I (b+1+1),d36]) a.toNat [d37,d38,d39,d40,d41,d42],.v (b+1+1+1+1),.u a]):
 Tp (qaa f72 0) (qfc a c A) .normal (qfc (a+1) (b+1+1+1+1) ((((((A.set a.toNat [I c,d6,d7,d8,d9,d10]).set a.toNat (lk d C e f g i)).set a.toNat [d19,d20,I b,d22,d23,d24]).set a.toNat [d25,d26,d27,I (b+1),d29,d30]).set a.toNat [d31,d32,d33,d34,I (b+1+1),d36]).set a.toNat [d37,d38,d39,d40,d41,I (b+1+1+1)])):=
 h.lp [5,0,1] []
def qle(a:Int)(A:LL):St:=
 { env:=envOf 55 [(0,PV.al (AL.one (lO 1000000000 6 A))),(1,vI a)],boxes:=[] }
theorem qLC(a b:Int)(A:LL)(h:Oo [.b (decide (a<(A.length:Int))) false]):
 Tp (qaa f72 0) (qfc a b A) (.exit 0) (qle b A):=
 h.lp [1,0] []
theorem qLD(h:Oo [.l [] [5,0,1] [] (qaa f72 0) (qfc 0 a A) (.exit 0) (qle b C)]):
 Rg 72 [GA.one (GC.gv 6 A (some C)),GA.one (GC.ro (I a))] [cI b]:=
 h.ofG
def qfd(a b:Int)(A:LL):St:=
 { env:=envOf 69 [(0,PV.al (AL.one (lO 1000000000 8 A))),(1,vI b),(5,vI a)],boxes:=[] }
theorem qLE(a k:Int)(A Y1 G H J K C E F L:LL)(b:Int)(M U1 N P Q R S U V:LL)(c:Int)(W X V1 Y Z A0 C0 E0 F0:LL)(d:Int)(G0 H0 J0 W1 K0 L0 M0 N0 P0:LL)(e:Int)(Q0 R0 S0 U0 X1 V0 W0 X0 Y0:LL)(f:Int)(Z0 A1 C1 E1 F1 Z1 G1 H1 J1:LL)(g:Int)(K1 L1 M1 N1 P1 Q1 A2 R1 S1:LL)(i:Int)(C2 E2 F2 G2 H2 J2 K2 L2 M2:LL)(j:Int)(h:Oo [.b (decide (a<(A.length:Int))) true,.a .sub,.p (0≤a),.p (a<(A.length:Int)),.e A a.toNat (wk Y1 G H J K C E F),.a (.resG [[some (some L)],[none]] 0 (wk Y1 G H J K C E F) [cI b]),.a .sub,.p (RetG prog 48 [GA.one (GC.gv 5 Y1 (some L)),GA.one (GC.ro (I k))] [cI b]),.p (A[a.toNat]?=some (wk Y1 G H J K C E F)),.p (a.toNat=a.toNat),.x (A.set a.toNat (wk L G H J K C E F)) a (wk M U1 N P Q R S U),.a (.resG [[some (some V)],[none]] 0 (wk M U1 N P Q R S U) [cI c]),.a .sub,.p (RetG prog 48 [GA.one (GC.gv 5 U1 (some V)),GA.one (GC.ro (I b))] [cI c]),.p ((A.set a.toNat (wk L G H J K C E F))[a.toNat]?=some (wk M U1 N P Q R S U)),.p (a.toNat=a.toNat),.x ((A.set a.toNat (wk L G H J K C E F)).set a.toNat (wk M V N P Q R S U)) a (wk W X V1 Y Z A0 C0 E0),.a (.resG [[some (some F0)],[none]] 0 (wk W X V1 Y Z A0 C0 E0) [cI d]),.a .sub,.p (RetG prog 48 [GA.one (GC.gv 5 V1 (some F0)),GA.one (GC.ro (I c))] [cI d]),.p (((A.set a.toNat (wk L G H J K C E F)).set a.toNat (wk M V N P Q R S U))[a.toNat]?=some (wk W X V1 Y Z A0 C0 E0)),.p (a.toNat=a.toNat),.p (0≤a),.p (a<(↑(((A.set a.toNat (wk L G H J K C E F)).set a.toNat (wk M V N P Q R S U)).set a.toNat (wk W X F0 Y Z A0 C0 E0)).length:Int)),.e (((A.set a.toNat (wk L G H J K C E F)).set a.toNat (wk M V N P Q R S U)).set a.toNat (wk W X F0 Y Z A0 C0 E0)) a.toNat (wk G0 H0 J0 W1 K0 L0 M0 N0),.a (.resG [[some (some P0)],[none]] 0 (wk G0 H0 J0 W1 K0 L0 M0 N0) [cI e]),.a .sub,.p (RetG prog 49 [GA.one (GC.gv 4 W1 (some P0)),GA.one (GC.ro (I d))] [cI e]),.p ((((A.set a.toNat (wk L G H J K C E F)).set a.toNat (wk M V N P Q R S U)).set a.toNat (wk W X F0 Y Z A0 C0 E0))[a.toNat]?=some (wk G0 H0 J0 W1 K0 L0 M0 N0)),.p (a.toNat=a.toNat),.p (0≤a),.p (a<(↑((((A.set a.toNat (wk L G H J K C E F)).set a.toNat (wk M V N P Q R S U)).set a.toNat (wk W X F0 Y Z A0 C0 E0)).set a.toNat (wk G0 H0 J0 P0 K0 L0 M0 N0)).length:Int)),.e ((((A.set a.toNat (wk L G H J K C E F)).set a.toNat (wk M V N P Q R S U)).set a.toNat (wk W X F0 Y Z A0 C0 E0)).set a.toNat (wk G0 H0 J0 P0 K0 L0 M0 N0)) a.toNat (wk Q0 R0 S0 U0 X1 V0 W0 X0),.a (.resG [[some (some Y0)],[none]] 0 (wk Q0 R0 S0 U0 X1 V0 W0 X0) [cI f]),.a .sub,.p (RetG prog 131 [GA.one (GC.gv 1 X1 (some Y0)),GA.one (GC.ro (I e))] [cI f]),.p (((((A.set a.toNat (wk L G H J K C E F)).set a.toNat (wk M V N P Q R S U)).set a.toNat (wk W X F0 Y Z A0 C0 E0)).set a.toNat (wk G0 H0 J0 P0 K0 L0 M0 N0))[a.toNat]?=some (wk Q0 R0 S0 U0 X1 V0 W0 X0)),.p (a.toNat=a.toNat),.p (0≤a),.p (a<(↑(((((A.set a.toNat (wk L G H J K C E F)).set a.toNat (wk M V N P Q R S U)).set a.toNat (wk W X F0 Y Z A0 C0 E0)).set a.toNat (wk G0 H0 J0 P0 K0 L0 M0 N0)).set a.toNat (wk Q0 R0 S0 U0 Y0 V0 W0 X0)).length:Int)),.e (((((A.set a.toNat (wk L G H J K C E F)).set a.toNat (wk M V N P Q R S U)).set a.toNat (wk W X F0 Y Z A0 C0 E0)).set a.toNat (wk G0 H0 J0 P0 K0 L0 M0 N0)).set a.toNat (wk Q0 R0 S0 U0 Y0 V0 W0 X0)) a.toNat (wk Z0 A1 C1 E1 F1 Z1 G1 H1),.a (.resG [[some (some J1)],[none]] 0 (wk Z0 A1 C1 E1 F1 Z1 G1 H1) [cI g]),.a .sub,.p (RetG prog 32 [GA.one (GC.gv 1 Z1 (some J1)),GA.one (GC.ro (I f))] [cI g]),.p ((((((A.set a.toNat (wk L G H J K C E F)).set a.toNat (wk M V N P Q R S U)).set a.toNat (wk W X F0 Y Z A0 C0 E0)).set a.toNat (wk G0 H0 J0 P0 K0 L0 M0 N0)).set a.toNat (wk Q0 R0 S0 U0 Y0 V0 W0 X0))[a.toNat]?=some (wk Z0 A1 C1 E1 F1 Z1 G1 H1)),.p (a.toNat=a.toNat),.p (0≤a),.p (a<(↑((((((A.set a.toNat (wk L G H J K C E F)).set a.toNat (wk M V N P Q R S U)).set a.toNat (wk W X F0 Y Z A0 C0 E0)).set a.toNat (wk G0 H0 J0 P0 K0 L0 M0 N0)).set a.toNat (wk Q0 R0 S0 U0 Y0 V0 W0 X0)).set a.toNat (wk Z0 A1 C1 E1 F1 J1 G1 H1)).length:Int)),.e ((((((A.set a.toNat (wk L G H J K C E F)).set a.toNat (wk M V N P Q R S U)).set a.toNat (wk W X F0 Y Z A0 C0 E0)).set a.toNat (wk G0 H0 J0 P0 K0 L0 M0 N0)).set a.toNat (wk Q0 R0 S0 U0 Y0 V0 W0 X0)).set a.toNat (wk Z0 A1 C1 E1 F1 J1 G1 H1)) a.toNat (wk K1 L1 M1 N1 P1 Q1 A2 R1),.a (.resG [[some (some S1)],[none]] 0 (wk K1 L1 M1 N1 P1 Q1 A2 R1) [cI i]),.a .sub,.p (RetG prog 32 [GA.one (GC.gv 1 A2 (some S1)),GA.one (GC.ro (I g))] [cI i]),.p (((((((A.set a.toNat (wk L G H J K C E F)).set a.toNat (wk M V N P Q R S U)).set a.toNat (wk W X F0 Y Z A0 C0 E0)).set a.toNat (wk G0 H0 J0 P0 K0 L0 M0 N0)).set a.toNat (wk Q0 R0 S0 U0 Y0 V0 W0 X0)).set a.toNat (wk Z0 A1 C1 E1 F1 J1 G1 H1))[a.toNat]?=some (wk K1 L1 M1 N1 P1 Q1 A2 R1)),.p (a.toNat=a.toNat),.p (0≤a),.p (a<(↑(((((((A.set a.toNat (wk L G H J K C E F)).set a.toNat (wk M V N P Q R S U)).set a.toNat (wk W X F0 Y Z A0 C0 E0)).set a.toNat (wk G0 H0 J0 P0 K0 L0 M0 N0)).set a.toNat (wk Q0 R0 S0 U0 Y0 V0 W0 X0)).set a.toNat (wk Z0 A1 C1 E1 F1 J1 G1 H1)).set a.toNat (wk K1 L1 M1 N1 P1 Q1 S1 R1)).length:Int)),.e (((((((A.set a.toNat (wk L G H J K C E F)).set a.toNat (wk M V N P Q R S U)).set a.toNat (wk W X F0 Y Z A0 C0 E0)).set a.toNat (wk G0 H0 J0 P0 K0 L0 M0 N0)).set a.toNat (wk Q0 R0 S0 U0 Y0 V0 W0 X0)).set a.toNat (wk Z0 A1 C1 E1 F1 J1 G1 H1)).set a.toNat (wk K1 L1 M1 N1 P1 Q1 S1 R1)) a.toNat (wk C2 E2 F2 G2 H2 J2 K2 L2),.a (.resG [[some (some M2)],[none]] 0 (wk C2 E2 F2 G2 H2 J2 K2 L2) [cI j]),.p (RetG prog 132 [GA.one (GC.gv 2 L2 (some M2)),GA.one (GC.ro (I i))] [cI j]),.p ((((((((A.set a.toNat (wk L G H J K C E F)).set a.toNat (wk M V N P Q R S U)).set a.toNat (wk W X F0 Y Z A0 C0 E0)).set a.toNat (wk G0 H0 J0 P0 K0 L0 M0 N0)).set a.toNat (wk Q0 R0 S0 U0 Y0 V0 W0 X0)).set a.toNat (wk Z0 A1 C1 E1 F1 J1 G1 H1)).set a.toNat (wk K1 L1 M1 N1 P1 Q1 S1 R1))[a.toNat]?=some (wk C2 E2 F2 G2 H2 J2 K2 L2)),.p (a.toNat=a.toNat),.u a]):
 Tp (qaa f71 0) (qfd a k A) .normal (qfd (a+1) j ((((((((A.set a.toNat (wk L G H J K C E F)).set a.toNat (wk M V N P Q R S U)).set a.toNat (wk W X F0 Y Z A0 C0 E0)).set a.toNat (wk G0 H0 J0 P0 K0 L0 M0 N0)).set a.toNat (wk Q0 R0 S0 U0 Y0 V0 W0 X0)).set a.toNat (wk Z0 A1 C1 E1 F1 J1 G1 H1)).set a.toNat (wk K1 L1 M1 N1 P1 Q1 S1 R1)).set a.toNat (wk C2 E2 F2 G2 H2 J2 K2 M2))):=
 h.lp [5,0,1] []
def qlf(a:Int)(A:LL):St:=
 { env:=envOf 69 [(0,PV.al (AL.one (lO 1000000000 8 A))),(1,vI a)],boxes:=[] }
theorem qLF(a b:Int)(A:LL)(h:Oo [.b (decide (a<(A.length:Int))) false]):
 Tp (qaa f71 0) (qfd a b A) (.exit 0) (qlf b A):=
 h.lp [1,0] []
theorem qLG(h:Oo [.l [] [5,0,1] [] (qaa f71 0) (qfd 0 a A) (.exit 0) (qlf b C)]):
 Rg 71 [GA.one (GC.gv 8 A (some C)),GA.one (GC.ro (I a))] [cI b]:=
 h.ofG
theorem qLH(h:Oo [.a (.resG [[some (some A)],[none]] 0 [] [cI a]),.p (RetG prog 109 [GA.one (GC.gv 4 C (some A)),GA.one (GC.ro (I b))] [cI a])]):
 Rg 47 [GA.agg [GC.gv 4 C (some A),GC.ro (I c),GC.ro (I d)],GA.one (GC.ro (I b))] [cI a]:=
 h.ofG
theorem qLI(h:Oo [.a (.resG [[some (some G),none,none],[none]] 0 [] [cI e]),.a (.resG [[some (some A)],[none]] 0 [] [cI a]),.a (.resG [[some (some C)],[none]] 0 [] [cI b]),.a (.resG [[some (some E)],[none]] 0 [] [cI c]),.a (.resG [[some (some F)],[none]] 0 [] [cI d]),.p (RetG prog 47 [GA.agg [GC.gv 4 H (some G),GC.ro (I f),GC.ro (I g)],GA.one (GC.ro (I i))] [cI e]),.p (RetG prog 71 [GA.one (GC.gv 8 J (some A)),GA.one (GC.ro (I e))] [cI a]),.p (RetG prog 72 [GA.one (GC.gv 6 K (some C)),GA.one (GC.ro (I a))] [cI b]),.p (RetG prog 73 [GA.one (GC.gv 5 L (some E)),GA.one (GC.ro (I b))] [cI c]),.p (RetG prog 74 [GA.one (GC.gv 3 M (some F)),GA.one (GC.ro (I c))] [cI d])]):
 Rg 16 [GA.agg [GC.gv 4 H (some G),GC.ro (I f),GC.ro (I g),GC.gv 8 J (some A),GC.gv 6 K (some C),GC.gv 5 L (some E),GC.gv 3 M (some F)],GA.one (GC.ro (I i))] [cI d]:=
 h.ofG
def qfe(A:LL)(a b:Int):St:=
 { env:=envOf 60 [(0,vF 5 A),(1,vI b),(5,vI a)],boxes:=[] }
theorem qLJ(h:Oo [.b (decide (a<(A.length:Int))) true,.p (0≤a),.p (a<(A.length:Int)),.e A a.toNat (ri g j0 k0 l0 m0),.b (g != b) false,.u b,.p (0≤a),.p (a<(A.length:Int)),.e A a.toNat (ri n0 c i j k),.b (c != b+1) false,.v (b+1+1),.p (0≤a),.p (a<(A.length:Int)),.e A a.toNat (ri l m d n o),.b (d != b+1+1) false,.v (b+1+1+1),.p (0≤a),.p (a<(A.length:Int)),.e A a.toNat (ri p a0 b0 e c0),.b (e != b+1+1+1) false,.v (b+1+1+1+1),.p (0≤a),.p (a<(A.length:Int)),.e A a.toNat (ri d0 e0 f0 i0 f),.b (f != b+1+1+1+1) false,.v (b+1+1+1+1+1),.u a]):
 Tp (qaa f134 0) (qfe A a b) .normal (qfe A (a+1) (b+1+1+1+1+1)):=
 h.lp [5,0,1] []
def qqc(a:Int):St:=
 { env:=envOf 60 [(1,vI a)],boxes:=[] }
theorem qLK(h:Oo [.b (decide (a<(A.length:Int))) false]):
 Tp (qaa f134 0) (qfe A a b) (.exit 0) (qqc b):=
 h.lp [1] []
theorem qLL(h:Oo [.l [] [5,0,1] [] (qaa f134 0) (qfe A 0 a) (.exit 0) (qqc b)]):
 Rt 134 [cS 5 A,cI a] [cI b]:=
 h.of
def qff(A:LL)(a b:Int):St:=
 { env:=envOf 42 [(0,vF 3 A),(1,vI b),(5,vI a)],boxes:=[] }
theorem qLM(h:Oo [.b (decide (a<(A.length:Int))) true,.p (0≤a),.p (a<(A.length:Int)),.e A a.toNat [I c,I g,B r],.b (c != b) false,.u b,.p (0≤a),.p (a<(A.length:Int)),.e A a.toNat [I i,I d,B s],.b (d != b+1) false,.v (b+1+1),.p (0≤a),.p (a<(A.length:Int)),.e A a.toNat [I e,I f,B q],.p ((3:Int)≠0),.b (!q==((b+1+1).tmod 3==0)) false,.v (b+1+1+1),.u a]):
 Tp (qaa f79 0) (qff A a b) .normal (qff A (a+1) (b+1+1+1)):=
 h.lp [5,0,1] []
def qqd(a:Int):St:=
 { env:=envOf 42 [(1,vI a)],boxes:=[] }
theorem qLN(h:Oo [.b (decide (a<(A.length:Int))) false]):
 Tp (qaa f79 0) (qff A a b) (.exit 0) (qqd b):=
 h.lp [1] []
theorem qLO(h:Oo [.l [] [5,0,1] [] (qaa f79 0) (qff A 0 a) (.exit 0) (qqd b)]):
 Rt 79 [cS 3 A,cI a] [cI b]:=
 h.of
def qfg(A:LL)(a b:Int):St:=
 { env:=envOf 21 [(0,vF 1 A),(1,vI b),(5,vI a)],boxes:=[] }
theorem qLP(h:Oo [.b (decide (a<(A.length:Int))) true,.p (0≤a),.p (a<(A.length:Int)),.e A a.toNat [I c],.b (c != b) false,.u b,.u a]):
 Tp (qaa f135 0) (qfg A a b) .normal (qfg A (a+1) (b+1)):=
 h.lp [5,0,1] []
def qqe(a:Int):St:=
 { env:=envOf 21 [(1,vI a)],boxes:=[] }
theorem qLQ(h:Oo [.b (decide (a<(A.length:Int))) false]):
 Tp (qaa f135 0) (qfg A a b) (.exit 0) (qqe b):=
 h.lp [1] []
theorem qLR(h:Oo [.l [] [5,0,1] [] (qaa f135 0) (qfg A 0 a) (.exit 0) (qqe b)]):
 Rt 135 [cS 1 A,cI a] [cI b]:=
 h.of
def qfh(A:LL)(a b:Int):St:=
 { env:=envOf 49 [(0,vF 4 A),(1,vI b),(5,vI a)],boxes:=[] }
theorem qLS(h:Oo [.b (decide (a<(A.length:Int))) true,.p (0≤a),.p (a<(A.length:Int)),.e A a.toNat [I e,I p,I a0,I b0],.b (e != b) false,.u b,.p (0≤a),.p (a<(A.length:Int)),.e A a.toNat [I c0,I f,I g,I i],.b (f != b+1) false,.v (b+1+1),.p (0≤a),.p (a<(A.length:Int)),.e A a.toNat [I j,I k,I c,I l],.b (c != b+1+1) false,.v (b+1+1+1),.p (0≤a),.p (a<(A.length:Int)),.e A a.toNat [I m,I n,I o,I d],.b (d != b+1+1+1) false,.v (b+1+1+1+1),.u a]):
 Tp (qaa f50 0) (qfh A a b) .normal (qfh A (a+1) (b+1+1+1+1)):=
 h.lp [5,0,1] []
def qqf(a:Int):St:=
 { env:=envOf 49 [(1,vI a)],boxes:=[] }
theorem qLT(h:Oo [.b (decide (a<(A.length:Int))) false]):
 Tp (qaa f50 0) (qfh A a b) (.exit 0) (qqf b):=
 h.lp [1] []
theorem qLU(h:Oo [.l [] [5,0,1] [] (qaa f50 0) (qfh A 0 a) (.exit 0) (qqf b)]):
 Rt 50 [cS 4 A,cI a] [cI b]:=
 h.of
def qfi(A:LL)(a b:Int):St:=
 { env:=envOf 23 [(0,vF 1 A),(1,vI b),(5,vI a)],boxes:=[] }
theorem qLV(h:Oo [.b (decide (a<(A.length:Int))) true,.p (0≤a),.p (a<(A.length:Int)),.e A a.toNat [B q],.p ((3:Int)≠0),.b (!q==(b.tmod 3==0)) false,.u b,.u a]):
 Tp (qaa f33 0) (qfi A a b) .normal (qfi A (a+1) (b+1)):=
 h.lp [5,0,1] []
def qqg(a:Int):St:=
 { env:=envOf 23 [(1,vI a)],boxes:=[] }
theorem qLW(h:Oo [.b (decide (a<(A.length:Int))) false]):
 Tp (qaa f33 0) (qfi A a b) (.exit 0) (qqg b):=
 h.lp [1] []
theorem qLX(h:Oo [.l [] [5,0,1] [] (qaa f33 0) (qfi A 0 a) (.exit 0) (qqg b)]):
 Rt 33 [cS 1 A,cI a] [cI b]:=
 h.of
def qfj(A:LL)(a b:Int):St:=
 { env:=envOf 33 [(0,vF 2 A),(1,vI b),(5,vI a)],boxes:=[] }
theorem qLY(h:Oo [.b (decide (a<(A.length:Int))) true,.p (0≤a),.p (a<(A.length:Int)),.e A a.toNat [I c,B r],.b (c != b) false,.u b,.p (0≤a),.p (a<(A.length:Int)),.e A a.toNat [I d,B q],.p ((3:Int)≠0),.b (!q==((b+1).tmod 3==0)) false,.v (b+1+1),.u a]):
 Tp (qaa f136 0) (qfj A a b) .normal (qfj A (a+1) (b+1+1)):=
 h.lp [5,0,1] []
def qqh(a:Int):St:=
 { env:=envOf 33 [(1,vI a)],boxes:=[] }
theorem qLZ(h:Oo [.b (decide (a<(A.length:Int))) false]):
 Tp (qaa f136 0) (qfj A a b) (.exit 0) (qqh b):=
 h.lp [1] []
theorem qL0(h:Oo [.l [] [5,0,1] [] (qaa f136 0) (qfj A 0 a) (.exit 0) (qqh b)]):
 Rt 136 [cS 2 A,cI a] [cI b]:=
 h.of
def qfk(A:LL)(a b:Int):St:=
 { env:=envOf 64 [(0,vF 5 A),(1,vI b),(5,vI a)],boxes:=[] }
theorem qL1(h:Oo [.b (decide (a<(A.length:Int))) true,.p (0≤a),.p (a<(A.length:Int)),.e A a.toNat [B s,I l,I m,B s0,B t0],.p ((3:Int)≠0),.b (!s==(b.tmod 3==0)) false,.u b,.p (0≤a),.p (a<(A.length:Int)),.e A a.toNat [B u0,I c,I e,B t,B u],.b (c != b+1) false,.v (b+1+1),.p (0≤a),.p (a<(A.length:Int)),.e A a.toNat [B v,I f,I d,B w,B x],.b (d != b+1+1) false,.v (b+1+1+1),.p (0≤a),.p (a<(A.length:Int)),.e A a.toNat [B y,I g,I i,B q,B z],.p ((3:Int)≠0),.b (!q==((b+1+1+1).tmod 3==0)) false,.v (b+1+1+1+1),.p (0≤a),.p (a<(A.length:Int)),.e A a.toNat [B q0,I j,I k,B r0,B r],.p ((3:Int)≠0),.b (!r==((b+1+1+1+1).tmod 3==0)) false,.v (b+1+1+1+1+1),.u a]):
 Tp (qaa f78 0) (qfk A a b) .normal (qfk A (a+1) (b+1+1+1+1+1)):=
 h.lp [5,0,1] []
def qqi(a:Int):St:=
 { env:=envOf 64 [(1,vI a)],boxes:=[] }
theorem qL2(h:Oo [.b (decide (a<(A.length:Int))) false]):
 Tp (qaa f78 0) (qfk A a b) (.exit 0) (qqi b):=
 h.lp [1] []
theorem qL3(h:Oo [.l [] [5,0,1] [] (qaa f78 0) (qfk A 0 a) (.exit 0) (qqi b)]):
 Rt 78 [cS 5 A,cI a] [cI b]:=
 h.of
def qfl(A:LL)(a b:Int):St:=
 { env:=envOf 49 [(0,vF 4 A),(1,vI b),(5,vI a)],boxes:=[] }
theorem qL4(h:Oo [.b (decide (a<(A.length:Int))) true,.p (0≤a),.p (a<(A.length:Int)),.e A a.toNat (nd e n o G),.b (e != b) false,.u b,.p (0≤a),.p (a<(A.length:Int)),.e A a.toNat (nd p f g E),.b (f != b+1) false,.v (b+1+1),.p (0≤a),.p (a<(A.length:Int)),.e A a.toNat (nd i j d F),.b (d != b+1+1) false,.v (b+1+1+1),.p (0≤a),.p (a<(A.length:Int)),.e A a.toNat (nd k l m C),.r 135 [cS 1 C,cI (b+1+1+1)] [cI c],.b (decide (c<0)) false,.u a]):
 Tp (qaa f133 0) (qfl A a b) .normal (qfl A (a+1) c):=
 h.lp [5,0,1] []
def qqj(a:Int):St:=
 { env:=envOf 49 [(1,vI a)],boxes:=[] }
theorem qL5(h:Oo [.b (decide (a<(A.length:Int))) false]):
 Tp (qaa f133 0) (qfl A a b) (.exit 0) (qqj b):=
 h.lp [1] []
theorem qL6(h:Oo [.l [] [5,0,1] [] (qaa f133 0) (qfl A 0 a) (.exit 0) (qqj b)]):
 Rt 133 [cS 4 A,cI a] [cI b]:=
 h.of
def qfm(A:LL)(a b:Int):St:=
 { env:=envOf 67 [(0,vF 6 A),(1,vI b),(5,vI a)],boxes:=[] }
theorem qL7(h:Oo [.b (decide (a<(A.length:Int))) true,.p (0≤a),.p (a<(A.length:Int)),.e A a.toNat (lk g J a1 b1 c1 d1),.b (g != c) false,.u c,.p (0≤a),.p (a<(A.length:Int)),.e A a.toNat (lk j C k l m n),.r 134 [cS 5 C,cI (c+1)] [cI b],.b (decide (b<0)) false,.p (0≤a),.p (a<(A.length:Int)),.e A a.toNat (lk o E d p a0 b0),.b (d != b) false,.u b,.p (0≤a),.p (a<(A.length:Int)),.e A a.toNat (lk c0 F d0 e e0 f0),.b (e != b+1) false,.v (b+1+1),.p (0≤a),.p (a<(A.length:Int)),.e A a.toNat (lk i0 G j0 k0 f l0),.b (f != b+1+1) false,.v (b+1+1+1),.p (0≤a),.p (a<(A.length:Int)),.e A a.toNat (lk m0 H n0 o0 p0 i),.b (i != b+1+1+1) false,.v (b+1+1+1+1),.u a]):
 Tp (qaa f77 0) (qfm A a c) .normal (qfm A (a+1) (b+1+1+1+1)):=
 h.lp [5,0,1] []
def qqk(a:Int):St:=
 { env:=envOf 67 [(1,vI a)],boxes:=[] }
theorem qL8(h:Oo [.b (decide (a<(A.length:Int))) false]):
 Tp (qaa f77 0) (qfm A a b) (.exit 0) (qqk b):=
 h.lp [1] []
theorem qL9(h:Oo [.l [] [5,0,1] [] (qaa f77 0) (qfm A 0 a) (.exit 0) (qqk b)]):
 Rt 77 [cS 6 A,cI a] [cI b]:=
 h.of
def qfn(A:LL)(a b:Int):St:=
 { env:=envOf 85 [(0,vF 8 A),(1,vI b),(5,vI a)],boxes:=[] }
theorem qMa(h:Oo [.b (decide (a<(A.length:Int))) true,.p (0≤a),.p (a<(A.length:Int)),.e A a.toNat (wk G Y0 K1 V1 A2 C2 M N),.r 134 [cS 5 G,cI k] [cI b],.b (decide (b<0)) false,.p (0≤a),.p (a<(A.length:Int)),.e A a.toNat (wk P C Q R S U V W),.r 134 [cS 5 C,cI b] [cI c],.b (decide (c<0)) false,.p (0≤a),.p (a<(A.length:Int)),.e A a.toNat (wk X Y E Z A0 C0 E0 F0),.r 134 [cS 5 E,cI c] [cI d],.b (decide (d<0)) false,.p (0≤a),.p (a<(A.length:Int)),.e A a.toNat (wk G0 H0 J0 F K0 L0 M0 N0),.r 50 [cS 4 F,cI d] [cI e],.b (decide (e<0)) false,.p (0≤a),.p (a<(A.length:Int)),.e A a.toNat (wk P0 Q0 R0 S0 H U0 V0 W0),.r 135 [cS 1 H,cI e] [cI f],.b (decide (f<0)) false,.p (0≤a),.p (a<(A.length:Int)),.e A a.toNat (wk X0 Z0 A1 C1 E1 J F1 G1),.r 33 [cS 1 J,cI f] [cI g],.b (decide (g<0)) false,.p (0≤a),.p (a<(A.length:Int)),.e A a.toNat (wk H1 J1 L1 M1 N1 P1 K Q1),.r 33 [cS 1 K,cI g] [cI i],.b (decide (i<0)) false,.p (0≤a),.p (a<(A.length:Int)),.e A a.toNat (wk R1 S1 U1 W1 X1 Y1 Z1 L),.r 136 [cS 2 L,cI i] [cI j],.b (decide (j<0)) false,.u a]):
 Tp (qaa f76 0) (qfn A a k) .normal (qfn A (a+1) j):=
 h.lp [5,0,1] []
def qql(a:Int):St:=
 { env:=envOf 85 [(1,vI a)],boxes:=[] }
theorem qMb(h:Oo [.b (decide (a<(A.length:Int))) false]):
 Tp (qaa f76 0) (qfn A a b) (.exit 0) (qql b):=
 h.lp [1] []
theorem qMc(h:Oo [.l [] [5,0,1] [] (qaa f76 0) (qfn A 0 a) (.exit 0) (qql b)]):
 Rt 76 [cS 8 A,cI a] [cI b]:=
 h.of
theorem qMd(h:Oo [.r 133 [cS 4 A,cI b] [cI a],.b (decide (a<0)) false]):
 Rt 75 [.agg (gr A c d),cI b] [cI a]:=
 h.of
theorem qMe(h:Oo [.r 75 [.agg (gr A f g),cI i] [cI d],.b (decide (d<0)) false,.r 76 [cS 8 C,cI d] [cI e],.b (decide (e<0)) false,.r 77 [cS 6 E,cI e] [cI a],.b (decide (a<0)) false,.r 78 [cS 5 F,cI a] [cI b],.b (decide (b<0)) false,.r 79 [cS 3 G,cI b] [cI c],.b (decide (c<0)) false]):
 Rt 17 [.agg (cl A f g C E F G),cI i] [cI c]:=
 h.of
end Go.Proofs.YtdanpadojemjeaaGreat
