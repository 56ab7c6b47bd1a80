import Derived.Test.YtenekpkjlgddnaaDoorRows
import Derived.Test.YtenekpkjlgddnaaDoorGE
namespace Go.Proofs.YtenekpkjlgddnaaDoor
open Go.Sx Go.RowKit Go.Proofs.Tryd
variable {a b c : Int} {A C E F G H J K L : LL} {q r : Bool}
def qbC(A:LL)(a:Int)(C:LL):St:=
 { env:=envOf 28 [(3,PV.al (AL.one (lO 24 1 C))),(8,vF 2 A),(9,vI (A.length:Int)),(10,vI a)],boxes:=[] }
theorem qk2(A:LL)(a:Int)(C:LL)(b:Int)(q:Bool)(s12 s13:ByteArray)(h:Oo [.b (decide (a<(A.length:Int))) true,.p (0≤a),.p (a<(A.length:Int)),.e A a.toNat [I b,B q],.r 16 [cI b] [.one (Str s12)],.b q true,.a (.pv (.al (.one (.v (Value.string s13))))),.p (qau prog BinOp.add 9 (Operand.tmp 19) (Operand.const (Value.string { data:=#[33] })) (Value.string s12) (Value.string { data:=#[33] }) (Value.string s13)),.g C [[Str s13]] 16,.h [[Str s13]],.u a]):
 Tp (qac f11 0) (qbC A a C) .normal (qbC A (a+1) (C++[[Str s13]])):=
 h.lp [10,9,8,3] []
theorem qk3(A:LL)(a:Int)(C:LL)(b:Int)(q:Bool)(s12:ByteArray)(h:Oo [.b (decide (a<(A.length:Int))) true,.p (0≤a),.p (a<(A.length:Int)),.e A a.toNat [I b,B q],.r 16 [cI b] [.one (Str s12)],.b q false,.g C [[Str s12]] 16,.h [[Str s12]],.u a]):
 Tp (qac f11 0) (qbC A a C) .normal (qbC A (a+1) (C++[[Str s12]])):=
 h.lp [10,9,8,3] []
def qdJ(A:LL):St:=
 { env:=envOf 28 [(3,PV.al (AL.one (lO 24 1 A)))],boxes:=[] }
theorem qk4(h:Oo [.b (decide (a<(A.length:Int))) false]):
 Tp (qac f11 0) (qbC A a C) (.exit 0) (qdJ C):=
 h.lp [3] []
theorem qk5(E F G H J K L A C:LL)(s9:ByteArray)(h:Oo [.l [(3,24,1)] [10,9,8,3] [] (qac f11 0) (qbC A 0 []) (.exit 0) (qdJ C),.r 27 [cS 1 C,.one (Str { data:=#[32] })] [.one (Str s9)]]):
 Rt 11 [.agg (wk E F G H J K L A)] [.one (Str s9)]:=
 h.of
def qaX(A C E F G H J K:LL)(a:Int)(s9:ByteArray):St:=
 { env:=envOf 34 [(1,vP 1),(3,.al (.one (.v (Value.string s9)))),(4,vI a)],boxes:=[(1,[.sl .free 5 A,.sl .free 5 C,.sl .free 5 E,.sl .free 4 F,.sl .free 1 G,.sl .free 1 H,.sl .free 1 J,.sl .free 2 K])] }
theorem qk6(C E F G H J K A:LL)(a:Int)(s9 s10:ByteArray)(b:Int)(r:Bool)(s13 s14:ByteArray)(c:Int)(q:Bool)(s17:ByteArray)(h:Oo [.b (decide (a<(A.length:Int))) true,.b (decide (a>0)) true,.a (.pv (.al (.one (.v (Value.string s10))))),.p (qau prog BinOp.add 9 (Operand.tmp 14) (Operand.const (Value.string { data:=#[32] })) (Value.string s9) (Value.string { data:=#[32] }) (Value.string s10)),.p (0≤a),.p (a<(A.length:Int)),.e A a.toNat [I b,B r],.r 14 [cI b] [.one (Str s13)],.a (.pv (.al (.one (.v (Value.string s14))))),.p (qau prog BinOp.add 9 (Operand.tmp 16) (Operand.tmp 23) (Value.string s10) (Value.string s13) (Value.string s14)),.p (0≤a),.p (a<(A.length:Int)),.e A a.toNat [I c,B q],.b q true,.a (.pv (.al (.one (.v (Value.string s17))))),.p (qau prog BinOp.add 9 (Operand.tmp 31) (Operand.const (Value.string { data:=#[33] })) (Value.string s14) (Value.string { data:=#[33] }) (Value.string s17)),.u a]):
 Tp (qac f9 0) (qaX C E F G H J K A a s9) .normal (qaX C E F G H J K A (a+1) s17):=
 h.lp [4,1,3] [1]
theorem qk7(C E F G H J K A:LL)(a:Int)(s9 s10:ByteArray)(b:Int)(r:Bool)(s13 s14:ByteArray)(c:Int)(q:Bool)(h:Oo [.b (decide (a<(A.length:Int))) true,.b (decide (a>0)) true,.a (.pv (.al (.one (.v (Value.string s10))))),.p (qau prog BinOp.add 9 (Operand.tmp 14) (Operand.const (Value.string { data:=#[32] })) (Value.string s9) (Value.string { data:=#[32] }) (Value.string s10)),.p (0≤a),.p (a<(A.length:Int)),.e A a.toNat [I b,B r],.r 14 [cI b] [.one (Str s13)],.a (.pv (.al (.one (.v (Value.string s14))))),.p (qau prog BinOp.add 9 (Operand.tmp 16) (Operand.tmp 23) (Value.string s10) (Value.string s13) (Value.string s14)),.p (0≤a),.p (a<(A.length:Int)),.e A a.toNat [I c,B q],.b q false,.u a]):
 Tp (qac f9 0) (qaX C E F G H J K A a s9) .normal (qaX C E F G H J K A (a+1) s14):=
 h.lp [4,1,3] [1]
theorem qk8(C E F G H J K A:LL)(a:Int)(s9:ByteArray)(b:Int)(r:Bool)(s12 s13:ByteArray)(c:Int)(q:Bool)(s16:ByteArray)(h:Oo [.b (decide (a<(A.length:Int))) true,.b (decide (a>0)) false,.p (0≤a),.p (a<(A.length:Int)),.e A a.toNat [I b,B r],.r 14 [cI b] [.one (Str s12)],.a (.pv (.al (.one (.v (Value.string s13))))),.p (qau prog BinOp.add 9 (Operand.tmp 16) (Operand.tmp 23) (Value.string s9) (Value.string s12) (Value.string s13)),.p (0≤a),.p (a<(A.length:Int)),.e A a.toNat [I c,B q],.b q true,.a (.pv (.al (.one (.v (Value.string s16))))),.p (qau prog BinOp.add 9 (Operand.tmp 31) (Operand.const (Value.string { data:=#[33] })) (Value.string s13) (Value.string { data:=#[33] }) (Value.string s16)),.u a]):
 Tp (qac f9 0) (qaX C E F G H J K A a s9) .normal (qaX C E F G H J K A (a+1) s16):=
 h.lp [4,1,3] [1]
theorem qk9(C E F G H J K A:LL)(a:Int)(s9:ByteArray)(b:Int)(r:Bool)(s12 s13:ByteArray)(c:Int)(q:Bool)(h:Oo [.b (decide (a<(A.length:Int))) true,.b (decide (a>0)) false,.p (0≤a),.p (a<(A.length:Int)),.e A a.toNat [I b,B r],.r 14 [cI b] [.one (Str s12)],.a (.pv (.al (.one (.v (Value.string s13))))),.p (qau prog BinOp.add 9 (Operand.tmp 16) (Operand.tmp 23) (Value.string s9) (Value.string s12) (Value.string s13)),.p (0≤a),.p (a<(A.length:Int)),.e A a.toNat [I c,B q],.b q false,.u a]):
 Tp (qac f9 0) (qaX C E F G H J K A a s9) .normal (qaX C E F G H J K A (a+1) s13):=
 h.lp [4,1,3] [1]
def qdK(s0:ByteArray):St:=
 { env:=envOf 34 [(3,.al (.one (.v (Value.string s0))))],boxes:=[] }
theorem qla(C E F G H J K A:LL)(a:Int)(s9:ByteArray)(h:Oo [.b (decide (a<(A.length:Int))) false]):
 Tp (qac f9 0) (qaX C E F G H J K A a s9) (.exit 0) (qdK s9):=
 h.lp [3] []
theorem qlb(A C E F G H J K:LL)(s8:ByteArray)(h:Oo [.l [] [4,1,3] [1] (qac f9 0) (qaX A C E F G H J K 0 { data:=#[] }) (.exit 0) (qdK s8)]):
 Rt 9 [.agg (wk A C E F G H J K)] [.one (Str s8)]:=
 h.of
theorem qlc(h:Oo [.b (a==0) true]):
 Rt 14 [cI a] [.one (Str { data:=#[48] })]:=
 h.of
def qbD(a b:Int)(s2:ByteArray):St:=
 { env:=envOf 30 [(0,vI b),(3,.al (.one (.sb (decide (a<0))))),(4,.al (.one (.v (Value.string s2))))],boxes:=[] }
theorem qld(b a:Int)(s2:ByteArray)(c:Int)(s4 s5:ByteArray)(h:Oo [.b (a != 0) true,.p ((10:Int)≠0),.b (decide (a.tmod 10<0)) true,.v (0-a.tmod 10),.r 33 [cI (0-a.tmod 10)] [.one (.v (Value.int IntKind.u8 c))],.a (.pv (.al (.one (.v (Value.string s4))))),.a (.pv (.al (.one (.v (Value.string s5))))),.p (Option.map strOfNums (qbi [[D.v (Value.int IntKind.u8 c)]])=some s4),.p (qau prog BinOp.add 9 (Operand.tmp 21) (Operand.tmp 22) (Value.string s4) (Value.string s2) (Value.string s5)),.p ((10:Int)≠0),.v (a.tdiv 10)]):
 Tp (qac f14 0) (qbD b a s2) .normal (qbD b (a.tdiv 10) s5):=
 h.lp [0,4,3] []
theorem qle(b a:Int)(s2:ByteArray)(c:Int)(s4 s5:ByteArray)(h:Oo [.b (a != 0) true,.p ((10:Int)≠0),.b (decide (a.tmod 10<0)) false,.r 33 [cI (a.tmod 10)] [.one (.v (Value.int IntKind.u8 c))],.a (.pv (.al (.one (.v (Value.string s4))))),.a (.pv (.al (.one (.v (Value.string s5))))),.p (Option.map strOfNums (qbi [[D.v (Value.int IntKind.u8 c)]])=some s4),.p (qau prog BinOp.add 9 (Operand.tmp 21) (Operand.tmp 22) (Value.string s4) (Value.string s2) (Value.string s5)),.p ((10:Int)≠0),.v (a.tdiv 10)]):
 Tp (qac f14 0) (qbD b a s2) .normal (qbD b (a.tdiv 10) s5):=
 h.lp [0,4,3] []
def qdL(a:Int)(s1:ByteArray):St:=
 { env:=envOf 30 [(3,.al (.one (.sb (decide (a<0))))),(4,.al (.one (.v (Value.string s1))))],boxes:=[] }
theorem qhw(a b:Int)(s2:ByteArray)(h:Oo [.b (b != 0) false]):
 Tp (qac f14 0) (qbD a b s2) (.exit 0) (qdL a s2):=
 h.lp [3,4] []
theorem qlf(a:Int)(s1 s2:ByteArray)(h:Oo [.b (a==0) false,.l [] [0,4,3] [] (qac f14 0) (qbD a a { data:=#[] }) (.exit 0) (qdL a s1),.b (decide (a<0)) true,.a (.pv (.al (.one (.v (Value.string s2))))),.p (qau prog BinOp.add 9 (Operand.const (Value.string { data:=#[45] })) (Operand.tmp 27) (Value.string { data:=#[45] }) (Value.string s1) (Value.string s2))]):
 Rt 14 [cI a] [.one (Str s2)]:=
 h.of
theorem qlg(a:Int)(s1:ByteArray)(h:Oo [.b (a==0) false,.l [] [0,4,3] [] (qac f14 0) (qbD a a { data:=#[] }) (.exit 0) (qdL a s1),.b (decide (a<0)) false]):
 Rt 14 [cI a] [.one (Str s1)]:=
 h.of
theorem qlh(a:Int)(s1:ByteArray)(h:Oo [.r 34 [cI a] [.one (Str s1)]]):
 Rt 16 [cI a] [.one (Str s1)]:=
 h.of
theorem qli(h:Oo [.b (decide (a<10)) true,.v (48+a),.p (inInt IntKind.u8 (48+a))]):
 Rt 33 [cI a] [.one (.v (Value.int IntKind.u8 (48+a)))]:=
 h.of
end Go.Proofs.YtenekpkjlgddnaaDoor
