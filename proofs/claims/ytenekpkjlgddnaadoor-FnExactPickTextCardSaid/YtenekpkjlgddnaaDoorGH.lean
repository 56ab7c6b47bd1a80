import Derived.Test.YtenekpkjlgddnaaDoorRows
import Derived.Test.YtenekpkjlgddnaaDoorR22
import Derived.Test.YtenekpkjlgddnaaDoorR33
set_option linter.unusedVariables false
set_option linter.unusedSimpArgs false
namespace Go.Proofs.YtenekpkjlgddnaaDoor
open Go.Sx Go.RowKit

/- loop.example/g00973/impl.PickText -/

theorem impl_PickText_p0 (n0 : Int) (n1 : Int) (n2 : Int) (b3 : Bool)
    (h : Obs [Ret Tryd.prog 15 [AD.one (I n0), AD.one (I 1), AD.one (I 7)] [AD.one (B b3)], (!b3) = true]) :
    Ret Tryd.prog 7 [AD.agg [I n0, I n1, I n2]] [AD.one (Str { data := #[63] })] :=
  .of [Ans.res [AD.one (B b3)], Ans.br true] _ Tryd.func7 rfl (by kernel_rfl) h

theorem impl_PickText_p1 (n0 : Int) (n1 : Int) (n2 : Int) (b3 : Bool) (s4 : ByteArray) (s5 : ByteArray) (s6 : ByteArray) (s7 : ByteArray) (s8 : ByteArray) (s9 : ByteArray) (s10 : ByteArray)
    (h : Obs [Ret Tryd.prog 15 [AD.one (I n0), AD.one (I 1), AD.one (I 7)] [AD.one (B b3)], (!b3) = false, inInt IntKind.i64 (n0 - 1), 0 ≤ n0 - 1, n0 - 1 < (↑[[Str { data := #[119, 111, 114, 107] }], [Str { data := #[105, 110, 112, 117, 116] }], [Str { data := #[109, 111, 118, 101] }], [Str { data := #[116, 97, 107, 101] }], [Str { data := #[99, 114, 101, 100, 105, 116] }], [Str { data := #[116, 111, 107, 101, 110] }], [Str { data := #[104, 101, 97, 114] }]].length : Int), [[Str { data := #[119, 111, 114, 107] }], [Str { data := #[105, 110, 112, 117, 116] }], [Str { data := #[109, 111, 118, 101] }], [Str { data := #[116, 97, 107, 101] }], [Str { data := #[99, 114, 101, 100, 105, 116] }], [Str { data := #[116, 111, 107, 101, 110] }], [Str { data := #[104, 101, 97, 114] }]][(n0 - 1).toNat]? = some [Str s4], BinRun Tryd.prog BinOp.add 9 (Operand.tmp 15) (Operand.const (Value.string { data := #[32] })) (Value.string s4) (Value.string { data := #[32] }) (Value.string s5), Ret Tryd.prog 16 [AD.one (I n1)] [AD.one (Str s6)], BinRun Tryd.prog BinOp.add 9 (Operand.tmp 16) (Operand.tmp 19) (Value.string s5) (Value.string s6) (Value.string s7), (n0 == 4) = true, Ret Tryd.prog 16 [AD.one (I n2)] [AD.one (Str s8)], BinRun Tryd.prog BinOp.add 9 (Operand.const (Value.string { data := #[32] })) (Operand.tmp 32) (Value.string { data := #[32] }) (Value.string s8) (Value.string s9), BinRun Tryd.prog BinOp.add 9 (Operand.tmp 29) (Operand.tmp 33) (Value.string s7) (Value.string s9) (Value.string s10)]) :
    Ret Tryd.prog 7 [AD.agg [I n0, I n1, I n2]] [AD.one (Str s10)] :=
  .of [Ans.res [AD.one (B b3)], Ans.br false, Ans.el [Str s4], Ans.pv (PV.al (AL.one (Leaf.v (Value.string s5)))), Ans.res [AD.one (Str s6)], Ans.pv (PV.al (AL.one (Leaf.v (Value.string s7)))), Ans.br true, Ans.res [AD.one (Str s8)], Ans.pv (PV.al (AL.one (Leaf.v (Value.string s9)))), Ans.pv (PV.al (AL.one (Leaf.v (Value.string s10))))] _ Tryd.func7 rfl (by kernel_rfl) h

theorem impl_PickText_p2 (n0 : Int) (n1 : Int) (n2 : Int) (b3 : Bool) (s4 : ByteArray) (s5 : ByteArray) (s6 : ByteArray) (s7 : ByteArray) (s8 : ByteArray) (s9 : ByteArray) (s10 : ByteArray)
    (h : Obs [Ret Tryd.prog 15 [AD.one (I n0), AD.one (I 1), AD.one (I 7)] [AD.one (B b3)], (!b3) = false, inInt IntKind.i64 (n0 - 1), 0 ≤ n0 - 1, n0 - 1 < (↑[[Str { data := #[119, 111, 114, 107] }], [Str { data := #[105, 110, 112, 117, 116] }], [Str { data := #[109, 111, 118, 101] }], [Str { data := #[116, 97, 107, 101] }], [Str { data := #[99, 114, 101, 100, 105, 116] }], [Str { data := #[116, 111, 107, 101, 110] }], [Str { data := #[104, 101, 97, 114] }]].length : Int), [[Str { data := #[119, 111, 114, 107] }], [Str { data := #[105, 110, 112, 117, 116] }], [Str { data := #[109, 111, 118, 101] }], [Str { data := #[116, 97, 107, 101] }], [Str { data := #[99, 114, 101, 100, 105, 116] }], [Str { data := #[116, 111, 107, 101, 110] }], [Str { data := #[104, 101, 97, 114] }]][(n0 - 1).toNat]? = some [Str s4], BinRun Tryd.prog BinOp.add 9 (Operand.tmp 15) (Operand.const (Value.string { data := #[32] })) (Value.string s4) (Value.string { data := #[32] }) (Value.string s5), Ret Tryd.prog 16 [AD.one (I n1)] [AD.one (Str s6)], BinRun Tryd.prog BinOp.add 9 (Operand.tmp 16) (Operand.tmp 19) (Value.string s5) (Value.string s6) (Value.string s7), (n0 == 4) = false, (n0 == 5) = true, Ret Tryd.prog 16 [AD.one (I n2)] [AD.one (Str s8)], BinRun Tryd.prog BinOp.add 9 (Operand.const (Value.string { data := #[32] })) (Operand.tmp 32) (Value.string { data := #[32] }) (Value.string s8) (Value.string s9), BinRun Tryd.prog BinOp.add 9 (Operand.tmp 29) (Operand.tmp 33) (Value.string s7) (Value.string s9) (Value.string s10)]) :
    Ret Tryd.prog 7 [AD.agg [I n0, I n1, I n2]] [AD.one (Str s10)] :=
  .of [Ans.res [AD.one (B b3)], Ans.br false, Ans.el [Str s4], Ans.pv (PV.al (AL.one (Leaf.v (Value.string s5)))), Ans.res [AD.one (Str s6)], Ans.pv (PV.al (AL.one (Leaf.v (Value.string s7)))), Ans.br false, Ans.br true, Ans.res [AD.one (Str s8)], Ans.pv (PV.al (AL.one (Leaf.v (Value.string s9)))), Ans.pv (PV.al (AL.one (Leaf.v (Value.string s10))))] _ Tryd.func7 rfl (by kernel_rfl) h

theorem impl_PickText_p3 (n0 : Int) (n1 : Int) (n2 : Int) (b3 : Bool) (s4 : ByteArray) (s5 : ByteArray) (s6 : ByteArray) (s7 : ByteArray)
    (h : Obs [Ret Tryd.prog 15 [AD.one (I n0), AD.one (I 1), AD.one (I 7)] [AD.one (B b3)], (!b3) = false, inInt IntKind.i64 (n0 - 1), 0 ≤ n0 - 1, n0 - 1 < (↑[[Str { data := #[119, 111, 114, 107] }], [Str { data := #[105, 110, 112, 117, 116] }], [Str { data := #[109, 111, 118, 101] }], [Str { data := #[116, 97, 107, 101] }], [Str { data := #[99, 114, 101, 100, 105, 116] }], [Str { data := #[116, 111, 107, 101, 110] }], [Str { data := #[104, 101, 97, 114] }]].length : Int), [[Str { data := #[119, 111, 114, 107] }], [Str { data := #[105, 110, 112, 117, 116] }], [Str { data := #[109, 111, 118, 101] }], [Str { data := #[116, 97, 107, 101] }], [Str { data := #[99, 114, 101, 100, 105, 116] }], [Str { data := #[116, 111, 107, 101, 110] }], [Str { data := #[104, 101, 97, 114] }]][(n0 - 1).toNat]? = some [Str s4], BinRun Tryd.prog BinOp.add 9 (Operand.tmp 15) (Operand.const (Value.string { data := #[32] })) (Value.string s4) (Value.string { data := #[32] }) (Value.string s5), Ret Tryd.prog 16 [AD.one (I n1)] [AD.one (Str s6)], BinRun Tryd.prog BinOp.add 9 (Operand.tmp 16) (Operand.tmp 19) (Value.string s5) (Value.string s6) (Value.string s7), (n0 == 4) = false, (n0 == 5) = false]) :
    Ret Tryd.prog 7 [AD.agg [I n0, I n1, I n2]] [AD.one (Str s7)] :=
  .of [Ans.res [AD.one (B b3)], Ans.br false, Ans.el [Str s4], Ans.pv (PV.al (AL.one (Leaf.v (Value.string s5)))), Ans.res [AD.one (Str s6)], Ans.pv (PV.al (AL.one (Leaf.v (Value.string s7)))), Ans.br false, Ans.br false] _ Tryd.func7 rfl (by kernel_rfl) h

/- loop.example/g00973/spec.PickText -/

theorem spec_PickText_p0 (n0 : Int) (n1 : Int) (n2 : Int) (b3 : Bool)
    (h : Obs [Ret Tryd.prog 13 [AD.one (I n0), AD.one (I 1), AD.one (I 7)] [AD.one (B b3)], (!b3) = true]) :
    Ret Tryd.prog 5 [AD.agg [I n0, I n1, I n2]] [AD.one (Str { data := #[63] })] :=
  .of [Ans.res [AD.one (B b3)], Ans.br true] _ Tryd.func5 rfl (by kernel_rfl) h

theorem spec_PickText_p1 (n0 : Int) (n1 : Int) (n2 : Int) (b3 : Bool) (s4 : ByteArray) (s5 : ByteArray) (s6 : ByteArray) (s7 : ByteArray) (s8 : ByteArray) (s9 : ByteArray) (s10 : ByteArray)
    (h : Obs [Ret Tryd.prog 13 [AD.one (I n0), AD.one (I 1), AD.one (I 7)] [AD.one (B b3)], (!b3) = false, 0 ≤ n0, n0 < (↑[[Str { data := #[] }], [Str { data := #[119, 111, 114, 107] }], [Str { data := #[105, 110, 112, 117, 116] }], [Str { data := #[109, 111, 118, 101] }], [Str { data := #[116, 97, 107, 101] }], [Str { data := #[99, 114, 101, 100, 105, 116] }], [Str { data := #[116, 111, 107, 101, 110] }], [Str { data := #[104, 101, 97, 114] }]].length : Int), [[Str { data := #[] }], [Str { data := #[119, 111, 114, 107] }], [Str { data := #[105, 110, 112, 117, 116] }], [Str { data := #[109, 111, 118, 101] }], [Str { data := #[116, 97, 107, 101] }], [Str { data := #[99, 114, 101, 100, 105, 116] }], [Str { data := #[116, 111, 107, 101, 110] }], [Str { data := #[104, 101, 97, 114] }]][n0.toNat]? = some [Str s4], BinRun Tryd.prog BinOp.add 9 (Operand.tmp 12) (Operand.const (Value.string { data := #[32] })) (Value.string s4) (Value.string { data := #[32] }) (Value.string s5), Ret Tryd.prog 14 [AD.one (I n1)] [AD.one (Str s6)], BinRun Tryd.prog BinOp.add 9 (Operand.tmp 13) (Operand.tmp 16) (Value.string s5) (Value.string s6) (Value.string s7), (n0 == 4) = true, BinRun Tryd.prog BinOp.add 9 (Operand.tmp 26) (Operand.const (Value.string { data := #[32] })) (Value.string s7) (Value.string { data := #[32] }) (Value.string s8), Ret Tryd.prog 14 [AD.one (I n2)] [AD.one (Str s9)], BinRun Tryd.prog BinOp.add 9 (Operand.tmp 27) (Operand.tmp 30) (Value.string s8) (Value.string s9) (Value.string s10)]) :
    Ret Tryd.prog 5 [AD.agg [I n0, I n1, I n2]] [AD.one (Str s10)] :=
  .of [Ans.res [AD.one (B b3)], Ans.br false, Ans.el [Str s4], Ans.pv (PV.al (AL.one (Leaf.v (Value.string s5)))), Ans.res [AD.one (Str s6)], Ans.pv (PV.al (AL.one (Leaf.v (Value.string s7)))), Ans.br true, Ans.pv (PV.al (AL.one (Leaf.v (Value.string s8)))), Ans.res [AD.one (Str s9)], Ans.pv (PV.al (AL.one (Leaf.v (Value.string s10))))] _ Tryd.func5 rfl (by kernel_rfl) h

theorem spec_PickText_p2 (n0 : Int) (n1 : Int) (n2 : Int) (b3 : Bool) (s4 : ByteArray) (s5 : ByteArray) (s6 : ByteArray) (s7 : ByteArray) (s8 : ByteArray) (s9 : ByteArray) (s10 : ByteArray)
    (h : Obs [Ret Tryd.prog 13 [AD.one (I n0), AD.one (I 1), AD.one (I 7)] [AD.one (B b3)], (!b3) = false, 0 ≤ n0, n0 < (↑[[Str { data := #[] }], [Str { data := #[119, 111, 114, 107] }], [Str { data := #[105, 110, 112, 117, 116] }], [Str { data := #[109, 111, 118, 101] }], [Str { data := #[116, 97, 107, 101] }], [Str { data := #[99, 114, 101, 100, 105, 116] }], [Str { data := #[116, 111, 107, 101, 110] }], [Str { data := #[104, 101, 97, 114] }]].length : Int), [[Str { data := #[] }], [Str { data := #[119, 111, 114, 107] }], [Str { data := #[105, 110, 112, 117, 116] }], [Str { data := #[109, 111, 118, 101] }], [Str { data := #[116, 97, 107, 101] }], [Str { data := #[99, 114, 101, 100, 105, 116] }], [Str { data := #[116, 111, 107, 101, 110] }], [Str { data := #[104, 101, 97, 114] }]][n0.toNat]? = some [Str s4], BinRun Tryd.prog BinOp.add 9 (Operand.tmp 12) (Operand.const (Value.string { data := #[32] })) (Value.string s4) (Value.string { data := #[32] }) (Value.string s5), Ret Tryd.prog 14 [AD.one (I n1)] [AD.one (Str s6)], BinRun Tryd.prog BinOp.add 9 (Operand.tmp 13) (Operand.tmp 16) (Value.string s5) (Value.string s6) (Value.string s7), (n0 == 4) = false, (n0 == 5) = true, BinRun Tryd.prog BinOp.add 9 (Operand.tmp 26) (Operand.const (Value.string { data := #[32] })) (Value.string s7) (Value.string { data := #[32] }) (Value.string s8), Ret Tryd.prog 14 [AD.one (I n2)] [AD.one (Str s9)], BinRun Tryd.prog BinOp.add 9 (Operand.tmp 27) (Operand.tmp 30) (Value.string s8) (Value.string s9) (Value.string s10)]) :
    Ret Tryd.prog 5 [AD.agg [I n0, I n1, I n2]] [AD.one (Str s10)] :=
  .of [Ans.res [AD.one (B b3)], Ans.br false, Ans.el [Str s4], Ans.pv (PV.al (AL.one (Leaf.v (Value.string s5)))), Ans.res [AD.one (Str s6)], Ans.pv (PV.al (AL.one (Leaf.v (Value.string s7)))), Ans.br false, Ans.br true, Ans.pv (PV.al (AL.one (Leaf.v (Value.string s8)))), Ans.res [AD.one (Str s9)], Ans.pv (PV.al (AL.one (Leaf.v (Value.string s10))))] _ Tryd.func5 rfl (by kernel_rfl) h

theorem spec_PickText_p3 (n0 : Int) (n1 : Int) (n2 : Int) (b3 : Bool) (s4 : ByteArray) (s5 : ByteArray) (s6 : ByteArray) (s7 : ByteArray)
    (h : Obs [Ret Tryd.prog 13 [AD.one (I n0), AD.one (I 1), AD.one (I 7)] [AD.one (B b3)], (!b3) = false, 0 ≤ n0, n0 < (↑[[Str { data := #[] }], [Str { data := #[119, 111, 114, 107] }], [Str { data := #[105, 110, 112, 117, 116] }], [Str { data := #[109, 111, 118, 101] }], [Str { data := #[116, 97, 107, 101] }], [Str { data := #[99, 114, 101, 100, 105, 116] }], [Str { data := #[116, 111, 107, 101, 110] }], [Str { data := #[104, 101, 97, 114] }]].length : Int), [[Str { data := #[] }], [Str { data := #[119, 111, 114, 107] }], [Str { data := #[105, 110, 112, 117, 116] }], [Str { data := #[109, 111, 118, 101] }], [Str { data := #[116, 97, 107, 101] }], [Str { data := #[99, 114, 101, 100, 105, 116] }], [Str { data := #[116, 111, 107, 101, 110] }], [Str { data := #[104, 101, 97, 114] }]][n0.toNat]? = some [Str s4], BinRun Tryd.prog BinOp.add 9 (Operand.tmp 12) (Operand.const (Value.string { data := #[32] })) (Value.string s4) (Value.string { data := #[32] }) (Value.string s5), Ret Tryd.prog 14 [AD.one (I n1)] [AD.one (Str s6)], BinRun Tryd.prog BinOp.add 9 (Operand.tmp 13) (Operand.tmp 16) (Value.string s5) (Value.string s6) (Value.string s7), (n0 == 4) = false, (n0 == 5) = false]) :
    Ret Tryd.prog 5 [AD.agg [I n0, I n1, I n2]] [AD.one (Str s7)] :=
  .of [Ans.res [AD.one (B b3)], Ans.br false, Ans.el [Str s4], Ans.pv (PV.al (AL.one (Leaf.v (Value.string s5)))), Ans.res [AD.one (Str s6)], Ans.pv (PV.al (AL.one (Leaf.v (Value.string s7)))), Ans.br false, Ans.br false] _ Tryd.func5 rfl (by kernel_rfl) h

/- loop.example/g00973/impl.DonesText -/

/- loop.example/g00973/spec.DonesText -/

/- loop.example/g00973/spec.Decimal -/

theorem spec_Decimal_p0 (n0 : Int)
    (h : Obs [(n0 == 0) = true]) :
    Ret Tryd.prog 14 [AD.one (I n0)] [AD.one (Str { data := #[48] })] :=
  .of [Ans.br true] _ Tryd.func14 rfl (by kernel_rfl) h

def spec_Decimal_L0 (n0 : Int) (n1 : Int) (s2 : ByteArray) : St :=
  { env := envOf 30 [(0, PV.al (AL.one (Leaf.v (Value.int IntKind.i64 n1)))), (3, PV.al (AL.one (Leaf.sb (decide (n0 < 0))))), (4, PV.al (AL.one (Leaf.v (Value.string s2))))], boxes := [] }

theorem spec_Decimal_L0_s0 (n0 : Int) (n1 : Int) (s2 : ByteArray) (n3 : Int) (s4 : ByteArray) (s5 : ByteArray)
    (h : Obs [(n1 != 0) = true, (10 : Int) ≠ 0, decide (n1.tmod 10 < 0) = true, inInt IntKind.i64 (0 - n1.tmod 10), Ret Tryd.prog 33 [AD.one (I (0 - n1.tmod 10))] [AD.one (D.v (Value.int IntKind.u8 n3))], Option.map strOfNums (numsOf [[D.v (Value.int IntKind.u8 n3)]]) = some s4, BinRun Tryd.prog BinOp.add 9 (Operand.tmp 21) (Operand.tmp 22) (Value.string s4) (Value.string s2) (Value.string s5), (10 : Int) ≠ 0, inInt IntKind.i64 (n1.tdiv 10)]) :
    Tr Tryd.prog (loopOf Tryd.f14 0) (spec_Decimal_L0 n0 n1 s2) Ex.normal (spec_Decimal_L0 n0 (n1.tdiv 10) s5) :=
  .of_loopc (ks := [0, 4, 3]) (bs := []) (ans := [Ans.br true, Ans.br true, Ans.res [AD.one (D.v (Value.int IntKind.u8 n3))], Ans.pv (PV.al (AL.one (Leaf.v (Value.string s4)))), Ans.pv (PV.al (AL.one (Leaf.v (Value.string s5))))]) (by kernel_rfl) h

theorem spec_Decimal_L0_s1 (n0 : Int) (n1 : Int) (s2 : ByteArray) (n3 : Int) (s4 : ByteArray) (s5 : ByteArray)
    (h : Obs [(n1 != 0) = true, (10 : Int) ≠ 0, decide (n1.tmod 10 < 0) = false, Ret Tryd.prog 33 [AD.one (I (n1.tmod 10))] [AD.one (D.v (Value.int IntKind.u8 n3))], Option.map strOfNums (numsOf [[D.v (Value.int IntKind.u8 n3)]]) = some s4, BinRun Tryd.prog BinOp.add 9 (Operand.tmp 21) (Operand.tmp 22) (Value.string s4) (Value.string s2) (Value.string s5), (10 : Int) ≠ 0, inInt IntKind.i64 (n1.tdiv 10)]) :
    Tr Tryd.prog (loopOf Tryd.f14 0) (spec_Decimal_L0 n0 n1 s2) Ex.normal (spec_Decimal_L0 n0 (n1.tdiv 10) s5) :=
  .of_loopc (ks := [0, 4, 3]) (bs := []) (ans := [Ans.br true, Ans.br false, Ans.res [AD.one (D.v (Value.int IntKind.u8 n3))], Ans.pv (PV.al (AL.one (Leaf.v (Value.string s4)))), Ans.pv (PV.al (AL.one (Leaf.v (Value.string s5))))]) (by kernel_rfl) h

def spec_Decimal_X0 (n0 : Int) (s1 : ByteArray) : St :=
  { env := envOf 30 [(3, PV.al (AL.one (Leaf.sb (decide (n0 < 0))))), (4, PV.al (AL.one (Leaf.v (Value.string s1))))], boxes := [] }

theorem spec_Decimal_L0_x2 (n0 : Int) (n1 : Int) (s2 : ByteArray)
    (h : Obs [(n1 != 0) = false]) :
    Tr Tryd.prog (loopOf Tryd.f14 0) (spec_Decimal_L0 n0 n1 s2) (Ex.exit 0) (spec_Decimal_X0 n0 s2) :=
  .of_loopc (ks := [3, 4]) (bs := []) (ans := [Ans.br false]) (by kernel_rfl) h

theorem spec_Decimal_p1 (n0 : Int) (s1 : ByteArray) (s2 : ByteArray)
    (h : Obs [(n0 == 0) = false, LoopOk Tryd.prog (loopOf Tryd.f14 0) (spec_Decimal_L0 n0 n0 { data := #[] }) (Ex.exit 0) (spec_Decimal_X0 n0 s1), decide (n0 < 0) = true, BinRun Tryd.prog BinOp.add 9 (Operand.const (Value.string { data := #[45] })) (Operand.tmp 27) (Value.string { data := #[45] }) (Value.string s1) (Value.string s2)]) :
    Ret Tryd.prog 14 [AD.one (I n0)] [AD.one (Str s2)] :=
  .of [Ans.br false, Ans.loop [] [0, 4, 3] [] (Ex.exit 0) (spec_Decimal_X0 n0 s1), Ans.br true, Ans.pv (PV.al (AL.one (Leaf.v (Value.string s2))))] _ Tryd.func14 rfl (by kernel_rfl) h

theorem spec_Decimal_p2 (n0 : Int) (s1 : ByteArray)
    (h : Obs [(n0 == 0) = false, LoopOk Tryd.prog (loopOf Tryd.f14 0) (spec_Decimal_L0 n0 n0 { data := #[] }) (Ex.exit 0) (spec_Decimal_X0 n0 s1), decide (n0 < 0) = false]) :
    Ret Tryd.prog 14 [AD.one (I n0)] [AD.one (Str s1)] :=
  .of [Ans.br false, Ans.loop [] [0, 4, 3] [] (Ex.exit 0) (spec_Decimal_X0 n0 s1), Ans.br false] _ Tryd.func14 rfl (by kernel_rfl) h

/- loop.example/g00973/impl.Decimal -/

theorem impl_Decimal_p0 (n0 : Int) (s1 : ByteArray)
    (h : Obs [Ret Tryd.prog 34 [AD.one (I n0)] [AD.one (Str s1)]]) :
    Ret Tryd.prog 16 [AD.one (I n0)] [AD.one (Str s1)] :=
  .of [Ans.res [AD.one (Str s1)]] _ Tryd.func16 rfl (by kernel_rfl) h

/- loop.example/g00973/spec.l01Figure -/

theorem spec_l01Figure_p0 (n0 : Int)
    (h : Obs [decide (n0 < 10) = true, inInt IntKind.i64 (48 + n0), inInt IntKind.u8 (48 + n0)]) :
    Ret Tryd.prog 33 [AD.one (I n0)] [AD.one (D.v (Value.int IntKind.u8 (48 + n0)))] :=
  .of [Ans.br true] _ Tryd.func33 rfl (by kernel_rfl) h

end Go.Proofs.YtenekpkjlgddnaaDoor
