import Derived.Test.YtbbjajmimckabaaGreatRows
import Derived.Test.YtbbjajmimckabaaGreatR23
set_option linter.unusedVariables false
set_option linter.unusedSimpArgs false
namespace Go.Proofs.YtbbjajmimckabaaGreat
open Go.Sx Go.RowKit

/- loop.example/g00973/spec.l02Order -/

theorem spec_l02Order_p0 (n0 : Int) (n1 : Int)
    (h : Obs [decide (n0 < n1) = true]) :
    Ret Tryz.prog 100 [AD.one (I n0), AD.one (I n1)] [AD.one (I (-1))] :=
  .of [Ans.br true] _ Tryz.func100 rfl (by kernel_rfl) h

theorem spec_l02Order_p1 (n0 : Int) (n1 : Int)
    (h : Obs [decide (n0 < n1) = false, decide (n0 > n1) = true]) :
    Ret Tryz.prog 100 [AD.one (I n0), AD.one (I n1)] [AD.one (I 1)] :=
  .of [Ans.br false, Ans.br true] _ Tryz.func100 rfl (by kernel_rfl) h

theorem spec_l02Order_p2 (n0 : Int) (n1 : Int)
    (h : Obs [decide (n0 < n1) = false, decide (n0 > n1) = false]) :
    Ret Tryz.prog 100 [AD.one (I n0), AD.one (I n1)] [AD.one (I 0)] :=
  .of [Ans.br false, Ans.br false] _ Tryz.func100 rfl (by kernel_rfl) h

/- cmp.isNaN[int] -/

theorem cmp_isNaN_int_p0 (n0 : Int)
    (h : Obs []) :
    Ret Tryz.prog 156 [AD.one (I n0)] [AD.one (B (n0 != n0))] :=
  .of [] _ Tryz.func156 rfl (by kernel_rfl) h

/- cmp.Compare[int] -/

theorem cmp_Compare_int_p0 (n0 : Int) (n1 : Int) (b2 : Bool) (b3 : Bool)
    (h : Obs [Ret Tryz.prog 156 [AD.one (I n0)] [AD.one (B b2)], Ret Tryz.prog 156 [AD.one (I n1)] [AD.one (B b3)], b2 = true, b3 = true]) :
    Ret Tryz.prog 151 [AD.one (I n0), AD.one (I n1)] [AD.one (I 0)] :=
  .of [Ans.res [AD.one (B b2)], Ans.res [AD.one (B b3)], Ans.br true, Ans.br true] _ Tryz.func151 rfl (by kernel_rfl) h

theorem cmp_Compare_int_p1 (n0 : Int) (n1 : Int) (b2 : Bool) (b3 : Bool)
    (h : Obs [Ret Tryz.prog 156 [AD.one (I n0)] [AD.one (B b2)], Ret Tryz.prog 156 [AD.one (I n1)] [AD.one (B b3)], b2 = true, b3 = false]) :
    Ret Tryz.prog 151 [AD.one (I n0), AD.one (I n1)] [AD.one (I (-1))] :=
  .of [Ans.res [AD.one (B b2)], Ans.res [AD.one (B b3)], Ans.br true, Ans.br false] _ Tryz.func151 rfl (by kernel_rfl) h

theorem cmp_Compare_int_p2 (n0 : Int) (n1 : Int) (b2 : Bool) (b3 : Bool)
    (h : Obs [Ret Tryz.prog 156 [AD.one (I n0)] [AD.one (B b2)], Ret Tryz.prog 156 [AD.one (I n1)] [AD.one (B b3)], b2 = false, b3 = true]) :
    Ret Tryz.prog 151 [AD.one (I n0), AD.one (I n1)] [AD.one (I 1)] :=
  .of [Ans.res [AD.one (B b2)], Ans.res [AD.one (B b3)], Ans.br false, Ans.br true] _ Tryz.func151 rfl (by kernel_rfl) h

theorem cmp_Compare_int_p3 (n0 : Int) (n1 : Int) (b2 : Bool) (b3 : Bool)
    (h : Obs [Ret Tryz.prog 156 [AD.one (I n0)] [AD.one (B b2)], Ret Tryz.prog 156 [AD.one (I n1)] [AD.one (B b3)], b2 = false, b3 = false, decide (n0 < n1) = true]) :
    Ret Tryz.prog 151 [AD.one (I n0), AD.one (I n1)] [AD.one (I (-1))] :=
  .of [Ans.res [AD.one (B b2)], Ans.res [AD.one (B b3)], Ans.br false, Ans.br false, Ans.br true] _ Tryz.func151 rfl (by kernel_rfl) h

theorem cmp_Compare_int_p4 (n0 : Int) (n1 : Int) (b2 : Bool) (b3 : Bool)
    (h : Obs [Ret Tryz.prog 156 [AD.one (I n0)] [AD.one (B b2)], Ret Tryz.prog 156 [AD.one (I n1)] [AD.one (B b3)], b2 = false, b3 = false, decide (n0 < n1) = false, decide (n0 > n1) = true]) :
    Ret Tryz.prog 151 [AD.one (I n0), AD.one (I n1)] [AD.one (I 1)] :=
  .of [Ans.res [AD.one (B b2)], Ans.res [AD.one (B b3)], Ans.br false, Ans.br false, Ans.br false, Ans.br true] _ Tryz.func151 rfl (by kernel_rfl) h

theorem cmp_Compare_int_p5 (n0 : Int) (n1 : Int) (b2 : Bool) (b3 : Bool)
    (h : Obs [Ret Tryz.prog 156 [AD.one (I n0)] [AD.one (B b2)], Ret Tryz.prog 156 [AD.one (I n1)] [AD.one (B b3)], b2 = false, b3 = false, decide (n0 < n1) = false, decide (n0 > n1) = false]) :
    Ret Tryz.prog 151 [AD.one (I n0), AD.one (I n1)] [AD.one (I 0)] :=
  .of [Ans.res [AD.one (B b2)], Ans.res [AD.one (B b3)], Ans.br false, Ans.br false, Ans.br false, Ans.br false] _ Tryz.func151 rfl (by kernel_rfl) h

/- slices.Compare[[]int,int] -/

def slices_Compare_int_L0 (l0 : List (List D)) (l1 : List (List D)) (n2 : Int) : St :=
  { env := envOf 36 [(0, PV.al (AL.one (Leaf.sl Tag.free 1 l0))), (1, PV.al (AL.one (Leaf.sl Tag.free 1 l1))), (9, PV.al (AL.one (Leaf.sl Tag.free 1 l0))), (10, PV.al (AL.one (Leaf.v (Value.int IntKind.i64 (↑l0.length : Int))))), (11, PV.al (AL.one (Leaf.v (Value.int IntKind.i64 n2))))], boxes := [] }

def slices_Compare_int_X0 (n0 : Int) : St :=
  { env := envOf 36 [(4, PV.al (AL.one (Leaf.v (Value.int IntKind.i64 n0))))], boxes := [] }

theorem slices_Compare_int_L0_x0 (l0 : List (List D)) (l1 : List (List D)) (n2 : Int) (n3 : Int)
    (h : Obs [decide (n2 < (↑l0.length : Int)) = true, 0 ≤ n2, n2 < (↑l0.length : Int), l0[n2.toNat]? = some [I n3], decide (n2 ≥ (↑l1.length : Int)) = true]) :
    Tr Tryz.prog (loopOf Tryz.f133 0) (slices_Compare_int_L0 l0 l1 n2) Ex.ret (slices_Compare_int_X0 1) :=
  .of_loopc (ks := [4]) (bs := []) (ans := [Ans.br true, Ans.el [I n3], Ans.br true]) (by kernel_rfl) h

theorem slices_Compare_int_L0_x1 (l0 : List (List D)) (l1 : List (List D)) (n2 : Int) (n3 : Int) (n4 : Int) (n5 : Int)
    (h : Obs [decide (n2 < (↑l0.length : Int)) = true, 0 ≤ n2, n2 < (↑l0.length : Int), l0[n2.toNat]? = some [I n3], decide (n2 ≥ (↑l1.length : Int)) = false, 0 ≤ n2, n2 < (↑l1.length : Int), l1[n2.toNat]? = some [I n4], Ret Tryz.prog 151 [AD.one (I n3), AD.one (I n4)] [AD.one (I n5)], (n5 != 0) = true]) :
    Tr Tryz.prog (loopOf Tryz.f133 0) (slices_Compare_int_L0 l0 l1 n2) Ex.ret (slices_Compare_int_X0 n5) :=
  .of_loopc (ks := [4]) (bs := []) (ans := [Ans.br true, Ans.el [I n3], Ans.br false, Ans.el [I n4], Ans.res [AD.one (I n5)], Ans.br true]) (by kernel_rfl) h

theorem slices_Compare_int_L0_s2 (l0 : List (List D)) (l1 : List (List D)) (n2 : Int) (n3 : Int) (n4 : Int) (n5 : Int)
    (h : Obs [decide (n2 < (↑l0.length : Int)) = true, 0 ≤ n2, n2 < (↑l0.length : Int), l0[n2.toNat]? = some [I n3], decide (n2 ≥ (↑l1.length : Int)) = false, 0 ≤ n2, n2 < (↑l1.length : Int), l1[n2.toNat]? = some [I n4], Ret Tryz.prog 151 [AD.one (I n3), AD.one (I n4)] [AD.one (I n5)], (n5 != 0) = false, inInt IntKind.i64 (n2 + 1)]) :
    Tr Tryz.prog (loopOf Tryz.f133 0) (slices_Compare_int_L0 l0 l1 n2) Ex.normal (slices_Compare_int_L0 l0 l1 (n2 + 1)) :=
  .of_loopc (ks := [11, 10, 9, 1, 0]) (bs := []) (ans := [Ans.br true, Ans.el [I n3], Ans.br false, Ans.el [I n4], Ans.res [AD.one (I n5)], Ans.br false]) (by kernel_rfl) h

def slices_Compare_int_X0v2 (l0 : List (List D)) (l1 : List (List D)) : St :=
  { env := envOf 36 [(0, PV.al (AL.one (Leaf.sl Tag.free 1 l0))), (1, PV.al (AL.one (Leaf.sl Tag.free 1 l1)))], boxes := [] }

theorem slices_Compare_int_L0_x3 (l0 : List (List D)) (l1 : List (List D)) (n2 : Int)
    (h : Obs [decide (n2 < (↑l0.length : Int)) = false]) :
    Tr Tryz.prog (loopOf Tryz.f133 0) (slices_Compare_int_L0 l0 l1 n2) (Ex.exit 0) (slices_Compare_int_X0v2 l0 l1) :=
  .of_loopc (ks := [0, 1]) (bs := []) (ans := [Ans.br false]) (by kernel_rfl) h

theorem slices_Compare_int_p0 (l0 : List (List D)) (l1 : List (List D)) (n2 : Int)
    (h : Obs [LoopOk Tryz.prog (loopOf Tryz.f133 0) (slices_Compare_int_L0 l0 l1 0) Ex.ret (slices_Compare_int_X0 n2)]) :
    Ret Tryz.prog 133 [AD.one (D.sl 1 l0), AD.one (D.sl 1 l1)] [AD.one (I n2)] :=
  .of [Ans.loop [] [11, 10, 9, 1, 0] [] Ex.ret (slices_Compare_int_X0 n2)] _ Tryz.func133 rfl (by kernel_rfl) h

theorem slices_Compare_int_p1 (l0 : List (List D)) (l1 : List (List D))
    (h : Obs [LoopOk Tryz.prog (loopOf Tryz.f133 0) (slices_Compare_int_L0 l0 l1 0) (Ex.exit 0) (slices_Compare_int_X0v2 l0 l1), decide ((↑l0.length : Int) < (↑l1.length : Int)) = true]) :
    Ret Tryz.prog 133 [AD.one (D.sl 1 l0), AD.one (D.sl 1 l1)] [AD.one (I (-1))] :=
  .of [Ans.loop [] [11, 10, 9, 1, 0] [] (Ex.exit 0) (slices_Compare_int_X0v2 l0 l1), Ans.br true] _ Tryz.func133 rfl (by kernel_rfl) h

theorem slices_Compare_int_p2 (l0 : List (List D)) (l1 : List (List D))
    (h : Obs [LoopOk Tryz.prog (loopOf Tryz.f133 0) (slices_Compare_int_L0 l0 l1 0) (Ex.exit 0) (slices_Compare_int_X0v2 l0 l1), decide ((↑l0.length : Int) < (↑l1.length : Int)) = false]) :
    Ret Tryz.prog 133 [AD.one (D.sl 1 l0), AD.one (D.sl 1 l1)] [AD.one (I 0)] :=
  .of [Ans.loop [] [11, 10, 9, 1, 0] [] (Ex.exit 0) (slices_Compare_int_X0v2 l0 l1), Ans.br false] _ Tryz.func133 rfl (by kernel_rfl) h

/- loop.example/g00973/impl.orderOf -/

theorem impl_orderOf_p0 (l0 : List (List D)) (l1 : List (List D)) (n2 : Int)
    (h : Obs [Ret Tryz.prog 133 [AD.one (D.sl 1 l0), AD.one (D.sl 1 l1)] [AD.one (I n2)]]) :
    Ret Tryz.prog 109 [AD.one (D.sl 1 l0), AD.one (D.sl 1 l1)] [AD.one (I n2)] :=
  .of [Ans.res [AD.one (I n2)]] _ Tryz.func109 rfl (by kernel_rfl) h


end Go.Proofs.YtbbjajmimckabaaGreat
