import Derived.Test.YtbbjajmimckabaaRows
import Derived.Test.YtbbjajmimckabaaR23
set_option linter.unusedVariables false
set_option linter.unusedSimpArgs false
namespace Go.Proofs.Ytbbjajmimckabaa
open Go.Sx Go.RowKit

/- loop.example/g00973/impl.copyCells -/

theorem impl_copyCells_p0 (l0 : List (List D))
    (h : Obs [(([] : List (List D)).length + l0.length) * 32 ≤ 140737488355328, ([] : List (List D)).length + l0.length ≤ 9223372036854775807, Flat l0]) :
    Ret Try.prog 102 [AD.one (D.sl 4 l0)] [AD.one (D.sl 4 ([] ++ l0))] :=
  .of [] _ Try.func102 rfl (by kernel_rfl) h

/- loop.example/g00973/impl.HasCell -/

theorem impl_HasCell_p0 (l0 : List (List D)) (n1 : Int) (n2 : Int) (n3 : Int) (n4 : Int) (b5 : Bool)
    (h : Obs [Ret Try.prog 131 [AD.one (D.sl 4 l0), AD.agg [I n1, I n2, I n3, I n4]] [AD.one (B b5)]]) :
    Ret Try.prog 103 [AD.one (D.sl 4 l0), AD.agg [I n1, I n2, I n3, I n4]] [AD.one (B b5)] :=
  .of [Ans.res [AD.one (B b5)]] _ Try.func103 rfl (by kernel_rfl) h

/- loop.example/g00973/impl.CellOrder -/

theorem impl_CellOrder_p0 (n0 : Int) (n1 : Int) (n2 : Int) (n3 : Int) (n4 : Int) (n5 : Int) (n6 : Int) (n7 : Int) (n8 : Int)
    (h : Obs [Ret Try.prog 132 [AD.one (D.sl 1 [[I n1], [I n0], [I n2], [I n3]]), AD.one (D.sl 1 [[I n5], [I n4], [I n6], [I n7]])] [AD.one (I n8)]]) :
    Ret Try.prog 104 [AD.agg [I n0, I n1, I n2, I n3], AD.agg [I n4, I n5, I n6, I n7]] [AD.one (I n8)] :=
  .of [Ans.res [AD.one (I n8)]] _ Try.func104 rfl (by kernel_rfl) h

/- loop.example/g00973/impl.orderOf -/

theorem impl_orderOf_p0 (l0 : List (List D)) (l1 : List (List D)) (n2 : Int)
    (h : Obs [Ret Try.prog 151 [AD.one (D.sl 1 l0), AD.one (D.sl 1 l1)] [AD.one (I n2)]]) :
    Ret Try.prog 132 [AD.one (D.sl 1 l0), AD.one (D.sl 1 l1)] [AD.one (I n2)] :=
  .of [Ans.res [AD.one (I n2)]] _ Try.func132 rfl (by kernel_rfl) h

/- slices.Contains[[]loop.example/g00973/impl.Cell,loop.example/g00973/impl.Cell] -/

theorem slices_Contains_Cell_p0 (l0 : List (List D)) (n1 : Int) (n2 : Int) (n3 : Int) (n4 : Int) (n5 : Int)
    (h : Obs [Ret Try.prog 150 [AD.one (D.sl 4 l0), AD.agg [I n1, I n2, I n3, I n4]] [AD.one (I n5)]]) :
    Ret Try.prog 131 [AD.one (D.sl 4 l0), AD.agg [I n1, I n2, I n3, I n4]] [AD.one (B (decide (n5 ≥ 0)))] :=
  .of [Ans.res [AD.one (I n5)]] _ Try.func131 rfl (by kernel_rfl) h

/- slices.Index[[]loop.example/g00973/impl.Cell,loop.example/g00973/impl.Cell] -/

def slices_Index_Cell_L0 (l0 : List (List D)) (n1 : Int) (n2 : Int) (n3 : Int) (n4 : Int) (n5 : Int) : St :=
  { env := envOf 19 [(0, PV.al (AL.one (Leaf.sl Tag.free 4 l0))), (3, PV.al (AL.one (Leaf.ptr 3 0))), (7, PV.al (AL.one (Leaf.v (Value.int IntKind.i64 (↑l0.length : Int))))), (8, PV.al (AL.one (Leaf.v (Value.int IntKind.i64 n5))))], boxes := [(3, [Leaf.v (Value.int IntKind.i64 n1), Leaf.v (Value.int IntKind.i64 n2), Leaf.v (Value.int IntKind.i64 n3), Leaf.v (Value.int IntKind.i64 n4)])] }

def slices_Index_Cell_X0 (n0 : Int) : St :=
  { env := envOf 19 [(4, PV.al (AL.one (Leaf.v (Value.int IntKind.i64 n0))))], boxes := [] }

theorem slices_Index_Cell_L0_x0 (l0 : List (List D)) (n1 : Int) (n2 : Int) (n3 : Int) (n4 : Int) (n5 : Int) (n6 : Int) (n7 : Int) (n8 : Int) (n9 : Int)
    (h : Obs [decide (n5 < (↑l0.length : Int)) = true, 0 ≤ n5, n5 < (↑l0.length : Int), l0[n5.toNat]? = some [I n6, I n7, I n8, I n9], (n1 == n6 && (n2 == n7 && (n3 == n8 && n4 == n9))) = true]) :
    Tr Try.prog (loopOf Try.f150 0) (slices_Index_Cell_L0 l0 n1 n2 n3 n4 n5) Ex.ret (slices_Index_Cell_X0 n5) :=
  .of_loopc (ks := [4]) (bs := []) (ans := [Ans.br true, Ans.el [I n6, I n7, I n8, I n9], Ans.br true]) (by kernel_rfl) h

theorem slices_Index_Cell_L0_s1 (l0 : List (List D)) (n1 : Int) (n2 : Int) (n3 : Int) (n4 : Int) (n5 : Int) (n6 : Int) (n7 : Int) (n8 : Int) (n9 : Int)
    (h : Obs [decide (n5 < (↑l0.length : Int)) = true, 0 ≤ n5, n5 < (↑l0.length : Int), l0[n5.toNat]? = some [I n6, I n7, I n8, I n9], (n1 == n6 && (n2 == n7 && (n3 == n8 && n4 == n9))) = false, inInt IntKind.i64 (n5 + 1)]) :
    Tr Try.prog (loopOf Try.f150 0) (slices_Index_Cell_L0 l0 n1 n2 n3 n4 n5) Ex.normal (slices_Index_Cell_L0 l0 n1 n2 n3 n4 (n5 + 1)) :=
  .of_loopc (ks := [8, 7, 3, 0]) (bs := [3]) (ans := [Ans.br true, Ans.el [I n6, I n7, I n8, I n9], Ans.br false]) (by kernel_rfl) h

def slices_Index_Cell_X0v2 : St :=
  { env := envOf 19 [], boxes := [] }

theorem slices_Index_Cell_L0_x2 (l0 : List (List D)) (n1 : Int) (n2 : Int) (n3 : Int) (n4 : Int) (n5 : Int)
    (h : Obs [decide (n5 < (↑l0.length : Int)) = false]) :
    Tr Try.prog (loopOf Try.f150 0) (slices_Index_Cell_L0 l0 n1 n2 n3 n4 n5) (Ex.exit 0) slices_Index_Cell_X0v2 :=
  .of_loopc (ks := []) (bs := []) (ans := [Ans.br false]) (by kernel_rfl) h

theorem slices_Index_Cell_p0 (l0 : List (List D)) (n1 : Int) (n2 : Int) (n3 : Int) (n4 : Int) (n5 : Int)
    (h : Obs [LoopOk Try.prog (loopOf Try.f150 0) (slices_Index_Cell_L0 l0 n1 n2 n3 n4 0) Ex.ret (slices_Index_Cell_X0 n5)]) :
    Ret Try.prog 150 [AD.one (D.sl 4 l0), AD.agg [I n1, I n2, I n3, I n4]] [AD.one (I n5)] :=
  .of [Ans.loop [] [8, 7, 3, 0] [3] Ex.ret (slices_Index_Cell_X0 n5)] _ Try.func150 rfl (by kernel_rfl) h

theorem slices_Index_Cell_p1 (l0 : List (List D)) (n1 : Int) (n2 : Int) (n3 : Int) (n4 : Int)
    (h : Obs [LoopOk Try.prog (loopOf Try.f150 0) (slices_Index_Cell_L0 l0 n1 n2 n3 n4 0) (Ex.exit 0) slices_Index_Cell_X0v2]) :
    Ret Try.prog 150 [AD.one (D.sl 4 l0), AD.agg [I n1, I n2, I n3, I n4]] [AD.one (I (-1))] :=
  .of [Ans.loop [] [8, 7, 3, 0] [3] (Ex.exit 0) slices_Index_Cell_X0v2] _ Try.func150 rfl (by kernel_rfl) h

/- slices.Compare[[]int,int] -/

def slices_Compare_int_L0 (l0 : List (List D)) (l1 : List (List D)) (n2 : Int) : St :=
  { env := envOf 36 [(0, PV.al (AL.one (Leaf.sl Tag.free 1 l0))), (1, PV.al (AL.one (Leaf.sl Tag.free 1 l1))), (9, PV.al (AL.one (Leaf.sl Tag.free 1 l0))), (10, PV.al (AL.one (Leaf.v (Value.int IntKind.i64 (↑l0.length : Int))))), (11, PV.al (AL.one (Leaf.v (Value.int IntKind.i64 n2))))], boxes := [] }

def slices_Compare_int_X0 (n0 : Int) : St :=
  { env := envOf 36 [(4, PV.al (AL.one (Leaf.v (Value.int IntKind.i64 n0))))], boxes := [] }

theorem slices_Compare_int_L0_x1 (l0 : List (List D)) (l1 : List (List D)) (n2 : Int) (n3 : Int) (n4 : Int) (n5 : Int)
    (h : Obs [decide (n2 < (↑l0.length : Int)) = true, 0 ≤ n2, n2 < (↑l0.length : Int), l0[n2.toNat]? = some [I n3], decide (n2 ≥ (↑l1.length : Int)) = false, 0 ≤ n2, n2 < (↑l1.length : Int), l1[n2.toNat]? = some [I n4], Ret Try.prog 156 [AD.one (I n3), AD.one (I n4)] [AD.one (I n5)], (n5 != 0) = true]) :
    Tr Try.prog (loopOf Try.f151 0) (slices_Compare_int_L0 l0 l1 n2) Ex.ret (slices_Compare_int_X0 n5) :=
  .of_loopc (ks := [4]) (bs := []) (ans := [Ans.br true, Ans.el [I n3], Ans.br false, Ans.el [I n4], Ans.res [AD.one (I n5)], Ans.br true]) (by kernel_rfl) h

theorem slices_Compare_int_L0_s2 (l0 : List (List D)) (l1 : List (List D)) (n2 : Int) (n3 : Int) (n4 : Int) (n5 : Int)
    (h : Obs [decide (n2 < (↑l0.length : Int)) = true, 0 ≤ n2, n2 < (↑l0.length : Int), l0[n2.toNat]? = some [I n3], decide (n2 ≥ (↑l1.length : Int)) = false, 0 ≤ n2, n2 < (↑l1.length : Int), l1[n2.toNat]? = some [I n4], Ret Try.prog 156 [AD.one (I n3), AD.one (I n4)] [AD.one (I n5)], (n5 != 0) = false, inInt IntKind.i64 (n2 + 1)]) :
    Tr Try.prog (loopOf Try.f151 0) (slices_Compare_int_L0 l0 l1 n2) Ex.normal (slices_Compare_int_L0 l0 l1 (n2 + 1)) :=
  .of_loopc (ks := [11, 10, 9, 1, 0]) (bs := []) (ans := [Ans.br true, Ans.el [I n3], Ans.br false, Ans.el [I n4], Ans.res [AD.one (I n5)], Ans.br false]) (by kernel_rfl) h

def slices_Compare_int_X0v2 (l0 : List (List D)) (l1 : List (List D)) : St :=
  { env := envOf 36 [(0, PV.al (AL.one (Leaf.sl Tag.free 1 l0))), (1, PV.al (AL.one (Leaf.sl Tag.free 1 l1)))], boxes := [] }

theorem slices_Compare_int_L0_x3 (l0 : List (List D)) (l1 : List (List D)) (n2 : Int)
    (h : Obs [decide (n2 < (↑l0.length : Int)) = false]) :
    Tr Try.prog (loopOf Try.f151 0) (slices_Compare_int_L0 l0 l1 n2) (Ex.exit 0) (slices_Compare_int_X0v2 l0 l1) :=
  .of_loopc (ks := [0, 1]) (bs := []) (ans := [Ans.br false]) (by kernel_rfl) h

theorem slices_Compare_int_p0 (l0 : List (List D)) (l1 : List (List D)) (n2 : Int)
    (h : Obs [LoopOk Try.prog (loopOf Try.f151 0) (slices_Compare_int_L0 l0 l1 0) Ex.ret (slices_Compare_int_X0 n2)]) :
    Ret Try.prog 151 [AD.one (D.sl 1 l0), AD.one (D.sl 1 l1)] [AD.one (I n2)] :=
  .of [Ans.loop [] [11, 10, 9, 1, 0] [] Ex.ret (slices_Compare_int_X0 n2)] _ Try.func151 rfl (by kernel_rfl) h

theorem slices_Compare_int_p2 (l0 : List (List D)) (l1 : List (List D))
    (h : Obs [LoopOk Try.prog (loopOf Try.f151 0) (slices_Compare_int_L0 l0 l1 0) (Ex.exit 0) (slices_Compare_int_X0v2 l0 l1), decide ((↑l0.length : Int) < (↑l1.length : Int)) = false]) :
    Ret Try.prog 151 [AD.one (D.sl 1 l0), AD.one (D.sl 1 l1)] [AD.one (I 0)] :=
  .of [Ans.loop [] [11, 10, 9, 1, 0] [] (Ex.exit 0) (slices_Compare_int_X0v2 l0 l1), Ans.br false] _ Try.func151 rfl (by kernel_rfl) h

/- cmp.Compare[int] -/

theorem cmp_Compare_int_p3 (n0 : Int) (n1 : Int) (b2 : Bool) (b3 : Bool)
    (h : Obs [Ret Try.prog 162 [AD.one (I n0)] [AD.one (B b2)], Ret Try.prog 162 [AD.one (I n1)] [AD.one (B b3)], b2 = false, b3 = false, decide (n0 < n1) = true]) :
    Ret Try.prog 156 [AD.one (I n0), AD.one (I n1)] [AD.one (I (-1))] :=
  .of [Ans.res [AD.one (B b2)], Ans.res [AD.one (B b3)], Ans.br false, Ans.br false, Ans.br true] _ Try.func156 rfl (by kernel_rfl) h

theorem cmp_Compare_int_p4 (n0 : Int) (n1 : Int) (b2 : Bool) (b3 : Bool)
    (h : Obs [Ret Try.prog 162 [AD.one (I n0)] [AD.one (B b2)], Ret Try.prog 162 [AD.one (I n1)] [AD.one (B b3)], b2 = false, b3 = false, decide (n0 < n1) = false, decide (n0 > n1) = true]) :
    Ret Try.prog 156 [AD.one (I n0), AD.one (I n1)] [AD.one (I 1)] :=
  .of [Ans.res [AD.one (B b2)], Ans.res [AD.one (B b3)], Ans.br false, Ans.br false, Ans.br false, Ans.br true] _ Try.func156 rfl (by kernel_rfl) h

theorem cmp_Compare_int_p5 (n0 : Int) (n1 : Int) (b2 : Bool) (b3 : Bool)
    (h : Obs [Ret Try.prog 162 [AD.one (I n0)] [AD.one (B b2)], Ret Try.prog 162 [AD.one (I n1)] [AD.one (B b3)], b2 = false, b3 = false, decide (n0 < n1) = false, decide (n0 > n1) = false]) :
    Ret Try.prog 156 [AD.one (I n0), AD.one (I n1)] [AD.one (I 0)] :=
  .of [Ans.res [AD.one (B b2)], Ans.res [AD.one (B b3)], Ans.br false, Ans.br false, Ans.br false, Ans.br false] _ Try.func156 rfl (by kernel_rfl) h

/- cmp.isNaN[int] -/

theorem cmp_isNaN_int_p0 (n0 : Int)
    (h : Obs []) :
    Ret Try.prog 162 [AD.one (I n0)] [AD.one (B (n0 != n0))] :=
  .of [] _ Try.func162 rfl (by kernel_rfl) h

/- loop.example/g00973/impl.PutCell -/

theorem impl_PutCell_p0 (l0 : List (List D)) (n1 : Int) (n2 : Int) (n3 : Int) (n4 : Int) (l5 : List (List D)) (b6 : Bool)
    (h : Obs [Ret Try.prog 102 [AD.one (D.sl 4 l0)] [AD.one (D.sl 4 l5)], Ret Try.prog 103 [AD.one (D.sl 4 l0), AD.agg [I n1, I n2, I n3, I n4]] [AD.one (B b6)], b6 = true]) :
    Ret Try.prog 76 [AD.one (D.sl 4 l0), AD.agg [I n1, I n2, I n3, I n4]] [AD.one (D.sl 4 l5)] :=
  .of [Ans.res [AD.one (D.sl 4 l5)], Ans.res [AD.one (B b6)], Ans.br true] _ Try.func76 rfl (by kernel_rfl) h

def impl_PutCell_L0 (l0 : List (List D)) (n1 : Int) (n2 : Int) (n3 : Int) (n4 : Int) (l5 : List (List D)) (n6 : Int) : St :=
  { env := envOf 33 [(0, PV.al (AL.one (Leaf.sl Tag.free 4 l0))), (3, PV.al (AL.one (Leaf.ptr 3 0))), (5, PV.al (AL.one (Leaf.sl (Tag.own 90000) 4 l5))), (6, PV.al (AL.one (Leaf.v (Value.int IntKind.i64 n6))))], boxes := [(3, [Leaf.v (Value.int IntKind.i64 n1), Leaf.v (Value.int IntKind.i64 n2), Leaf.v (Value.int IntKind.i64 n3), Leaf.v (Value.int IntKind.i64 n4)])] }

theorem impl_PutCell_L0_s0 (l0 : List (List D)) (n1 : Int) (n2 : Int) (n3 : Int) (n4 : Int) (l5 : List (List D)) (n7 : Int) (n8 : Int) (n9 : Int) (n10 : Int) (n11 : Int) (n12 : Int)
    (h : Obs [decide (n7 < (↑l0.length : Int)) = true, 0 ≤ n7, n7 < (↑l0.length : Int), l0[n7.toNat]? = some [I n8, I n9, I n10, I n11], Ret Try.prog 104 [AD.agg [I n8, I n9, I n10, I n11], AD.agg [I n1, I n2, I n3, I n4]] [AD.one (I n12)], decide (n12 < 0) = true, inInt IntKind.i64 (n7 + 1)]) :
    Tr Try.prog (loopOf Try.f76 0) (impl_PutCell_L0 l0 n1 n2 n3 n4 l5 n7) Ex.normal (impl_PutCell_L0 l0 n1 n2 n3 n4 l5 (n7 + 1)) :=
  .of_loopc (ks := [6, 0, 3, 5]) (bs := [3]) (ans := [Ans.br true, Ans.el [I n8, I n9, I n10, I n11], Ans.res [AD.one (I n12)], Ans.br true]) (by kernel_rfl) h

def impl_PutCell_X0 (n0 : Int) (n1 : Int) (n2 : Int) (n3 : Int) (l4 : List (List D)) (n5 : Int) : St :=
  { env := envOf 33 [(3, PV.al (AL.one (Leaf.ptr 3 0))), (5, PV.al (AL.one (Leaf.sl (Tag.own 90000) 4 l4))), (6, PV.al (AL.one (Leaf.v (Value.int IntKind.i64 n5))))], boxes := [(3, [Leaf.v (Value.int IntKind.i64 n0), Leaf.v (Value.int IntKind.i64 n1), Leaf.v (Value.int IntKind.i64 n2), Leaf.v (Value.int IntKind.i64 n3)])] }

theorem impl_PutCell_L0_x1 (l0 : List (List D)) (n1 : Int) (n2 : Int) (n3 : Int) (n4 : Int) (l5 : List (List D)) (n7 : Int) (n8 : Int) (n9 : Int) (n10 : Int) (n11 : Int) (n12 : Int)
    (h : Obs [decide (n7 < (↑l0.length : Int)) = true, 0 ≤ n7, n7 < (↑l0.length : Int), l0[n7.toNat]? = some [I n8, I n9, I n10, I n11], Ret Try.prog 104 [AD.agg [I n8, I n9, I n10, I n11], AD.agg [I n1, I n2, I n3, I n4]] [AD.one (I n12)], decide (n12 < 0) = false]) :
    Tr Try.prog (loopOf Try.f76 0) (impl_PutCell_L0 l0 n1 n2 n3 n4 l5 n7) (Ex.exit 0) (impl_PutCell_X0 n1 n2 n3 n4 l5 n7) :=
  .of_loopc (ks := [5, 6, 3]) (bs := [3]) (ans := [Ans.br true, Ans.el [I n8, I n9, I n10, I n11], Ans.res [AD.one (I n12)], Ans.br false]) (by kernel_rfl) h

theorem impl_PutCell_L0_x2 (l0 : List (List D)) (n1 : Int) (n2 : Int) (n3 : Int) (n4 : Int) (l5 : List (List D)) (n7 : Int)
    (h : Obs [decide (n7 < (↑l0.length : Int)) = false]) :
    Tr Try.prog (loopOf Try.f76 0) (impl_PutCell_L0 l0 n1 n2 n3 n4 l5 n7) (Ex.exit 0) (impl_PutCell_X0 n1 n2 n3 n4 l5 n7) :=
  .of_loopc (ks := [5, 6, 3]) (bs := [3]) (ans := [Ans.br false]) (by kernel_rfl) h

theorem impl_PutCell_p1 (l0 : List (List D)) (n1 : Int) (n2 : Int) (n3 : Int) (n4 : Int) (l5 : List (List D)) (b6 : Bool) (n7 : Int) (l10 : List (List D))
    (h : Obs [Ret Try.prog 102 [AD.one (D.sl 4 l0)] [AD.one (D.sl 4 l5)], Ret Try.prog 103 [AD.one (D.sl 4 l0), AD.agg [I n1, I n2, I n3, I n4]] [AD.one (B b6)], b6 = false, LoopOk Try.prog (loopOf Try.f76 0) (impl_PutCell_L0 l0 n1 n2 n3 n4 l5 0) (Ex.exit 0) (impl_PutCell_X0 n1 n2 n3 n4 l5 n7), RetG Try.prog 105 [GA.one (GC.gv 4 l5 none), GA.one (GC.ro (I n7)), GA.one (GC.gv 4 [[I n1, I n2, I n3, I n4]] none)] [AD.one (D.sl 4 l10)]]) :
    Ret Try.prog 76 [AD.one (D.sl 4 l0), AD.agg [I n1, I n2, I n3, I n4]] [AD.one (D.sl 4 l10)] :=
  .of [Ans.res [AD.one (D.sl 4 l5)], Ans.res [AD.one (B b6)], Ans.br false, Ans.loop [] [6, 0, 3, 5] [3] (Ex.exit 0) (impl_PutCell_X0 n1 n2 n3 n4 l5 n7), Ans.resG [[some none], [none], [some none]] 0 [] [AD.one (D.sl 4 l10)]] _ Try.func76 rfl (by kernel_rfl) h

/- loop.example/g00973/impl.isNode -/

theorem impl_isNode_p0 (l0 : List (List D)) (n1 : Int) (n2 : Int) (n3 : Int) (b4 : Bool)
    (h : Obs [inInt IntKind.i64 ((↑l0.length : Int) - 1), Ret Try.prog 62 [AD.one (I n3), AD.one (I 0), AD.one (I ((↑l0.length : Int) - 1))] [AD.one (B b4)]]) :
    Ret Try.prog 107 [AD.agg [D.sl 4 l0, I n1, I n2], AD.one (I n3)] [AD.one (B b4)] :=
  .of [Ans.res [AD.one (B b4)]] _ Try.func107 rfl (by kernel_rfl) h

/- loop.example/g00973/impl.OutsOnly -/

def impl_OutsOnly_L0 (l0 : List (List D)) (n1 : Int) (l2 : List (List D)) (l3 : List (List D)) (n4 : Int) (n5 : Int) : St :=
  { env := envOf 34 [(2, PV.al (AL.one (Leaf.ptr 2 0))), (5, PV.al (AL.one (Leaf.sl (Tag.own 31) 4 l2))), (8, PV.al (AL.one (Leaf.sl Tag.free 4 l0))), (9, PV.al (AL.one (Leaf.v (Value.int IntKind.i64 (↑l0.length : Int))))), (10, PV.al (AL.one (Leaf.v (Value.int IntKind.i64 n1))))], boxes := [(2, [Leaf.sl Tag.free 4 l3, Leaf.v (Value.int IntKind.i64 n4), Leaf.v (Value.int IntKind.i64 n5)])] }

theorem impl_OutsOnly_L0_s0 (l3 : List (List D)) (n4 : Int) (l5 : List (List D)) (l6 : List (List D)) (n7 : Int) (n8 : Int) (n9 : Int) (n10 : Int) (n11 : Int) (n12 : Int) (b13 : Bool) (n14 : Int) (n15 : Int) (n16 : Int) (l17 : List (List D))
    (h : Obs [decide (n4 < (↑l3.length : Int)) = true, 0 ≤ n4, n4 < (↑l3.length : Int), l3[n4.toNat]? = some [I n9, I n10, I n11, I n12], Ret Try.prog 107 [AD.agg [D.sl 4 l6, I n7, I n8], AD.one (I n9)] [AD.one (B b13)], b13 = true, 0 ≤ n9, n9 < (↑l6.length : Int), l6[n9.toNat]? = some [I n14, I n15, I n16, D.sl 1 l17], (n14 == 8) = true, (l5.length + [[I n9, I n10, I n11, I n12]].length) * 32 ≤ 140737488355328, l5.length + [[I n9, I n10, I n11, I n12]].length ≤ 9223372036854775807, Flat [[I n9, I n10, I n11, I n12]], inInt IntKind.i64 (n4 + 1)]) :
    Tr Try.prog (loopOf Try.f79 0) (impl_OutsOnly_L0 l3 n4 l5 l6 n7 n8) Ex.normal (impl_OutsOnly_L0 l3 (n4 + 1) (l5 ++ [[I n9, I n10, I n11, I n12]]) l6 n7 n8) :=
  .of_loopc (ks := [10, 9, 8, 2, 5]) (bs := [2]) (ans := [Ans.br true, Ans.el [I n9, I n10, I n11, I n12], Ans.res [AD.one (B b13)], Ans.br true, Ans.el [I n14, I n15, I n16, D.sl 1 l17], Ans.br true]) (by kernel_rfl) h

theorem impl_OutsOnly_L0_s1 (l3 : List (List D)) (n4 : Int) (l5 : List (List D)) (l6 : List (List D)) (n7 : Int) (n8 : Int) (n9 : Int) (n10 : Int) (n11 : Int) (n12 : Int) (b13 : Bool) (n14 : Int) (n15 : Int) (n16 : Int) (l17 : List (List D))
    (h : Obs [decide (n4 < (↑l3.length : Int)) = true, 0 ≤ n4, n4 < (↑l3.length : Int), l3[n4.toNat]? = some [I n9, I n10, I n11, I n12], Ret Try.prog 107 [AD.agg [D.sl 4 l6, I n7, I n8], AD.one (I n9)] [AD.one (B b13)], b13 = true, 0 ≤ n9, n9 < (↑l6.length : Int), l6[n9.toNat]? = some [I n14, I n15, I n16, D.sl 1 l17], (n14 == 8) = false, inInt IntKind.i64 (n4 + 1)]) :
    Tr Try.prog (loopOf Try.f79 0) (impl_OutsOnly_L0 l3 n4 l5 l6 n7 n8) Ex.normal (impl_OutsOnly_L0 l3 (n4 + 1) l5 l6 n7 n8) :=
  .of_loopc (ks := [10, 9, 8, 2, 5]) (bs := [2]) (ans := [Ans.br true, Ans.el [I n9, I n10, I n11, I n12], Ans.res [AD.one (B b13)], Ans.br true, Ans.el [I n14, I n15, I n16, D.sl 1 l17], Ans.br false]) (by kernel_rfl) h

theorem impl_OutsOnly_L0_s2 (l3 : List (List D)) (n4 : Int) (l5 : List (List D)) (l6 : List (List D)) (n7 : Int) (n8 : Int) (n9 : Int) (n10 : Int) (n11 : Int) (n12 : Int) (b13 : Bool)
    (h : Obs [decide (n4 < (↑l3.length : Int)) = true, 0 ≤ n4, n4 < (↑l3.length : Int), l3[n4.toNat]? = some [I n9, I n10, I n11, I n12], Ret Try.prog 107 [AD.agg [D.sl 4 l6, I n7, I n8], AD.one (I n9)] [AD.one (B b13)], b13 = false, inInt IntKind.i64 (n4 + 1)]) :
    Tr Try.prog (loopOf Try.f79 0) (impl_OutsOnly_L0 l3 n4 l5 l6 n7 n8) Ex.normal (impl_OutsOnly_L0 l3 (n4 + 1) l5 l6 n7 n8) :=
  .of_loopc (ks := [10, 9, 8, 2, 5]) (bs := [2]) (ans := [Ans.br true, Ans.el [I n9, I n10, I n11, I n12], Ans.res [AD.one (B b13)], Ans.br false]) (by kernel_rfl) h

def impl_OutsOnly_X0 (l0 : List (List D)) : St :=
  { env := envOf 34 [(5, PV.al (AL.one (Leaf.sl (Tag.own 31) 4 l0)))], boxes := [] }

theorem impl_OutsOnly_L0_x3 (l3 : List (List D)) (n4 : Int) (l5 : List (List D)) (l6 : List (List D)) (n7 : Int) (n8 : Int)
    (h : Obs [decide (n4 < (↑l3.length : Int)) = false]) :
    Tr Try.prog (loopOf Try.f79 0) (impl_OutsOnly_L0 l3 n4 l5 l6 n7 n8) (Ex.exit 0) (impl_OutsOnly_X0 l5) :=
  .of_loopc (ks := [5]) (bs := []) (ans := [Ans.br false]) (by kernel_rfl) h

theorem impl_OutsOnly_p0 (l0 : List (List D)) (n1 : Int) (n2 : Int) (l3 : List (List D)) (l4 : List (List D))
    (h : Obs [LoopOk Try.prog (loopOf Try.f79 0) (impl_OutsOnly_L0 l3 0 [] l0 n1 n2) (Ex.exit 0) (impl_OutsOnly_X0 l4)]) :
    Ret Try.prog 79 [AD.agg [D.sl 4 l0, I n1, I n2], AD.one (D.sl 4 l3)] [AD.one (D.sl 4 l4)] :=
  .of [Ans.loop [(5, 31, 4)] [10, 9, 8, 2, 5] [2] (Ex.exit 0) (impl_OutsOnly_X0 l4)] _ Try.func79 rfl (by kernel_rfl) h

/- loop.example/g00973/impl.CellsIn -/

/- loop.example/g00973/impl.OutCells -/

/- loop.example/g00973/impl.sameSlot -/

theorem impl_sameSlot_p0 (n0 : Int) (n1 : Int) (n2 : Int) (n3 : Int) (n4 : Int) (n5 : Int) (n6 : Int) (n7 : Int)
    (h : Obs [(n0 == n4) = true, (n1 == n5) = true]) :
    Ret Try.prog 161 [AD.agg [I n0, I n1, I n2, I n3], AD.agg [I n4, I n5, I n6, I n7]] [AD.one (B (n2 == n6))] :=
  .of [Ans.br true, Ans.br true] _ Try.func161 rfl (by kernel_rfl) h

theorem impl_sameSlot_p1 (n0 : Int) (n1 : Int) (n2 : Int) (n3 : Int) (n4 : Int) (n5 : Int) (n6 : Int) (n7 : Int)
    (h : Obs [(n0 == n4) = true, (n1 == n5) = false]) :
    Ret Try.prog 161 [AD.agg [I n0, I n1, I n2, I n3], AD.agg [I n4, I n5, I n6, I n7]] [AD.one (B false)] :=
  .of [Ans.br true, Ans.br false] _ Try.func161 rfl (by kernel_rfl) h

theorem impl_sameSlot_p2 (n0 : Int) (n1 : Int) (n2 : Int) (n3 : Int) (n4 : Int) (n5 : Int) (n6 : Int) (n7 : Int)
    (h : Obs [(n0 == n4) = false]) :
    Ret Try.prog 161 [AD.agg [I n0, I n1, I n2, I n3], AD.agg [I n4, I n5, I n6, I n7]] [AD.one (B false)] :=
  .of [Ans.br false] _ Try.func161 rfl (by kernel_rfl) h

/- loop.example/g00973/impl.better$1 -/

theorem impl_better_1_p0 (n0 : Int) (n1 : Int) (n2 : Int) (n3 : Int) (n4 : Int) (n5 : Int) (n6 : Int) (n7 : Int) (b8 : Bool)
    (h : Obs [Ret Try.prog 161 [AD.agg [I n4, I n5, I n6, I n7], AD.agg [I n0, I n1, I n2, I n3]] [AD.one (B b8)]]) :
    Ret Try.prog 160 [AD.agg [I n0, I n1, I n2, I n3], AD.one (D.ptr [I n4, I n5, I n6, I n7])] [AD.one (B b8)] :=
  .of [Ans.res [AD.one (B b8)]] _ Try.func160 rfl (by kernel_rfl) h

/- slices.IndexFunc[[]loop.example/g00973/impl.Cell,loop.example/g00973/impl.Cell] -/

def slices_IndexFunc_Cell_L0 (l0 : List (List D)) (g1 : Nat) (k2 : List D) (n3 : Int) : St :=
  { env := envOf 19 [(0, PV.al (AL.one (Leaf.sl Tag.free 4 l0))), (1, PV.al (AL.one (Leaf.fd (D.cl g1 k2)))), (7, PV.al (AL.one (Leaf.v (Value.int IntKind.i64 (↑l0.length : Int))))), (8, PV.al (AL.one (Leaf.v (Value.int IntKind.i64 n3))))], boxes := [] }

def slices_IndexFunc_Cell_X0 (n0 : Int) : St :=
  { env := envOf 19 [(4, PV.al (AL.one (Leaf.v (Value.int IntKind.i64 n0))))], boxes := [] }

theorem slices_IndexFunc_Cell_L0_x0 (l0 : List (List D)) (g1 : Nat) (k2 : List D) (n3 : Int) (n4 : Int) (n5 : Int) (n6 : Int) (n7 : Int) (b8 : Bool)
    (h : Obs [decide (n3 < (↑l0.length : Int)) = true, 0 ≤ n3, n3 < (↑l0.length : Int), l0[n3.toNat]? = some [I n4, I n5, I n6, I n7], canCall Try.prog g1 = true, Ret Try.prog g1 ([AD.agg [I n4, I n5, I n6, I n7]] ++ List.map AD.one k2) [AD.one (B b8)], b8 = true]) :
    Tr Try.prog (loopOf Try.f163 0) (slices_IndexFunc_Cell_L0 l0 g1 k2 n3) Ex.ret (slices_IndexFunc_Cell_X0 n3) :=
  .of_loopc (ks := [4]) (bs := []) (ans := [Ans.br true, Ans.el [I n4, I n5, I n6, I n7], Ans.res [AD.one (B b8)], Ans.br true]) (by kernel_rfl) h

theorem slices_IndexFunc_Cell_L0_s1 (l0 : List (List D)) (g1 : Nat) (k2 : List D) (n3 : Int) (n4 : Int) (n5 : Int) (n6 : Int) (n7 : Int) (b8 : Bool)
    (h : Obs [decide (n3 < (↑l0.length : Int)) = true, 0 ≤ n3, n3 < (↑l0.length : Int), l0[n3.toNat]? = some [I n4, I n5, I n6, I n7], canCall Try.prog g1 = true, Ret Try.prog g1 ([AD.agg [I n4, I n5, I n6, I n7]] ++ List.map AD.one k2) [AD.one (B b8)], b8 = false, inInt IntKind.i64 (n3 + 1)]) :
    Tr Try.prog (loopOf Try.f163 0) (slices_IndexFunc_Cell_L0 l0 g1 k2 n3) Ex.normal (slices_IndexFunc_Cell_L0 l0 g1 k2 (n3 + 1)) :=
  .of_loopc (ks := [8, 7, 1, 0]) (bs := []) (ans := [Ans.br true, Ans.el [I n4, I n5, I n6, I n7], Ans.res [AD.one (B b8)], Ans.br false]) (by kernel_rfl) h

def slices_IndexFunc_Cell_X0v2 : St :=
  { env := envOf 19 [], boxes := [] }

theorem slices_IndexFunc_Cell_L0_x2 (l0 : List (List D)) (g1 : Nat) (k2 : List D) (n3 : Int)
    (h : Obs [decide (n3 < (↑l0.length : Int)) = false]) :
    Tr Try.prog (loopOf Try.f163 0) (slices_IndexFunc_Cell_L0 l0 g1 k2 n3) (Ex.exit 0) slices_IndexFunc_Cell_X0v2 :=
  .of_loopc (ks := []) (bs := []) (ans := [Ans.br false]) (by kernel_rfl) h

theorem slices_IndexFunc_Cell_p0 (l0 : List (List D)) (g1 : Nat) (k2 : List D) (n3 : Int)
    (h : Obs [LoopOk Try.prog (loopOf Try.f163 0) (slices_IndexFunc_Cell_L0 l0 g1 k2 0) Ex.ret (slices_IndexFunc_Cell_X0 n3)]) :
    Ret Try.prog 163 [AD.one (D.sl 4 l0), AD.one (D.cl g1 k2)] [AD.one (I n3)] :=
  .of [Ans.loop [] [8, 7, 1, 0] [] Ex.ret (slices_IndexFunc_Cell_X0 n3)] _ Try.func163 rfl (by kernel_rfl) h

theorem slices_IndexFunc_Cell_p1 (l0 : List (List D)) (g1 : Nat) (k2 : List D)
    (h : Obs [LoopOk Try.prog (loopOf Try.f163 0) (slices_IndexFunc_Cell_L0 l0 g1 k2 0) (Ex.exit 0) slices_IndexFunc_Cell_X0v2]) :
    Ret Try.prog 163 [AD.one (D.sl 4 l0), AD.one (D.cl g1 k2)] [AD.one (I (-1))] :=
  .of [Ans.loop [] [8, 7, 1, 0] [] (Ex.exit 0) slices_IndexFunc_Cell_X0v2] _ Try.func163 rfl (by kernel_rfl) h

/- slices.DeleteFunc[[]loop.example/g00973/impl.Cell,loop.example/g00973/impl.Cell] -/

theorem slices_DeleteFunc_Cell_p0 (l0 : List (List D)) (g1 : Nat) (k2 : List D) (n3 : Int)
    (h : Obs [Ret Try.prog 163 [AD.one (D.sl 4 l0), AD.one (D.cl g1 k2)] [AD.one (I n3)], (n3 == -1) = true]) :
    RetG Try.prog 159 [GA.one (GC.gv 4 l0 none), GA.one (GC.ro (D.cl g1 k2))] [AD.one (D.sl 4 l0)] :=
  .of [Ans.res [AD.one (I n3)], Ans.br true] _ Try.func159 rfl (by kernel_rfl) h

def slices_DeleteFunc_Cell_L0 (g0 : Nat) (k1 : List D) (n2 : Int) (n3 : Int) (l4 : List (List D)) : St :=
  { env := envOf 42 [(0, PV.al (AL.one (Leaf.sl (Tag.own 1000000000) 4 l4))), (1, PV.al (AL.one (Leaf.fd (D.cl g0 k1)))), (5, PV.al (AL.one (Leaf.v (Value.int IntKind.i64 n3)))), (6, PV.al (AL.one (Leaf.v (Value.int IntKind.i64 n2))))], boxes := [] }

theorem slices_DeleteFunc_Cell_L0_s0 (g1 : Nat) (k2 : List D) (n4 : Int) (n5 : Int) (l6 : List (List D)) (n7 : Int) (n8 : Int) (n9 : Int) (n10 : Int) (b11 : Bool) (d12 : D) (d13 : D) (d14 : D) (d15 : D)
    (h : Obs [decide (n4 < (↑l6.length : Int)) = true, 0 ≤ n4, n4 < (↑l6.length : Int), l6[n4.toNat]? = some [I n7, I n8, I n9, I n10], canCall Try.prog g1 = true, Ret Try.prog g1 ([AD.agg [I n7, I n8, I n9, I n10]] ++ List.map AD.one k2) [AD.one (B b11)], (!b11) = true, 0 ≤ n5, n5 < (↑l6.length : Int), l6[n5.toNat]? = some [d12, d13, d14, d15], inInt IntKind.i64 (n5 + 1), inInt IntKind.i64 (n4 + 1)]) :
    Tr Try.prog (loopOf Try.f159 0) (slices_DeleteFunc_Cell_L0 g1 k2 n4 n5 l6) Ex.normal (slices_DeleteFunc_Cell_L0 g1 k2 (n4 + 1) (n5 + 1) (l6.set n5.toNat [I n7, I n8, I n9, I n10])) :=
  .of_loopc (ks := [6, 0, 1, 5]) (bs := []) (ans := [Ans.br true, Ans.el [I n7, I n8, I n9, I n10], Ans.res [AD.one (B b11)], Ans.br true, Ans.el [d12, d13, d14, d15]]) (by kernel_rfl) h

theorem slices_DeleteFunc_Cell_L0_s1 (g1 : Nat) (k2 : List D) (n4 : Int) (n5 : Int) (l6 : List (List D)) (n7 : Int) (n8 : Int) (n9 : Int) (n10 : Int) (b11 : Bool)
    (h : Obs [decide (n4 < (↑l6.length : Int)) = true, 0 ≤ n4, n4 < (↑l6.length : Int), l6[n4.toNat]? = some [I n7, I n8, I n9, I n10], canCall Try.prog g1 = true, Ret Try.prog g1 ([AD.agg [I n7, I n8, I n9, I n10]] ++ List.map AD.one k2) [AD.one (B b11)], (!b11) = false, inInt IntKind.i64 (n4 + 1)]) :
    Tr Try.prog (loopOf Try.f159 0) (slices_DeleteFunc_Cell_L0 g1 k2 n4 n5 l6) Ex.normal (slices_DeleteFunc_Cell_L0 g1 k2 (n4 + 1) n5 l6) :=
  .of_loopc (ks := [6, 0, 1, 5]) (bs := []) (ans := [Ans.br true, Ans.el [I n7, I n8, I n9, I n10], Ans.res [AD.one (B b11)], Ans.br false]) (by kernel_rfl) h

def slices_DeleteFunc_Cell_X0 (l0 : List (List D)) (n1 : Int) : St :=
  { env := envOf 42 [(0, PV.al (AL.one (Leaf.sl (Tag.own 1000000000) 4 l0))), (5, PV.al (AL.one (Leaf.v (Value.int IntKind.i64 n1))))], boxes := [] }

theorem slices_DeleteFunc_Cell_L0_x2 (g1 : Nat) (k2 : List D) (n4 : Int) (n5 : Int) (l6 : List (List D))
    (h : Obs [decide (n4 < (↑l6.length : Int)) = false]) :
    Tr Try.prog (loopOf Try.f159 0) (slices_DeleteFunc_Cell_L0 g1 k2 n4 n5 l6) (Ex.exit 0) (slices_DeleteFunc_Cell_X0 l6 n5) :=
  .of_loopc (ks := [0, 5]) (bs := []) (ans := [Ans.br false]) (by kernel_rfl) h

theorem slices_DeleteFunc_Cell_p1 (l0 : List (List D)) (g1 : Nat) (k2 : List D) (n3 : Int) (l4 : List (List D)) (n5 : Int)
    (h : Obs [Ret Try.prog 163 [AD.one (D.sl 4 l0), AD.one (D.cl g1 k2)] [AD.one (I n3)], (n3 == -1) = false, inInt IntKind.i64 (n3 + 1), LoopOk Try.prog (loopOf Try.f159 0) (slices_DeleteFunc_Cell_L0 g1 k2 (n3 + 1) n3 l0) (Ex.exit 0) (slices_DeleteFunc_Cell_X0 l4 n5), 0 ≤ (some n5).getD 0, (some n5).getD 0 < (↑l4.length : Int), Flat l4, (0 : Int) ≤ none.getD 0, none.getD 0 ≤ (some n5).getD (↑(List.take ((some n5).getD 0).toNat l4 ++ List.replicate (l4.length - ((some n5).getD 0).toNat) [I 0, I 0, I 0, I 0]).length : Int), (some n5).getD (↑(List.take ((some n5).getD 0).toNat l4 ++ List.replicate (l4.length - ((some n5).getD 0).toNat) [I 0, I 0, I 0, I 0]).length : Int) ≤ (↑(List.take ((some n5).getD 0).toNat l4 ++ List.replicate (l4.length - ((some n5).getD 0).toNat) [I 0, I 0, I 0, I 0]).length : Int)]) :
    RetG Try.prog 159 [GA.one (GC.gv 4 l0 none), GA.one (GC.ro (D.cl g1 k2))] [AD.one (D.sl 4 (List.take (((some n5).getD (↑(List.take ((some n5).getD 0).toNat l4 ++ List.replicate (l4.length - ((some n5).getD 0).toNat) [I 0, I 0, I 0, I 0]).length : Int)).toNat - 0) (List.drop 0 (List.take ((some n5).getD 0).toNat l4 ++ List.replicate (l4.length - ((some n5).getD 0).toNat) [I 0, I 0, I 0, I 0]))))] :=
  .of [Ans.res [AD.one (I n3)], Ans.br false, Ans.loop [] [6, 0, 1, 5] [] (Ex.exit 0) (slices_DeleteFunc_Cell_X0 l4 n5), Ans.own] _ Try.func159 rfl (by kernel_rfl) h

/- loop.example/g00973/impl.LeastOf -/

def impl_LeastOf_L0 (l0 : List (List D)) (n1 : Int) (n2 : Int) (n3 : Int) (n4 : Int) (b5 : Bool) (n6 : Int) : St :=
  { env := envOf 41 [(1, PV.al (AL.one (Leaf.v (Value.int IntKind.i64 n1)))), (2, PV.al (AL.one (Leaf.v (Value.int IntKind.i64 n2)))), (3, PV.al (AL.one (Leaf.v (Value.int IntKind.i64 n3)))), (10, PV.al (AL.one (Leaf.v (Value.int IntKind.i64 n6)))), (11, PV.al (AL.one (Leaf.sb b5))), (14, PV.al (AL.one (Leaf.sl Tag.free 4 l0))), (15, PV.al (AL.one (Leaf.v (Value.int IntKind.i64 (↑l0.length : Int))))), (16, PV.al (AL.one (Leaf.v (Value.int IntKind.i64 n4))))], boxes := [] }

theorem impl_LeastOf_L0_s0 (l0 : List (List D)) (n1 : Int) (n2 : Int) (n3 : Int) (n4 : Int) (b5 : Bool) (n6 : Int) (n7 : Int) (n8 : Int) (n9 : Int) (n10 : Int) (b11 : Bool)
    (h : Obs [decide (n4 < (↑l0.length : Int)) = true, 0 ≤ n4, n4 < (↑l0.length : Int), l0[n4.toNat]? = some [I n7, I n8, I n9, I n10], Ret Try.prog 161 [AD.agg [I n7, I n8, I n9, I n10], AD.agg [I n1, I n2, I n3, I 0]] [AD.one (B b11)], b11 = true, (!b5) = true, inInt IntKind.i64 (n4 + 1)]) :
    Tr Try.prog (loopOf Try.f158 0) (impl_LeastOf_L0 l0 n1 n2 n3 n4 b5 n6) Ex.normal (impl_LeastOf_L0 l0 n1 n2 n3 (n4 + 1) true n10) :=
  .of_loopc (ks := [16, 15, 14, 1, 2, 3, 11, 10]) (bs := []) (ans := [Ans.br true, Ans.el [I n7, I n8, I n9, I n10], Ans.res [AD.one (B b11)], Ans.br true, Ans.br true]) (by kernel_rfl) h

theorem impl_LeastOf_L0_s1 (l0 : List (List D)) (n1 : Int) (n2 : Int) (n3 : Int) (n4 : Int) (b5 : Bool) (n6 : Int) (n7 : Int) (n8 : Int) (n9 : Int) (n10 : Int) (b11 : Bool)
    (h : Obs [decide (n4 < (↑l0.length : Int)) = true, 0 ≤ n4, n4 < (↑l0.length : Int), l0[n4.toNat]? = some [I n7, I n8, I n9, I n10], Ret Try.prog 161 [AD.agg [I n7, I n8, I n9, I n10], AD.agg [I n1, I n2, I n3, I 0]] [AD.one (B b11)], b11 = true, (!b5) = false, decide (n10 < n6) = true, inInt IntKind.i64 (n4 + 1)]) :
    Tr Try.prog (loopOf Try.f158 0) (impl_LeastOf_L0 l0 n1 n2 n3 n4 b5 n6) Ex.normal (impl_LeastOf_L0 l0 n1 n2 n3 (n4 + 1) true n10) :=
  .of_loopc (ks := [16, 15, 14, 1, 2, 3, 11, 10]) (bs := []) (ans := [Ans.br true, Ans.el [I n7, I n8, I n9, I n10], Ans.res [AD.one (B b11)], Ans.br true, Ans.br false, Ans.br true]) (by kernel_rfl) h

theorem impl_LeastOf_L0_s2 (l0 : List (List D)) (n1 : Int) (n2 : Int) (n3 : Int) (n4 : Int) (b5 : Bool) (n6 : Int) (n7 : Int) (n8 : Int) (n9 : Int) (n10 : Int) (b11 : Bool)
    (h : Obs [decide (n4 < (↑l0.length : Int)) = true, 0 ≤ n4, n4 < (↑l0.length : Int), l0[n4.toNat]? = some [I n7, I n8, I n9, I n10], Ret Try.prog 161 [AD.agg [I n7, I n8, I n9, I n10], AD.agg [I n1, I n2, I n3, I 0]] [AD.one (B b11)], b11 = true, (!b5) = false, decide (n10 < n6) = false, inInt IntKind.i64 (n4 + 1)]) :
    Tr Try.prog (loopOf Try.f158 0) (impl_LeastOf_L0 l0 n1 n2 n3 n4 b5 n6) Ex.normal (impl_LeastOf_L0 l0 n1 n2 n3 (n4 + 1) b5 n6) :=
  .of_loopc (ks := [16, 15, 14, 1, 2, 3, 11, 10]) (bs := []) (ans := [Ans.br true, Ans.el [I n7, I n8, I n9, I n10], Ans.res [AD.one (B b11)], Ans.br true, Ans.br false, Ans.br false]) (by kernel_rfl) h

theorem impl_LeastOf_L0_s3 (l0 : List (List D)) (n1 : Int) (n2 : Int) (n3 : Int) (n4 : Int) (b5 : Bool) (n6 : Int) (n7 : Int) (n8 : Int) (n9 : Int) (n10 : Int) (b11 : Bool)
    (h : Obs [decide (n4 < (↑l0.length : Int)) = true, 0 ≤ n4, n4 < (↑l0.length : Int), l0[n4.toNat]? = some [I n7, I n8, I n9, I n10], Ret Try.prog 161 [AD.agg [I n7, I n8, I n9, I n10], AD.agg [I n1, I n2, I n3, I 0]] [AD.one (B b11)], b11 = false, inInt IntKind.i64 (n4 + 1)]) :
    Tr Try.prog (loopOf Try.f158 0) (impl_LeastOf_L0 l0 n1 n2 n3 n4 b5 n6) Ex.normal (impl_LeastOf_L0 l0 n1 n2 n3 (n4 + 1) b5 n6) :=
  .of_loopc (ks := [16, 15, 14, 1, 2, 3, 11, 10]) (bs := []) (ans := [Ans.br true, Ans.el [I n7, I n8, I n9, I n10], Ans.res [AD.one (B b11)], Ans.br false]) (by kernel_rfl) h

def impl_LeastOf_X0 (n0 : Int) (b1 : Bool) : St :=
  { env := envOf 41 [(10, PV.al (AL.one (Leaf.v (Value.int IntKind.i64 n0)))), (11, PV.al (AL.one (Leaf.sb b1)))], boxes := [] }

theorem impl_LeastOf_L0_x4 (l0 : List (List D)) (n1 : Int) (n2 : Int) (n3 : Int) (n4 : Int) (b5 : Bool) (n6 : Int)
    (h : Obs [decide (n4 < (↑l0.length : Int)) = false]) :
    Tr Try.prog (loopOf Try.f158 0) (impl_LeastOf_L0 l0 n1 n2 n3 n4 b5 n6) (Ex.exit 0) (impl_LeastOf_X0 n6 b5) :=
  .of_loopc (ks := [10, 11]) (bs := []) (ans := [Ans.br false]) (by kernel_rfl) h

theorem impl_LeastOf_p0 (l0 : List (List D)) (n1 : Int) (n2 : Int) (n3 : Int) (n4 : Int) (b5 : Bool)
    (h : Obs [LoopOk Try.prog (loopOf Try.f158 0) (impl_LeastOf_L0 l0 n1 n2 n3 0 false 0) (Ex.exit 0) (impl_LeastOf_X0 n4 b5)]) :
    Ret Try.prog 158 [AD.one (D.sl 4 l0), AD.one (I n1), AD.one (I n2), AD.one (I n3)] [AD.one (I n4), AD.one (B b5)] :=
  .of [Ans.loop [] [16, 15, 14, 1, 2, 3, 11, 10] [] (Ex.exit 0) (impl_LeastOf_X0 n4 b5)] _ Try.func158 rfl (by kernel_rfl) h

/- loop.example/g00973/impl.better -/

theorem impl_better_p0 (l0 : List (List D)) (n1 : Int) (n2 : Int) (n3 : Int) (n4 : Int) (n5 : Int) (b6 : Bool) (l7 : List (List D))
    (h : Obs [Ret Try.prog 158 [AD.one (D.sl 4 l0), AD.one (I n1), AD.one (I n2), AD.one (I n3)] [AD.one (I n5), AD.one (B b6)], b6 = true, decide (n5 ≤ n4) = true, Ret Try.prog 102 [AD.one (D.sl 4 l0)] [AD.one (D.sl 4 l7)]]) :
    Ret Try.prog 155 [AD.one (D.sl 4 l0), AD.agg [I n1, I n2, I n3, I n4]] [AD.one (D.sl 4 l7), AD.one (B false)] :=
  .of [Ans.res [AD.one (I n5), AD.one (B b6)], Ans.br true, Ans.br true, Ans.res [AD.one (D.sl 4 l7)]] _ Try.func155 rfl (by kernel_rfl) h

theorem impl_better_p1 (l0 : List (List D)) (n1 : Int) (n2 : Int) (n3 : Int) (n4 : Int) (n5 : Int) (b6 : Bool) (l7 : List (List D)) (l9 : List (List D)) (l10 : List (List D))
    (h : Obs [Ret Try.prog 158 [AD.one (D.sl 4 l0), AD.one (I n1), AD.one (I n2), AD.one (I n3)] [AD.one (I n5), AD.one (B b6)], b6 = true, decide (n5 ≤ n4) = false, Ret Try.prog 102 [AD.one (D.sl 4 l0)] [AD.one (D.sl 4 l7)], RetG Try.prog 159 [GA.one (GC.gv 4 l7 none), GA.one (GC.ro (D.cl 160 [D.ptr [I n1, I n2, I n3, I n4]]))] [AD.one (D.sl 4 l9)], Ret Try.prog 76 [AD.one (D.sl 4 l9), AD.agg [I n1, I n2, I n3, I n4]] [AD.one (D.sl 4 l10)]]) :
    Ret Try.prog 155 [AD.one (D.sl 4 l0), AD.agg [I n1, I n2, I n3, I n4]] [AD.one (D.sl 4 l10), AD.one (B true)] :=
  .of [Ans.res [AD.one (I n5), AD.one (B b6)], Ans.br true, Ans.br false, Ans.res [AD.one (D.sl 4 l7)], Ans.resG [[some none], [none]] 0 [] [AD.one (D.sl 4 l9)], Ans.res [AD.one (D.sl 4 l10)]] _ Try.func155 rfl (by kernel_rfl) h

theorem impl_better_p2 (l0 : List (List D)) (n1 : Int) (n2 : Int) (n3 : Int) (n4 : Int) (n5 : Int) (b6 : Bool) (l7 : List (List D)) (l9 : List (List D)) (l10 : List (List D))
    (h : Obs [Ret Try.prog 158 [AD.one (D.sl 4 l0), AD.one (I n1), AD.one (I n2), AD.one (I n3)] [AD.one (I n5), AD.one (B b6)], b6 = false, Ret Try.prog 102 [AD.one (D.sl 4 l0)] [AD.one (D.sl 4 l7)], RetG Try.prog 159 [GA.one (GC.gv 4 l7 none), GA.one (GC.ro (D.cl 160 [D.ptr [I n1, I n2, I n3, I n4]]))] [AD.one (D.sl 4 l9)], Ret Try.prog 76 [AD.one (D.sl 4 l9), AD.agg [I n1, I n2, I n3, I n4]] [AD.one (D.sl 4 l10)]]) :
    Ret Try.prog 155 [AD.one (D.sl 4 l0), AD.agg [I n1, I n2, I n3, I n4]] [AD.one (D.sl 4 l10), AD.one (B true)] :=
  .of [Ans.res [AD.one (I n5), AD.one (B b6)], Ans.br false, Ans.res [AD.one (D.sl 4 l7)], Ans.resG [[some none], [none]] 0 [] [AD.one (D.sl 4 l9)], Ans.res [AD.one (D.sl 4 l10)]] _ Try.func155 rfl (by kernel_rfl) h

/- loop.example/g00973/impl.Recall -/

theorem impl_Recall_p0 (n0 : Int) (l1 : List (List D)) (n2 : Int) (n3 : Int) (n4 : Int) (n5 : Int) (l6 : List (List D)) (b7 : Bool)
    (h : Obs [(n0 == 5) = true, (n0 == 5) = true, Ret Try.prog 155 [AD.one (D.sl 4 l1), AD.agg [I n2, I n3, I n4, I n5]] [AD.one (D.sl 4 l6), AD.one (B b7)]]) :
    Ret Try.prog 145 [AD.one (I n0), AD.one (D.sl 4 l1), AD.agg [I n2, I n3, I n4, I n5]] [AD.one (D.sl 4 l6), AD.one (B b7)] :=
  .of [Ans.br true, Ans.br true, Ans.res [AD.one (D.sl 4 l6), AD.one (B b7)]] _ Try.func145 rfl (by kernel_rfl) h

theorem impl_Recall_p1 (n0 : Int) (l1 : List (List D)) (n2 : Int) (n3 : Int) (n4 : Int) (n5 : Int) (l6 : List (List D)) (b7 : Bool)
    (h : Obs [(n0 == 5) = false, (n0 == 8) = true, Ret Try.prog 155 [AD.one (D.sl 4 l1), AD.agg [I n2, I n3, I n4, I n5]] [AD.one (D.sl 4 l6), AD.one (B b7)]]) :
    Ret Try.prog 145 [AD.one (I n0), AD.one (D.sl 4 l1), AD.agg [I n2, I n3, I n4, I n5]] [AD.one (D.sl 4 l6), AD.one (B b7)] :=
  .of [Ans.br false, Ans.br true, Ans.res [AD.one (D.sl 4 l6), AD.one (B b7)]] _ Try.func145 rfl (by kernel_rfl) h

theorem impl_Recall_p2 (n0 : Int) (l1 : List (List D)) (n2 : Int) (n3 : Int) (n4 : Int) (n5 : Int) (l6 : List (List D)) (b7 : Bool)
    (h : Obs [(n0 == 5) = false, (n0 == 8) = false, (n0 == 6) = true, Ret Try.prog 76 [AD.one (D.sl 4 l1), AD.agg [I n2, I n3, I n4, I n5]] [AD.one (D.sl 4 l6)], Ret Try.prog 103 [AD.one (D.sl 4 l1), AD.agg [I n2, I n3, I n4, I n5]] [AD.one (B b7)]]) :
    Ret Try.prog 145 [AD.one (I n0), AD.one (D.sl 4 l1), AD.agg [I n2, I n3, I n4, I n5]] [AD.one (D.sl 4 l6), AD.one (B !b7)] :=
  .of [Ans.br false, Ans.br false, Ans.br true, Ans.res [AD.one (D.sl 4 l6)], Ans.res [AD.one (B b7)]] _ Try.func145 rfl (by kernel_rfl) h

theorem impl_Recall_p3 (n0 : Int) (l1 : List (List D)) (n2 : Int) (n3 : Int) (n4 : Int) (n5 : Int) (l6 : List (List D))
    (h : Obs [(n0 == 5) = false, (n0 == 8) = false, (n0 == 6) = false, Ret Try.prog 102 [AD.one (D.sl 4 l1)] [AD.one (D.sl 4 l6)]]) :
    Ret Try.prog 145 [AD.one (I n0), AD.one (D.sl 4 l1), AD.agg [I n2, I n3, I n4, I n5]] [AD.one (D.sl 4 l6), AD.one (B true)] :=
  .of [Ans.br false, Ans.br false, Ans.br false, Ans.res [AD.one (D.sl 4 l6)]] _ Try.func145 rfl (by kernel_rfl) h

/- loop.example/g00973/spec.l02Order -/

theorem spec_l02Order_p0 (n0 : Int) (n1 : Int)
    (h : Obs [decide (n0 < n1) = true]) :
    Ret Try.prog 130 [AD.one (I n0), AD.one (I n1)] [AD.one (I (-1))] :=
  .of [Ans.br true] _ Try.func130 rfl (by kernel_rfl) h

theorem spec_l02Order_p1 (n0 : Int) (n1 : Int)
    (h : Obs [decide (n0 < n1) = false, decide (n0 > n1) = true]) :
    Ret Try.prog 130 [AD.one (I n0), AD.one (I n1)] [AD.one (I 1)] :=
  .of [Ans.br false, Ans.br true] _ Try.func130 rfl (by kernel_rfl) h

theorem spec_l02Order_p2 (n0 : Int) (n1 : Int)
    (h : Obs [decide (n0 < n1) = false, decide (n0 > n1) = false]) :
    Ret Try.prog 130 [AD.one (I n0), AD.one (I n1)] [AD.one (I 0)] :=
  .of [Ans.br false, Ans.br false] _ Try.func130 rfl (by kernel_rfl) h

/- loop.example/g00973/spec.CellOrder -/

def spec_CellOrder_L0 (n0 : Int) (n1 : Int) (n2 : Int) (n3 : Int) (n4 : Int) : St :=
  { env := envOf 41 [(5, PV.al (AL.one (Leaf.sl (Tag.own 27) 1 [[I n0], [I n1], [I n2], [I n3]]))), (6, PV.al (AL.one (Leaf.v (Value.int IntKind.i64 n4))))], boxes := [] }

def spec_CellOrder_X0 (n0 : Int) : St :=
  { env := envOf 41 [(4, PV.al (AL.one (Leaf.v (Value.int IntKind.i64 n0))))], boxes := [] }

theorem spec_CellOrder_L0_x0 (n8 : Int) (n9 : Int) (n10 : Int) (n11 : Int) (n12 : Int) (n13 : Int) (n14 : Int)
    (h : Obs [decide (n12 < 4) = true, 0 ≤ n12, n12 < (↑[[I n8], [I n9], [I n10], [I n11]].length : Int), [[I n8], [I n9], [I n10], [I n11]][n12.toNat]? = some [I n13], (n13 != 0) = true, 0 ≤ n12, n12 < (↑[[I n8], [I n9], [I n10], [I n11]].length : Int), [[I n8], [I n9], [I n10], [I n11]][n12.toNat]? = some [I n14]]) :
    Tr Try.prog (loopOf Try.f101 0) (spec_CellOrder_L0 n8 n9 n10 n11 n12) Ex.ret (spec_CellOrder_X0 n14) :=
  .of_loopc (ks := [4]) (bs := []) (ans := [Ans.br true, Ans.el [I n13], Ans.br true, Ans.el [I n14]]) (by kernel_rfl) h

theorem spec_CellOrder_L0_s1 (n8 : Int) (n9 : Int) (n10 : Int) (n11 : Int) (n12 : Int) (n13 : Int)
    (h : Obs [decide (n12 < 4) = true, 0 ≤ n12, n12 < (↑[[I n8], [I n9], [I n10], [I n11]].length : Int), [[I n8], [I n9], [I n10], [I n11]][n12.toNat]? = some [I n13], (n13 != 0) = false, inInt IntKind.i64 (n12 + 1)]) :
    Tr Try.prog (loopOf Try.f101 0) (spec_CellOrder_L0 n8 n9 n10 n11 n12) Ex.normal (spec_CellOrder_L0 n8 n9 n10 n11 (n12 + 1)) :=
  .of_loopc (ks := [6, 5]) (bs := []) (ans := [Ans.br true, Ans.el [I n13], Ans.br false]) (by kernel_rfl) h

def spec_CellOrder_X0v2 : St :=
  { env := envOf 41 [], boxes := [] }

theorem spec_CellOrder_L0_x2 (n8 : Int) (n9 : Int) (n10 : Int) (n11 : Int) (n12 : Int)
    (h : Obs [decide (n12 < 4) = false]) :
    Tr Try.prog (loopOf Try.f101 0) (spec_CellOrder_L0 n8 n9 n10 n11 n12) (Ex.exit 0) spec_CellOrder_X0v2 :=
  .of_loopc (ks := []) (bs := []) (ans := [Ans.br false]) (by kernel_rfl) h

theorem spec_CellOrder_p0 (n0 : Int) (n1 : Int) (n2 : Int) (n3 : Int) (n4 : Int) (n5 : Int) (n6 : Int) (n7 : Int) (n8 : Int) (n9 : Int) (n10 : Int) (n11 : Int) (n12 : Int)
    (h : Obs [Ret Try.prog 130 [AD.one (I n1), AD.one (I n5)] [AD.one (I n8)], Ret Try.prog 130 [AD.one (I n0), AD.one (I n4)] [AD.one (I n9)], Ret Try.prog 130 [AD.one (I n2), AD.one (I n6)] [AD.one (I n10)], Ret Try.prog 130 [AD.one (I n3), AD.one (I n7)] [AD.one (I n11)], LoopOk Try.prog (loopOf Try.f101 0) (spec_CellOrder_L0 n8 n9 n10 n11 0) Ex.ret (spec_CellOrder_X0 n12)]) :
    Ret Try.prog 101 [AD.agg [I n0, I n1, I n2, I n3], AD.agg [I n4, I n5, I n6, I n7]] [AD.one (I n12)] :=
  .of [Ans.res [AD.one (I n8)], Ans.res [AD.one (I n9)], Ans.res [AD.one (I n10)], Ans.res [AD.one (I n11)], Ans.loop [] [6, 5] [] Ex.ret (spec_CellOrder_X0 n12)] _ Try.func101 rfl (by kernel_rfl) h

theorem spec_CellOrder_p1 (n0 : Int) (n1 : Int) (n2 : Int) (n3 : Int) (n4 : Int) (n5 : Int) (n6 : Int) (n7 : Int) (n8 : Int) (n9 : Int) (n10 : Int) (n11 : Int)
    (h : Obs [Ret Try.prog 130 [AD.one (I n1), AD.one (I n5)] [AD.one (I n8)], Ret Try.prog 130 [AD.one (I n0), AD.one (I n4)] [AD.one (I n9)], Ret Try.prog 130 [AD.one (I n2), AD.one (I n6)] [AD.one (I n10)], Ret Try.prog 130 [AD.one (I n3), AD.one (I n7)] [AD.one (I n11)], LoopOk Try.prog (loopOf Try.f101 0) (spec_CellOrder_L0 n8 n9 n10 n11 0) (Ex.exit 0) spec_CellOrder_X0v2]) :
    Ret Try.prog 101 [AD.agg [I n0, I n1, I n2, I n3], AD.agg [I n4, I n5, I n6, I n7]] [AD.one (I 0)] :=
  .of [Ans.res [AD.one (I n8)], Ans.res [AD.one (I n9)], Ans.res [AD.one (I n10)], Ans.res [AD.one (I n11)], Ans.loop [] [6, 5] [] (Ex.exit 0) spec_CellOrder_X0v2] _ Try.func101 rfl (by kernel_rfl) h

/- loop.example/g00973/spec.HasCell -/

def spec_HasCell_L0 (l0 : List (List D)) (n1 : Int) (n2 : Int) (n3 : Int) (n4 : Int) (n5 : Int) : St :=
  { env := envOf 18 [(0, PV.al (AL.one (Leaf.sl Tag.free 4 l0))), (3, PV.al (AL.one (Leaf.ptr 3 0))), (5, PV.al (AL.one (Leaf.v (Value.int IntKind.i64 n5))))], boxes := [(3, [Leaf.v (Value.int IntKind.i64 n1), Leaf.v (Value.int IntKind.i64 n2), Leaf.v (Value.int IntKind.i64 n3), Leaf.v (Value.int IntKind.i64 n4)])] }

def spec_HasCell_X0 (b0 : Bool) : St :=
  { env := envOf 18 [(4, PV.al (AL.one (Leaf.sb b0)))], boxes := [] }

theorem spec_HasCell_L0_x0 (l0 : List (List D)) (n1 : Int) (n2 : Int) (n3 : Int) (n4 : Int) (n5 : Int) (n6 : Int) (n7 : Int) (n8 : Int) (n9 : Int)
    (h : Obs [decide (n5 < (↑l0.length : Int)) = true, 0 ≤ n5, n5 < (↑l0.length : Int), l0[n5.toNat]? = some [I n6, I n7, I n8, I n9], (n6 == n1 && (n7 == n2 && (n8 == n3 && n9 == n4))) = true]) :
    Tr Try.prog (loopOf Try.f100 0) (spec_HasCell_L0 l0 n1 n2 n3 n4 n5) Ex.ret (spec_HasCell_X0 true) :=
  .of_loopc (ks := [4]) (bs := []) (ans := [Ans.br true, Ans.el [I n6, I n7, I n8, I n9], Ans.br true]) (by kernel_rfl) h

theorem spec_HasCell_L0_s1 (l0 : List (List D)) (n1 : Int) (n2 : Int) (n3 : Int) (n4 : Int) (n5 : Int) (n6 : Int) (n7 : Int) (n8 : Int) (n9 : Int)
    (h : Obs [decide (n5 < (↑l0.length : Int)) = true, 0 ≤ n5, n5 < (↑l0.length : Int), l0[n5.toNat]? = some [I n6, I n7, I n8, I n9], (n6 == n1 && (n7 == n2 && (n8 == n3 && n9 == n4))) = false, inInt IntKind.i64 (n5 + 1)]) :
    Tr Try.prog (loopOf Try.f100 0) (spec_HasCell_L0 l0 n1 n2 n3 n4 n5) Ex.normal (spec_HasCell_L0 l0 n1 n2 n3 n4 (n5 + 1)) :=
  .of_loopc (ks := [5, 0, 3]) (bs := [3]) (ans := [Ans.br true, Ans.el [I n6, I n7, I n8, I n9], Ans.br false]) (by kernel_rfl) h

def spec_HasCell_X0v2 : St :=
  { env := envOf 18 [], boxes := [] }

theorem spec_HasCell_L0_x2 (l0 : List (List D)) (n1 : Int) (n2 : Int) (n3 : Int) (n4 : Int) (n5 : Int)
    (h : Obs [decide (n5 < (↑l0.length : Int)) = false]) :
    Tr Try.prog (loopOf Try.f100 0) (spec_HasCell_L0 l0 n1 n2 n3 n4 n5) (Ex.exit 0) spec_HasCell_X0v2 :=
  .of_loopc (ks := []) (bs := []) (ans := [Ans.br false]) (by kernel_rfl) h

theorem spec_HasCell_p0 (l0 : List (List D)) (n1 : Int) (n2 : Int) (n3 : Int) (n4 : Int) (b5 : Bool)
    (h : Obs [LoopOk Try.prog (loopOf Try.f100 0) (spec_HasCell_L0 l0 n1 n2 n3 n4 0) Ex.ret (spec_HasCell_X0 b5)]) :
    Ret Try.prog 100 [AD.one (D.sl 4 l0), AD.agg [I n1, I n2, I n3, I n4]] [AD.one (B b5)] :=
  .of [Ans.loop [] [5, 0, 3] [3] Ex.ret (spec_HasCell_X0 b5)] _ Try.func100 rfl (by kernel_rfl) h

theorem spec_HasCell_p1 (l0 : List (List D)) (n1 : Int) (n2 : Int) (n3 : Int) (n4 : Int)
    (h : Obs [LoopOk Try.prog (loopOf Try.f100 0) (spec_HasCell_L0 l0 n1 n2 n3 n4 0) (Ex.exit 0) spec_HasCell_X0v2]) :
    Ret Try.prog 100 [AD.one (D.sl 4 l0), AD.agg [I n1, I n2, I n3, I n4]] [AD.one (B false)] :=
  .of [Ans.loop [] [5, 0, 3] [3] (Ex.exit 0) spec_HasCell_X0v2] _ Try.func100 rfl (by kernel_rfl) h

/- loop.example/g00973/spec.PutCell -/

theorem spec_PutCell_p0 (l0 : List (List D)) (n1 : Int) (n2 : Int) (n3 : Int) (n4 : Int) (b5 : Bool)
    (h : Obs [Ret Try.prog 100 [AD.one (D.sl 4 l0), AD.agg [I n1, I n2, I n3, I n4]] [AD.one (B b5)], b5 = true, (([] : List (List D)).length + l0.length) * 32 ≤ 140737488355328, ([] : List (List D)).length + l0.length ≤ 9223372036854775807, Flat l0]) :
    Ret Try.prog 75 [AD.one (D.sl 4 l0), AD.agg [I n1, I n2, I n3, I n4]] [AD.one (D.sl 4 ([] ++ l0))] :=
  .of [Ans.res [AD.one (B b5)], Ans.br true] _ Try.func75 rfl (by kernel_rfl) h

def spec_PutCell_L0 (l0 : List (List D)) (n1 : Int) (n2 : Int) (n3 : Int) (n4 : Int) (n5 : Int) : St :=
  { env := envOf 41 [(0, PV.al (AL.one (Leaf.sl Tag.free 4 l0))), (3, PV.al (AL.one (Leaf.ptr 3 0))), (5, PV.al (AL.one (Leaf.v (Value.int IntKind.i64 n5))))], boxes := [(3, [Leaf.v (Value.int IntKind.i64 n1), Leaf.v (Value.int IntKind.i64 n2), Leaf.v (Value.int IntKind.i64 n3), Leaf.v (Value.int IntKind.i64 n4)])] }

theorem spec_PutCell_L0_s0 (l0 : List (List D)) (n1 : Int) (n2 : Int) (n3 : Int) (n4 : Int) (n6 : Int) (n7 : Int) (n8 : Int) (n9 : Int) (n10 : Int) (n11 : Int)
    (h : Obs [decide (n6 < (↑l0.length : Int)) = true, 0 ≤ n6, n6 < (↑l0.length : Int), l0[n6.toNat]? = some [I n7, I n8, I n9, I n10], Ret Try.prog 101 [AD.agg [I n7, I n8, I n9, I n10], AD.agg [I n1, I n2, I n3, I n4]] [AD.one (I n11)], decide (n11 < 0) = true, inInt IntKind.i64 (n6 + 1)]) :
    Tr Try.prog (loopOf Try.f75 0) (spec_PutCell_L0 l0 n1 n2 n3 n4 n6) Ex.normal (spec_PutCell_L0 l0 n1 n2 n3 n4 (n6 + 1)) :=
  .of_loopc (ks := [5, 0, 3]) (bs := [3]) (ans := [Ans.br true, Ans.el [I n7, I n8, I n9, I n10], Ans.res [AD.one (I n11)], Ans.br true]) (by kernel_rfl) h

def spec_PutCell_X0 (l0 : List (List D)) (n1 : Int) (n2 : Int) (n3 : Int) (n4 : Int) (n5 : Int) : St :=
  { env := envOf 41 [(0, PV.al (AL.one (Leaf.sl Tag.free 4 l0))), (3, PV.al (AL.one (Leaf.ptr 3 0))), (5, PV.al (AL.one (Leaf.v (Value.int IntKind.i64 n5))))], boxes := [(3, [Leaf.v (Value.int IntKind.i64 n1), Leaf.v (Value.int IntKind.i64 n2), Leaf.v (Value.int IntKind.i64 n3), Leaf.v (Value.int IntKind.i64 n4)])] }

theorem spec_PutCell_L0_x1 (l0 : List (List D)) (n1 : Int) (n2 : Int) (n3 : Int) (n4 : Int) (n6 : Int) (n7 : Int) (n8 : Int) (n9 : Int) (n10 : Int) (n11 : Int)
    (h : Obs [decide (n6 < (↑l0.length : Int)) = true, 0 ≤ n6, n6 < (↑l0.length : Int), l0[n6.toNat]? = some [I n7, I n8, I n9, I n10], Ret Try.prog 101 [AD.agg [I n7, I n8, I n9, I n10], AD.agg [I n1, I n2, I n3, I n4]] [AD.one (I n11)], decide (n11 < 0) = false]) :
    Tr Try.prog (loopOf Try.f75 0) (spec_PutCell_L0 l0 n1 n2 n3 n4 n6) (Ex.exit 0) (spec_PutCell_X0 l0 n1 n2 n3 n4 n6) :=
  .of_loopc (ks := [0, 5, 3]) (bs := [3]) (ans := [Ans.br true, Ans.el [I n7, I n8, I n9, I n10], Ans.res [AD.one (I n11)], Ans.br false]) (by kernel_rfl) h

theorem spec_PutCell_L0_x2 (l0 : List (List D)) (n1 : Int) (n2 : Int) (n3 : Int) (n4 : Int) (n6 : Int)
    (h : Obs [decide (n6 < (↑l0.length : Int)) = false]) :
    Tr Try.prog (loopOf Try.f75 0) (spec_PutCell_L0 l0 n1 n2 n3 n4 n6) (Ex.exit 0) (spec_PutCell_X0 l0 n1 n2 n3 n4 n6) :=
  .of_loopc (ks := [0, 5, 3]) (bs := [3]) (ans := [Ans.br false]) (by kernel_rfl) h

theorem spec_PutCell_p1 (l0 : List (List D)) (n1 : Int) (n2 : Int) (n3 : Int) (n4 : Int) (b5 : Bool) (n6 : Int)
    (h : Obs [Ret Try.prog 100 [AD.one (D.sl 4 l0), AD.agg [I n1, I n2, I n3, I n4]] [AD.one (B b5)], b5 = false, LoopOk Try.prog (loopOf Try.f75 0) (spec_PutCell_L0 l0 n1 n2 n3 n4 0) (Ex.exit 0) (spec_PutCell_X0 l0 n1 n2 n3 n4 n6), (0 : Int) ≤ none.getD 0, none.getD 0 ≤ (some n6).getD (↑l0.length : Int), (some n6).getD (↑l0.length : Int) ≤ (↑l0.length : Int), (([] : List (List D)).length + (List.take (((some n6).getD (↑l0.length : Int)).toNat - 0) (List.drop 0 l0)).length) * 32 ≤ 140737488355328, ([] : List (List D)).length + (List.take (((some n6).getD (↑l0.length : Int)).toNat - 0) (List.drop 0 l0)).length ≤ 9223372036854775807, Flat (List.take (((some n6).getD (↑l0.length : Int)).toNat - 0) (List.drop 0 l0)), (([] ++ List.take (((some n6).getD (↑l0.length : Int)).toNat - 0) (List.drop 0 l0)).length + [[I n1, I n2, I n3, I n4]].length) * 32 ≤ 140737488355328, ([] ++ List.take (((some n6).getD (↑l0.length : Int)).toNat - 0) (List.drop 0 l0)).length + [[I n1, I n2, I n3, I n4]].length ≤ 9223372036854775807, Flat [[I n1, I n2, I n3, I n4]], 0 ≤ (some n6).getD 0, (some n6).getD 0 ≤ none.getD (↑l0.length : Int), none.getD (↑l0.length : Int) ≤ (↑l0.length : Int), (([] ++ List.take (((some n6).getD (↑l0.length : Int)).toNat - 0) (List.drop 0 l0) ++ [[I n1, I n2, I n3, I n4]]).length + (List.take (l0.length - ((some n6).getD 0).toNat) (List.drop ((some n6).getD 0).toNat l0)).length) * 32 ≤ 140737488355328, ([] ++ List.take (((some n6).getD (↑l0.length : Int)).toNat - 0) (List.drop 0 l0) ++ [[I n1, I n2, I n3, I n4]]).length + (List.take (l0.length - ((some n6).getD 0).toNat) (List.drop ((some n6).getD 0).toNat l0)).length ≤ 9223372036854775807, Flat (List.take (l0.length - ((some n6).getD 0).toNat) (List.drop ((some n6).getD 0).toNat l0))]) :
    Ret Try.prog 75 [AD.one (D.sl 4 l0), AD.agg [I n1, I n2, I n3, I n4]] [AD.one (D.sl 4 ([] ++ List.take (((some n6).getD (↑l0.length : Int)).toNat - 0) (List.drop 0 l0) ++ [[I n1, I n2, I n3, I n4]] ++ List.take (l0.length - ((some n6).getD 0).toNat) (List.drop ((some n6).getD 0).toNat l0)))] :=
  .of [Ans.res [AD.one (B b5)], Ans.br false, Ans.loop [] [5, 0, 3] [3] (Ex.exit 0) (spec_PutCell_X0 l0 n1 n2 n3 n4 n6)] _ Try.func75 rfl (by kernel_rfl) h

/- loop.example/g00973/spec.NodeOf -/

theorem spec_NodeOf_p0 (l0 : List (List D)) (n1 : Int) (n2 : Int) (n3 : Int) (b4 : Bool)
    (h : Obs [inInt IntKind.i64 ((↑l0.length : Int) - 1), Ret Try.prog 57 [AD.one (I n3), AD.one (I 0), AD.one (I ((↑l0.length : Int) - 1))] [AD.one (B b4)], (!b4) = true]) :
    Ret Try.prog 106 [AD.agg [D.sl 4 l0, I n1, I n2], AD.one (I n3)] [AD.agg [I 0, I 0, I 0, D.sl 1 []], AD.one (B false)] :=
  .of [Ans.res [AD.one (B b4)], Ans.br true] _ Try.func106 rfl (by kernel_rfl) h

theorem spec_NodeOf_p1 (l0 : List (List D)) (n1 : Int) (n2 : Int) (n3 : Int) (b4 : Bool) (n5 : Int) (n6 : Int) (n7 : Int) (l8 : List (List D))
    (h : Obs [inInt IntKind.i64 ((↑l0.length : Int) - 1), Ret Try.prog 57 [AD.one (I n3), AD.one (I 0), AD.one (I ((↑l0.length : Int) - 1))] [AD.one (B b4)], (!b4) = false, 0 ≤ n3, n3 < (↑l0.length : Int), l0[n3.toNat]? = some [I n5, I n6, I n7, D.sl 1 l8], (([] : List (List D)).length + l8.length) * 8 ≤ 140737488355328, ([] : List (List D)).length + l8.length ≤ 9223372036854775807, Flat l8]) :
    Ret Try.prog 106 [AD.agg [D.sl 4 l0, I n1, I n2], AD.one (I n3)] [AD.agg [I n5, I n6, I n7, D.sl 1 ([] ++ l8)], AD.one (B true)] :=
  .of [Ans.res [AD.one (B b4)], Ans.br false, Ans.el [I n5, I n6, I n7, D.sl 1 l8]] _ Try.func106 rfl (by kernel_rfl) h

/- loop.example/g00973/spec.OutsOnly -/

def spec_OutsOnly_L0 (l0 : List (List D)) (n1 : Int) (l2 : List (List D)) (l3 : List (List D)) (n4 : Int) (n5 : Int) : St :=
  { env := envOf 40 [(1, PV.al (AL.one (Leaf.sl Tag.free 4 l0))), (2, PV.al (AL.one (Leaf.ptr 2 0))), (5, PV.al (AL.one (Leaf.sl (Tag.own 9) 4 l2))), (6, PV.al (AL.one (Leaf.v (Value.int IntKind.i64 n1))))], boxes := [(2, [Leaf.sl Tag.free 4 l3, Leaf.v (Value.int IntKind.i64 n4), Leaf.v (Value.int IntKind.i64 n5)])] }

theorem spec_OutsOnly_L0_s0 (l3 : List (List D)) (n4 : Int) (l5 : List (List D)) (l6 : List (List D)) (n7 : Int) (n8 : Int) (n9 : Int) (n10 : Int) (n11 : Int) (n12 : Int) (n13 : Int) (n14 : Int) (n15 : Int) (l16 : List (List D)) (b17 : Bool) (n18 : Int) (n19 : Int) (n20 : Int) (n21 : Int)
    (h : Obs [decide (n4 < (↑l3.length : Int)) = true, 0 ≤ n4, n4 < (↑l3.length : Int), l3[n4.toNat]? = some [I n9, I n10, I n11, I n12], Ret Try.prog 106 [AD.agg [D.sl 4 l6, I n7, I n8], AD.one (I n9)] [AD.agg [I n13, I n14, I n15, D.sl 1 l16], AD.one (B b17)], b17 = true, (n13 == 8) = true, 0 ≤ n4, n4 < (↑l3.length : Int), l3[n4.toNat]? = some [I n18, I n19, I n20, I n21], (l5.length + [[I n18, I n19, I n20, I n21]].length) * 32 ≤ 140737488355328, l5.length + [[I n18, I n19, I n20, I n21]].length ≤ 9223372036854775807, Flat [[I n18, I n19, I n20, I n21]], inInt IntKind.i64 (n4 + 1)]) :
    Tr Try.prog (loopOf Try.f78 0) (spec_OutsOnly_L0 l3 n4 l5 l6 n7 n8) Ex.normal (spec_OutsOnly_L0 l3 (n4 + 1) (l5 ++ [[I n18, I n19, I n20, I n21]]) l6 n7 n8) :=
  .of_loopc (ks := [6, 1, 2, 5]) (bs := [2]) (ans := [Ans.br true, Ans.el [I n9, I n10, I n11, I n12], Ans.res [AD.agg [I n13, I n14, I n15, D.sl 1 l16], AD.one (B b17)], Ans.br true, Ans.br true, Ans.el [I n18, I n19, I n20, I n21]]) (by kernel_rfl) h

theorem spec_OutsOnly_L0_s1 (l3 : List (List D)) (n4 : Int) (l5 : List (List D)) (l6 : List (List D)) (n7 : Int) (n8 : Int) (n9 : Int) (n10 : Int) (n11 : Int) (n12 : Int) (n13 : Int) (n14 : Int) (n15 : Int) (l16 : List (List D)) (b17 : Bool)
    (h : Obs [decide (n4 < (↑l3.length : Int)) = true, 0 ≤ n4, n4 < (↑l3.length : Int), l3[n4.toNat]? = some [I n9, I n10, I n11, I n12], Ret Try.prog 106 [AD.agg [D.sl 4 l6, I n7, I n8], AD.one (I n9)] [AD.agg [I n13, I n14, I n15, D.sl 1 l16], AD.one (B b17)], b17 = true, (n13 == 8) = false, inInt IntKind.i64 (n4 + 1)]) :
    Tr Try.prog (loopOf Try.f78 0) (spec_OutsOnly_L0 l3 n4 l5 l6 n7 n8) Ex.normal (spec_OutsOnly_L0 l3 (n4 + 1) l5 l6 n7 n8) :=
  .of_loopc (ks := [6, 1, 2, 5]) (bs := [2]) (ans := [Ans.br true, Ans.el [I n9, I n10, I n11, I n12], Ans.res [AD.agg [I n13, I n14, I n15, D.sl 1 l16], AD.one (B b17)], Ans.br true, Ans.br false]) (by kernel_rfl) h

theorem spec_OutsOnly_L0_s2 (l3 : List (List D)) (n4 : Int) (l5 : List (List D)) (l6 : List (List D)) (n7 : Int) (n8 : Int) (n9 : Int) (n10 : Int) (n11 : Int) (n12 : Int) (n13 : Int) (n14 : Int) (n15 : Int) (l16 : List (List D)) (b17 : Bool)
    (h : Obs [decide (n4 < (↑l3.length : Int)) = true, 0 ≤ n4, n4 < (↑l3.length : Int), l3[n4.toNat]? = some [I n9, I n10, I n11, I n12], Ret Try.prog 106 [AD.agg [D.sl 4 l6, I n7, I n8], AD.one (I n9)] [AD.agg [I n13, I n14, I n15, D.sl 1 l16], AD.one (B b17)], b17 = false, inInt IntKind.i64 (n4 + 1)]) :
    Tr Try.prog (loopOf Try.f78 0) (spec_OutsOnly_L0 l3 n4 l5 l6 n7 n8) Ex.normal (spec_OutsOnly_L0 l3 (n4 + 1) l5 l6 n7 n8) :=
  .of_loopc (ks := [6, 1, 2, 5]) (bs := [2]) (ans := [Ans.br true, Ans.el [I n9, I n10, I n11, I n12], Ans.res [AD.agg [I n13, I n14, I n15, D.sl 1 l16], AD.one (B b17)], Ans.br false]) (by kernel_rfl) h

def spec_OutsOnly_X0 (l0 : List (List D)) : St :=
  { env := envOf 40 [(5, PV.al (AL.one (Leaf.sl (Tag.own 9) 4 l0)))], boxes := [] }

theorem spec_OutsOnly_L0_x3 (l3 : List (List D)) (n4 : Int) (l5 : List (List D)) (l6 : List (List D)) (n7 : Int) (n8 : Int)
    (h : Obs [decide (n4 < (↑l3.length : Int)) = false]) :
    Tr Try.prog (loopOf Try.f78 0) (spec_OutsOnly_L0 l3 n4 l5 l6 n7 n8) (Ex.exit 0) (spec_OutsOnly_X0 l5) :=
  .of_loopc (ks := [5]) (bs := []) (ans := [Ans.br false]) (by kernel_rfl) h

theorem spec_OutsOnly_p0 (l0 : List (List D)) (n1 : Int) (n2 : Int) (l3 : List (List D)) (l4 : List (List D))
    (h : Obs [LoopOk Try.prog (loopOf Try.f78 0) (spec_OutsOnly_L0 l3 0 [] l0 n1 n2) (Ex.exit 0) (spec_OutsOnly_X0 l4)]) :
    Ret Try.prog 78 [AD.agg [D.sl 4 l0, I n1, I n2], AD.one (D.sl 4 l3)] [AD.one (D.sl 4 l4)] :=
  .of [Ans.loop [] [6, 1, 2, 5] [2] (Ex.exit 0) (spec_OutsOnly_X0 l4)] _ Try.func78 rfl (by kernel_rfl) h

/- loop.example/g00973/spec.CellsIn -/

/- loop.example/g00973/spec.OutCells -/

/- loop.example/g00973/spec.LeastOf -/

def spec_LeastOf_L0 (l0 : List (List D)) (n1 : Int) (n2 : Int) (n3 : Int) (n4 : Int) (b5 : Bool) (n6 : Int) : St :=
  { env := envOf 54 [(0, PV.al (AL.one (Leaf.sl Tag.free 4 l0))), (1, PV.al (AL.one (Leaf.v (Value.int IntKind.i64 n1)))), (2, PV.al (AL.one (Leaf.v (Value.int IntKind.i64 n2)))), (3, PV.al (AL.one (Leaf.v (Value.int IntKind.i64 n3)))), (10, PV.al (AL.one (Leaf.v (Value.int IntKind.i64 n6)))), (11, PV.al (AL.one (Leaf.sb b5))), (12, PV.al (AL.one (Leaf.v (Value.int IntKind.i64 n4))))], boxes := [] }

theorem spec_LeastOf_L0_s0 (l0 : List (List D)) (n1 : Int) (n2 : Int) (n3 : Int) (n4 : Int) (b5 : Bool) (n6 : Int) (n7 : Int) (n8 : Int) (n9 : Int) (n10 : Int)
    (h : Obs [decide (n4 < (↑l0.length : Int)) = true, 0 ≤ n4, n4 < (↑l0.length : Int), l0[n4.toNat]? = some [I n7, I n8, I n9, I n10], (n7 == n1) = true, (n8 == n2) = true, (n9 == n3) = true, (!b5) = true, inInt IntKind.i64 (n4 + 1)]) :
    Tr Try.prog (loopOf Try.f154 0) (spec_LeastOf_L0 l0 n1 n2 n3 n4 b5 n6) Ex.normal (spec_LeastOf_L0 l0 n1 n2 n3 (n4 + 1) true n10) :=
  .of_loopc (ks := [12, 0, 1, 2, 3, 11, 10]) (bs := []) (ans := [Ans.br true, Ans.el [I n7, I n8, I n9, I n10], Ans.br true, Ans.br true, Ans.br true, Ans.br true]) (by kernel_rfl) h

theorem spec_LeastOf_L0_s1 (l0 : List (List D)) (n1 : Int) (n2 : Int) (n3 : Int) (n4 : Int) (b5 : Bool) (n6 : Int) (n7 : Int) (n8 : Int) (n9 : Int) (n10 : Int)
    (h : Obs [decide (n4 < (↑l0.length : Int)) = true, 0 ≤ n4, n4 < (↑l0.length : Int), l0[n4.toNat]? = some [I n7, I n8, I n9, I n10], (n7 == n1) = true, (n8 == n2) = true, (n9 == n3) = true, (!b5) = false, decide (n10 < n6) = true, inInt IntKind.i64 (n4 + 1)]) :
    Tr Try.prog (loopOf Try.f154 0) (spec_LeastOf_L0 l0 n1 n2 n3 n4 b5 n6) Ex.normal (spec_LeastOf_L0 l0 n1 n2 n3 (n4 + 1) true n10) :=
  .of_loopc (ks := [12, 0, 1, 2, 3, 11, 10]) (bs := []) (ans := [Ans.br true, Ans.el [I n7, I n8, I n9, I n10], Ans.br true, Ans.br true, Ans.br true, Ans.br false, Ans.br true]) (by kernel_rfl) h

theorem spec_LeastOf_L0_s2 (l0 : List (List D)) (n1 : Int) (n2 : Int) (n3 : Int) (n4 : Int) (b5 : Bool) (n6 : Int) (n7 : Int) (n8 : Int) (n9 : Int) (n10 : Int)
    (h : Obs [decide (n4 < (↑l0.length : Int)) = true, 0 ≤ n4, n4 < (↑l0.length : Int), l0[n4.toNat]? = some [I n7, I n8, I n9, I n10], (n7 == n1) = true, (n8 == n2) = true, (n9 == n3) = true, (!b5) = false, decide (n10 < n6) = false, inInt IntKind.i64 (n4 + 1)]) :
    Tr Try.prog (loopOf Try.f154 0) (spec_LeastOf_L0 l0 n1 n2 n3 n4 b5 n6) Ex.normal (spec_LeastOf_L0 l0 n1 n2 n3 (n4 + 1) b5 n6) :=
  .of_loopc (ks := [12, 0, 1, 2, 3, 11, 10]) (bs := []) (ans := [Ans.br true, Ans.el [I n7, I n8, I n9, I n10], Ans.br true, Ans.br true, Ans.br true, Ans.br false, Ans.br false]) (by kernel_rfl) h

theorem spec_LeastOf_L0_s3 (l0 : List (List D)) (n1 : Int) (n2 : Int) (n3 : Int) (n4 : Int) (b5 : Bool) (n6 : Int) (n7 : Int) (n8 : Int) (n9 : Int) (n10 : Int)
    (h : Obs [decide (n4 < (↑l0.length : Int)) = true, 0 ≤ n4, n4 < (↑l0.length : Int), l0[n4.toNat]? = some [I n7, I n8, I n9, I n10], (n7 == n1) = true, (n8 == n2) = true, (n9 == n3) = false, inInt IntKind.i64 (n4 + 1)]) :
    Tr Try.prog (loopOf Try.f154 0) (spec_LeastOf_L0 l0 n1 n2 n3 n4 b5 n6) Ex.normal (spec_LeastOf_L0 l0 n1 n2 n3 (n4 + 1) b5 n6) :=
  .of_loopc (ks := [12, 0, 1, 2, 3, 11, 10]) (bs := []) (ans := [Ans.br true, Ans.el [I n7, I n8, I n9, I n10], Ans.br true, Ans.br true, Ans.br false]) (by kernel_rfl) h

theorem spec_LeastOf_L0_s4 (l0 : List (List D)) (n1 : Int) (n2 : Int) (n3 : Int) (n4 : Int) (b5 : Bool) (n6 : Int) (n7 : Int) (n8 : Int) (n9 : Int) (n10 : Int)
    (h : Obs [decide (n4 < (↑l0.length : Int)) = true, 0 ≤ n4, n4 < (↑l0.length : Int), l0[n4.toNat]? = some [I n7, I n8, I n9, I n10], (n7 == n1) = true, (n8 == n2) = false, inInt IntKind.i64 (n4 + 1)]) :
    Tr Try.prog (loopOf Try.f154 0) (spec_LeastOf_L0 l0 n1 n2 n3 n4 b5 n6) Ex.normal (spec_LeastOf_L0 l0 n1 n2 n3 (n4 + 1) b5 n6) :=
  .of_loopc (ks := [12, 0, 1, 2, 3, 11, 10]) (bs := []) (ans := [Ans.br true, Ans.el [I n7, I n8, I n9, I n10], Ans.br true, Ans.br false]) (by kernel_rfl) h

theorem spec_LeastOf_L0_s5 (l0 : List (List D)) (n1 : Int) (n2 : Int) (n3 : Int) (n4 : Int) (b5 : Bool) (n6 : Int) (n7 : Int) (n8 : Int) (n9 : Int) (n10 : Int)
    (h : Obs [decide (n4 < (↑l0.length : Int)) = true, 0 ≤ n4, n4 < (↑l0.length : Int), l0[n4.toNat]? = some [I n7, I n8, I n9, I n10], (n7 == n1) = false, inInt IntKind.i64 (n4 + 1)]) :
    Tr Try.prog (loopOf Try.f154 0) (spec_LeastOf_L0 l0 n1 n2 n3 n4 b5 n6) Ex.normal (spec_LeastOf_L0 l0 n1 n2 n3 (n4 + 1) b5 n6) :=
  .of_loopc (ks := [12, 0, 1, 2, 3, 11, 10]) (bs := []) (ans := [Ans.br true, Ans.el [I n7, I n8, I n9, I n10], Ans.br false]) (by kernel_rfl) h

def spec_LeastOf_X0 (n0 : Int) (b1 : Bool) : St :=
  { env := envOf 54 [(10, PV.al (AL.one (Leaf.v (Value.int IntKind.i64 n0)))), (11, PV.al (AL.one (Leaf.sb b1)))], boxes := [] }

theorem spec_LeastOf_L0_x6 (l0 : List (List D)) (n1 : Int) (n2 : Int) (n3 : Int) (n4 : Int) (b5 : Bool) (n6 : Int)
    (h : Obs [decide (n4 < (↑l0.length : Int)) = false]) :
    Tr Try.prog (loopOf Try.f154 0) (spec_LeastOf_L0 l0 n1 n2 n3 n4 b5 n6) (Ex.exit 0) (spec_LeastOf_X0 n6 b5) :=
  .of_loopc (ks := [10, 11]) (bs := []) (ans := [Ans.br false]) (by kernel_rfl) h

theorem spec_LeastOf_p0 (l0 : List (List D)) (n1 : Int) (n2 : Int) (n3 : Int) (n4 : Int) (b5 : Bool)
    (h : Obs [LoopOk Try.prog (loopOf Try.f154 0) (spec_LeastOf_L0 l0 n1 n2 n3 0 false 0) (Ex.exit 0) (spec_LeastOf_X0 n4 b5)]) :
    Ret Try.prog 154 [AD.one (D.sl 4 l0), AD.one (I n1), AD.one (I n2), AD.one (I n3)] [AD.one (I n4), AD.one (B b5)] :=
  .of [Ans.loop [] [12, 0, 1, 2, 3, 11, 10] [] (Ex.exit 0) (spec_LeastOf_X0 n4 b5)] _ Try.func154 rfl (by kernel_rfl) h

/- loop.example/g00973/spec.Remembers -/

theorem spec_Remembers_p0 (n0 : Int)
    (h : Obs [(n0 == 5) = true]) :
    Ret Try.prog 139 [AD.one (I n0)] [AD.one (B true)] :=
  .of [Ans.br true] _ Try.func139 rfl (by kernel_rfl) h

theorem spec_Remembers_p1 (n0 : Int)
    (h : Obs [(n0 == 5) = false, (n0 == 6) = true]) :
    Ret Try.prog 139 [AD.one (I n0)] [AD.one (B true)] :=
  .of [Ans.br false, Ans.br true] _ Try.func139 rfl (by kernel_rfl) h

theorem spec_Remembers_p2 (n0 : Int)
    (h : Obs [(n0 == 5) = false, (n0 == 6) = false]) :
    Ret Try.prog 139 [AD.one (I n0)] [AD.one (B (n0 == 8))] :=
  .of [Ans.br false, Ans.br false] _ Try.func139 rfl (by kernel_rfl) h

/- loop.example/g00973/spec.Recall -/

theorem spec_Recall_p0 (n0 : Int) (l1 : List (List D)) (n2 : Int) (n3 : Int) (n4 : Int) (n5 : Int) (b6 : Bool)
    (h : Obs [(([] : List (List D)).length + l1.length) * 32 ≤ 140737488355328, ([] : List (List D)).length + l1.length ≤ 9223372036854775807, Flat l1, (n0 == 6) = true, Ret Try.prog 100 [AD.one (D.sl 4 l1), AD.agg [I n2, I n3, I n4, I n5]] [AD.one (B b6)], b6 = true]) :
    Ret Try.prog 140 [AD.one (I n0), AD.one (D.sl 4 l1), AD.agg [I n2, I n3, I n4, I n5]] [AD.one (D.sl 4 ([] ++ l1)), AD.one (B false)] :=
  .of [Ans.br true, Ans.res [AD.one (B b6)], Ans.br true] _ Try.func140 rfl (by kernel_rfl) h

theorem spec_Recall_p1 (n0 : Int) (l1 : List (List D)) (n2 : Int) (n3 : Int) (n4 : Int) (n5 : Int) (b6 : Bool) (l7 : List (List D))
    (h : Obs [(([] : List (List D)).length + l1.length) * 32 ≤ 140737488355328, ([] : List (List D)).length + l1.length ≤ 9223372036854775807, Flat l1, (n0 == 6) = true, Ret Try.prog 100 [AD.one (D.sl 4 l1), AD.agg [I n2, I n3, I n4, I n5]] [AD.one (B b6)], b6 = false, Ret Try.prog 75 [AD.one (D.sl 4 l1), AD.agg [I n2, I n3, I n4, I n5]] [AD.one (D.sl 4 l7)]]) :
    Ret Try.prog 140 [AD.one (I n0), AD.one (D.sl 4 l1), AD.agg [I n2, I n3, I n4, I n5]] [AD.one (D.sl 4 l7), AD.one (B true)] :=
  .of [Ans.br true, Ans.res [AD.one (B b6)], Ans.br false, Ans.res [AD.one (D.sl 4 l7)]] _ Try.func140 rfl (by kernel_rfl) h

theorem spec_Recall_p2 (n0 : Int) (l1 : List (List D)) (n2 : Int) (n3 : Int) (n4 : Int) (n5 : Int) (n6 : Int) (b7 : Bool)
    (h : Obs [(([] : List (List D)).length + l1.length) * 32 ≤ 140737488355328, ([] : List (List D)).length + l1.length ≤ 9223372036854775807, Flat l1, (n0 == 6) = false, (n0 == 5) = true, (n0 == 5) = true, Ret Try.prog 154 [AD.one (D.sl 4 l1), AD.one (I n2), AD.one (I n3), AD.one (I n4)] [AD.one (I n6), AD.one (B b7)], b7 = true, decide (n6 ≤ n5) = true]) :
    Ret Try.prog 140 [AD.one (I n0), AD.one (D.sl 4 l1), AD.agg [I n2, I n3, I n4, I n5]] [AD.one (D.sl 4 ([] ++ l1)), AD.one (B false)] :=
  .of [Ans.br false, Ans.br true, Ans.br true, Ans.res [AD.one (I n6), AD.one (B b7)], Ans.br true, Ans.br true] _ Try.func140 rfl (by kernel_rfl) h

def spec_Recall_L0 (l0 : List (List D)) (n1 : Int) (n2 : Int) (n3 : Int) (n4 : Int) (n5 : Int) (l6 : List (List D)) : St :=
  { env := envOf 94 [(1, PV.al (AL.one (Leaf.sl Tag.free 4 l0))), (5, PV.al (AL.one (Leaf.ptr 5 0))), (11, PV.al (AL.one (Leaf.sl (Tag.own 48) 4 l6))), (12, PV.al (AL.one (Leaf.v (Value.int IntKind.i64 n5))))], boxes := [(5, [Leaf.v (Value.int IntKind.i64 n1), Leaf.v (Value.int IntKind.i64 n2), Leaf.v (Value.int IntKind.i64 n3), Leaf.v (Value.int IntKind.i64 n4)])] }

theorem spec_Recall_L0_s0 (l1 : List (List D)) (n2 : Int) (n3 : Int) (n4 : Int) (n5 : Int) (n8 : Int) (l9 : List (List D)) (n10 : Int) (n11 : Int) (n12 : Int) (n13 : Int) (n14 : Int) (n15 : Int) (n16 : Int) (n17 : Int)
    (h : Obs [decide (n8 < (↑l1.length : Int)) = true, 0 ≤ n8, n8 < (↑l1.length : Int), l1[n8.toNat]? = some [I n10, I n11, I n12, I n13], (n10 != n2) = true, 0 ≤ n8, n8 < (↑l1.length : Int), l1[n8.toNat]? = some [I n14, I n15, I n16, I n17], (l9.length + [[I n14, I n15, I n16, I n17]].length) * 32 ≤ 140737488355328, l9.length + [[I n14, I n15, I n16, I n17]].length ≤ 9223372036854775807, Flat [[I n14, I n15, I n16, I n17]], inInt IntKind.i64 (n8 + 1)]) :
    Tr Try.prog (loopOf Try.f140 0) (spec_Recall_L0 l1 n2 n3 n4 n5 n8 l9) Ex.normal (spec_Recall_L0 l1 n2 n3 n4 n5 (n8 + 1) (l9 ++ [[I n14, I n15, I n16, I n17]])) :=
  .of_loopc (ks := [12, 1, 5, 11]) (bs := [5]) (ans := [Ans.br true, Ans.el [I n10, I n11, I n12, I n13], Ans.br true, Ans.el [I n14, I n15, I n16, I n17]]) (by kernel_rfl) h

theorem spec_Recall_L0_s1 (l1 : List (List D)) (n2 : Int) (n3 : Int) (n4 : Int) (n5 : Int) (n8 : Int) (l9 : List (List D)) (n10 : Int) (n11 : Int) (n12 : Int) (n13 : Int) (n14 : Int) (n15 : Int) (n16 : Int) (n17 : Int) (n18 : Int) (n19 : Int) (n20 : Int) (n21 : Int)
    (h : Obs [decide (n8 < (↑l1.length : Int)) = true, 0 ≤ n8, n8 < (↑l1.length : Int), l1[n8.toNat]? = some [I n10, I n11, I n12, I n13], (n10 != n2) = false, 0 ≤ n8, n8 < (↑l1.length : Int), l1[n8.toNat]? = some [I n14, I n15, I n16, I n17], (n15 != n3) = true, 0 ≤ n8, n8 < (↑l1.length : Int), l1[n8.toNat]? = some [I n18, I n19, I n20, I n21], (l9.length + [[I n18, I n19, I n20, I n21]].length) * 32 ≤ 140737488355328, l9.length + [[I n18, I n19, I n20, I n21]].length ≤ 9223372036854775807, Flat [[I n18, I n19, I n20, I n21]], inInt IntKind.i64 (n8 + 1)]) :
    Tr Try.prog (loopOf Try.f140 0) (spec_Recall_L0 l1 n2 n3 n4 n5 n8 l9) Ex.normal (spec_Recall_L0 l1 n2 n3 n4 n5 (n8 + 1) (l9 ++ [[I n18, I n19, I n20, I n21]])) :=
  .of_loopc (ks := [12, 1, 5, 11]) (bs := [5]) (ans := [Ans.br true, Ans.el [I n10, I n11, I n12, I n13], Ans.br false, Ans.el [I n14, I n15, I n16, I n17], Ans.br true, Ans.el [I n18, I n19, I n20, I n21]]) (by kernel_rfl) h

theorem spec_Recall_L0_s2 (l1 : List (List D)) (n2 : Int) (n3 : Int) (n4 : Int) (n5 : Int) (n8 : Int) (l9 : List (List D)) (n10 : Int) (n11 : Int) (n12 : Int) (n13 : Int) (n14 : Int) (n15 : Int) (n16 : Int) (n17 : Int) (n18 : Int) (n19 : Int) (n20 : Int) (n21 : Int) (n22 : Int) (n23 : Int) (n24 : Int) (n25 : Int)
    (h : Obs [decide (n8 < (↑l1.length : Int)) = true, 0 ≤ n8, n8 < (↑l1.length : Int), l1[n8.toNat]? = some [I n10, I n11, I n12, I n13], (n10 != n2) = false, 0 ≤ n8, n8 < (↑l1.length : Int), l1[n8.toNat]? = some [I n14, I n15, I n16, I n17], (n15 != n3) = false, 0 ≤ n8, n8 < (↑l1.length : Int), l1[n8.toNat]? = some [I n18, I n19, I n20, I n21], (n20 != n4) = true, 0 ≤ n8, n8 < (↑l1.length : Int), l1[n8.toNat]? = some [I n22, I n23, I n24, I n25], (l9.length + [[I n22, I n23, I n24, I n25]].length) * 32 ≤ 140737488355328, l9.length + [[I n22, I n23, I n24, I n25]].length ≤ 9223372036854775807, Flat [[I n22, I n23, I n24, I n25]], inInt IntKind.i64 (n8 + 1)]) :
    Tr Try.prog (loopOf Try.f140 0) (spec_Recall_L0 l1 n2 n3 n4 n5 n8 l9) Ex.normal (spec_Recall_L0 l1 n2 n3 n4 n5 (n8 + 1) (l9 ++ [[I n22, I n23, I n24, I n25]])) :=
  .of_loopc (ks := [12, 1, 5, 11]) (bs := [5]) (ans := [Ans.br true, Ans.el [I n10, I n11, I n12, I n13], Ans.br false, Ans.el [I n14, I n15, I n16, I n17], Ans.br false, Ans.el [I n18, I n19, I n20, I n21], Ans.br true, Ans.el [I n22, I n23, I n24, I n25]]) (by kernel_rfl) h

theorem spec_Recall_L0_s3 (l1 : List (List D)) (n2 : Int) (n3 : Int) (n4 : Int) (n5 : Int) (n8 : Int) (l9 : List (List D)) (n10 : Int) (n11 : Int) (n12 : Int) (n13 : Int) (n14 : Int) (n15 : Int) (n16 : Int) (n17 : Int) (n18 : Int) (n19 : Int) (n20 : Int) (n21 : Int)
    (h : Obs [decide (n8 < (↑l1.length : Int)) = true, 0 ≤ n8, n8 < (↑l1.length : Int), l1[n8.toNat]? = some [I n10, I n11, I n12, I n13], (n10 != n2) = false, 0 ≤ n8, n8 < (↑l1.length : Int), l1[n8.toNat]? = some [I n14, I n15, I n16, I n17], (n15 != n3) = false, 0 ≤ n8, n8 < (↑l1.length : Int), l1[n8.toNat]? = some [I n18, I n19, I n20, I n21], (n20 != n4) = false, inInt IntKind.i64 (n8 + 1)]) :
    Tr Try.prog (loopOf Try.f140 0) (spec_Recall_L0 l1 n2 n3 n4 n5 n8 l9) Ex.normal (spec_Recall_L0 l1 n2 n3 n4 n5 (n8 + 1) l9) :=
  .of_loopc (ks := [12, 1, 5, 11]) (bs := [5]) (ans := [Ans.br true, Ans.el [I n10, I n11, I n12, I n13], Ans.br false, Ans.el [I n14, I n15, I n16, I n17], Ans.br false, Ans.el [I n18, I n19, I n20, I n21], Ans.br false]) (by kernel_rfl) h

def spec_Recall_X0 (n0 : Int) (n1 : Int) (n2 : Int) (n3 : Int) (l4 : List (List D)) : St :=
  { env := envOf 94 [(5, PV.al (AL.one (Leaf.ptr 5 0))), (11, PV.al (AL.one (Leaf.sl (Tag.own 48) 4 l4)))], boxes := [(5, [Leaf.v (Value.int IntKind.i64 n0), Leaf.v (Value.int IntKind.i64 n1), Leaf.v (Value.int IntKind.i64 n2), Leaf.v (Value.int IntKind.i64 n3)])] }

theorem spec_Recall_L0_x4 (l1 : List (List D)) (n2 : Int) (n3 : Int) (n4 : Int) (n5 : Int) (n8 : Int) (l9 : List (List D))
    (h : Obs [decide (n8 < (↑l1.length : Int)) = false]) :
    Tr Try.prog (loopOf Try.f140 0) (spec_Recall_L0 l1 n2 n3 n4 n5 n8 l9) (Ex.exit 1) (spec_Recall_X0 n2 n3 n4 n5 l9) :=
  .of_loopc (ks := [11, 5]) (bs := [5]) (ans := [Ans.br false]) (by kernel_rfl) h

theorem spec_Recall_p3 (n0 : Int) (l1 : List (List D)) (n2 : Int) (n3 : Int) (n4 : Int) (n5 : Int) (n6 : Int) (b7 : Bool) (l8 : List (List D)) (l9 : List (List D))
    (h : Obs [(([] : List (List D)).length + l1.length) * 32 ≤ 140737488355328, ([] : List (List D)).length + l1.length ≤ 9223372036854775807, Flat l1, (n0 == 6) = false, (n0 == 5) = true, (n0 == 5) = true, Ret Try.prog 154 [AD.one (D.sl 4 l1), AD.one (I n2), AD.one (I n3), AD.one (I n4)] [AD.one (I n6), AD.one (B b7)], b7 = true, decide (n6 ≤ n5) = false, LoopOk Try.prog (loopOf Try.f140 0) (spec_Recall_L0 l1 n2 n3 n4 n5 0 []) (Ex.exit 1) (spec_Recall_X0 n2 n3 n4 n5 l8), Ret Try.prog 75 [AD.one (D.sl 4 l8), AD.agg [I n2, I n3, I n4, I n5]] [AD.one (D.sl 4 l9)]]) :
    Ret Try.prog 140 [AD.one (I n0), AD.one (D.sl 4 l1), AD.agg [I n2, I n3, I n4, I n5]] [AD.one (D.sl 4 l9), AD.one (B true)] :=
  .of [Ans.br false, Ans.br true, Ans.br true, Ans.res [AD.one (I n6), AD.one (B b7)], Ans.br true, Ans.br false, Ans.loop [] [12, 1, 5, 11] [5] (Ex.exit 1) (spec_Recall_X0 n2 n3 n4 n5 l8), Ans.res [AD.one (D.sl 4 l9)]] _ Try.func140 rfl (by kernel_rfl) h

theorem spec_Recall_p4 (n0 : Int) (l1 : List (List D)) (n2 : Int) (n3 : Int) (n4 : Int) (n5 : Int) (n6 : Int) (b7 : Bool) (l8 : List (List D)) (l9 : List (List D))
    (h : Obs [(([] : List (List D)).length + l1.length) * 32 ≤ 140737488355328, ([] : List (List D)).length + l1.length ≤ 9223372036854775807, Flat l1, (n0 == 6) = false, (n0 == 5) = true, (n0 == 5) = true, Ret Try.prog 154 [AD.one (D.sl 4 l1), AD.one (I n2), AD.one (I n3), AD.one (I n4)] [AD.one (I n6), AD.one (B b7)], b7 = false, LoopOk Try.prog (loopOf Try.f140 0) (spec_Recall_L0 l1 n2 n3 n4 n5 0 []) (Ex.exit 1) (spec_Recall_X0 n2 n3 n4 n5 l8), Ret Try.prog 75 [AD.one (D.sl 4 l8), AD.agg [I n2, I n3, I n4, I n5]] [AD.one (D.sl 4 l9)]]) :
    Ret Try.prog 140 [AD.one (I n0), AD.one (D.sl 4 l1), AD.agg [I n2, I n3, I n4, I n5]] [AD.one (D.sl 4 l9), AD.one (B true)] :=
  .of [Ans.br false, Ans.br true, Ans.br true, Ans.res [AD.one (I n6), AD.one (B b7)], Ans.br false, Ans.loop [] [12, 1, 5, 11] [5] (Ex.exit 1) (spec_Recall_X0 n2 n3 n4 n5 l8), Ans.res [AD.one (D.sl 4 l9)]] _ Try.func140 rfl (by kernel_rfl) h

theorem spec_Recall_p5 (n0 : Int) (l1 : List (List D)) (n2 : Int) (n3 : Int) (n4 : Int) (n5 : Int) (n6 : Int) (b7 : Bool)
    (h : Obs [(([] : List (List D)).length + l1.length) * 32 ≤ 140737488355328, ([] : List (List D)).length + l1.length ≤ 9223372036854775807, Flat l1, (n0 == 6) = false, (n0 == 5) = false, (n0 == 8) = true, Ret Try.prog 154 [AD.one (D.sl 4 l1), AD.one (I n2), AD.one (I n3), AD.one (I n4)] [AD.one (I n6), AD.one (B b7)], b7 = true, decide (n6 ≤ n5) = true]) :
    Ret Try.prog 140 [AD.one (I n0), AD.one (D.sl 4 l1), AD.agg [I n2, I n3, I n4, I n5]] [AD.one (D.sl 4 ([] ++ l1)), AD.one (B false)] :=
  .of [Ans.br false, Ans.br false, Ans.br true, Ans.res [AD.one (I n6), AD.one (B b7)], Ans.br true, Ans.br true] _ Try.func140 rfl (by kernel_rfl) h

theorem spec_Recall_p6 (n0 : Int) (l1 : List (List D)) (n2 : Int) (n3 : Int) (n4 : Int) (n5 : Int) (n6 : Int) (b7 : Bool) (l8 : List (List D)) (l9 : List (List D))
    (h : Obs [(([] : List (List D)).length + l1.length) * 32 ≤ 140737488355328, ([] : List (List D)).length + l1.length ≤ 9223372036854775807, Flat l1, (n0 == 6) = false, (n0 == 5) = false, (n0 == 8) = true, Ret Try.prog 154 [AD.one (D.sl 4 l1), AD.one (I n2), AD.one (I n3), AD.one (I n4)] [AD.one (I n6), AD.one (B b7)], b7 = true, decide (n6 ≤ n5) = false, LoopOk Try.prog (loopOf Try.f140 0) (spec_Recall_L0 l1 n2 n3 n4 n5 0 []) (Ex.exit 1) (spec_Recall_X0 n2 n3 n4 n5 l8), Ret Try.prog 75 [AD.one (D.sl 4 l8), AD.agg [I n2, I n3, I n4, I n5]] [AD.one (D.sl 4 l9)]]) :
    Ret Try.prog 140 [AD.one (I n0), AD.one (D.sl 4 l1), AD.agg [I n2, I n3, I n4, I n5]] [AD.one (D.sl 4 l9), AD.one (B true)] :=
  .of [Ans.br false, Ans.br false, Ans.br true, Ans.res [AD.one (I n6), AD.one (B b7)], Ans.br true, Ans.br false, Ans.loop [] [12, 1, 5, 11] [5] (Ex.exit 1) (spec_Recall_X0 n2 n3 n4 n5 l8), Ans.res [AD.one (D.sl 4 l9)]] _ Try.func140 rfl (by kernel_rfl) h

theorem spec_Recall_p7 (n0 : Int) (l1 : List (List D)) (n2 : Int) (n3 : Int) (n4 : Int) (n5 : Int) (n6 : Int) (b7 : Bool) (l8 : List (List D)) (l9 : List (List D))
    (h : Obs [(([] : List (List D)).length + l1.length) * 32 ≤ 140737488355328, ([] : List (List D)).length + l1.length ≤ 9223372036854775807, Flat l1, (n0 == 6) = false, (n0 == 5) = false, (n0 == 8) = true, Ret Try.prog 154 [AD.one (D.sl 4 l1), AD.one (I n2), AD.one (I n3), AD.one (I n4)] [AD.one (I n6), AD.one (B b7)], b7 = false, LoopOk Try.prog (loopOf Try.f140 0) (spec_Recall_L0 l1 n2 n3 n4 n5 0 []) (Ex.exit 1) (spec_Recall_X0 n2 n3 n4 n5 l8), Ret Try.prog 75 [AD.one (D.sl 4 l8), AD.agg [I n2, I n3, I n4, I n5]] [AD.one (D.sl 4 l9)]]) :
    Ret Try.prog 140 [AD.one (I n0), AD.one (D.sl 4 l1), AD.agg [I n2, I n3, I n4, I n5]] [AD.one (D.sl 4 l9), AD.one (B true)] :=
  .of [Ans.br false, Ans.br false, Ans.br true, Ans.res [AD.one (I n6), AD.one (B b7)], Ans.br false, Ans.loop [] [12, 1, 5, 11] [5] (Ex.exit 1) (spec_Recall_X0 n2 n3 n4 n5 l8), Ans.res [AD.one (D.sl 4 l9)]] _ Try.func140 rfl (by kernel_rfl) h

theorem spec_Recall_p8 (n0 : Int) (l1 : List (List D)) (n2 : Int) (n3 : Int) (n4 : Int) (n5 : Int)
    (h : Obs [(([] : List (List D)).length + l1.length) * 32 ≤ 140737488355328, ([] : List (List D)).length + l1.length ≤ 9223372036854775807, Flat l1, (n0 == 6) = false, (n0 == 5) = false, (n0 == 8) = false]) :
    Ret Try.prog 140 [AD.one (I n0), AD.one (D.sl 4 l1), AD.agg [I n2, I n3, I n4, I n5]] [AD.one (D.sl 4 ([] ++ l1)), AD.one (B true)] :=
  .of [Ans.br false, Ans.br false, Ans.br false] _ Try.func140 rfl (by kernel_rfl) h

end Go.Proofs.Ytbbjajmimckabaa
