import Derived.Test.YtbbjajmimckabaaGreatRows
import Derived.Test.YtbbjajmimckabaaGreatR23
set_option linter.unusedVariables false
set_option linter.unusedSimpArgs false
namespace Go.Proofs.YtbbjajmimckabaaGreat
open Go.Sx Go.RowKit

/- loop.example/g00973/impl.copyRecords -/

theorem impl_copyRecords_p0 (l0 : List (List D))
    (h : Obs [(([] : List (List D)).length + l0.length) * 40 ≤ 140737488355328, ([] : List (List D)).length + l0.length ≤ 9223372036854775807, Flat l0]) :
    Ret Tryz.prog 70 [AD.one (D.sl 5 l0)] [AD.one (D.sl 5 ([] ++ l0))] :=
  .of [] _ Tryz.func70 rfl (by kernel_rfl) h

/- loop.example/g00973/spec.StampOrder -/

theorem spec_StampOrder_p0 (n0 : Int) (n1 : Int) (n2 : Int) (n3 : Int) (n4 : Int)
    (h : Obs [Ret Tryz.prog 100 [AD.one (I n0), AD.one (I n2)] [AD.one (I n4)], (n4 != 0) = true]) :
    Ret Tryz.prog 84 [AD.agg [I n0, I n1], AD.agg [I n2, I n3]] [AD.one (I n4)] :=
  .of [Ans.res [AD.one (I n4)], Ans.br true] _ Tryz.func84 rfl (by kernel_rfl) h

theorem spec_StampOrder_p1 (n0 : Int) (n1 : Int) (n2 : Int) (n3 : Int) (n4 : Int) (n5 : Int)
    (h : Obs [Ret Tryz.prog 100 [AD.one (I n0), AD.one (I n2)] [AD.one (I n4)], (n4 != 0) = false, Ret Tryz.prog 100 [AD.one (I n1), AD.one (I n3)] [AD.one (I n5)]]) :
    Ret Tryz.prog 84 [AD.agg [I n0, I n1], AD.agg [I n2, I n3]] [AD.one (I n5)] :=
  .of [Ans.res [AD.one (I n4)], Ans.br false, Ans.res [AD.one (I n5)]] _ Tryz.func84 rfl (by kernel_rfl) h

/- loop.example/g00973/spec.RecordOrder -/

def spec_RecordOrder_L0 (n0 : Int) (n1 : Int) (n2 : Int) (n3 : Int) (n4 : Int) : St :=
  { env := envOf 41 [(5, PV.al (AL.one (Leaf.sl (Tag.own 27) 1 [[I n0], [I n1], [I n2], [I n3]]))), (6, PV.al (AL.one (Leaf.v (Value.int IntKind.i64 n4))))], boxes := [] }

def spec_RecordOrder_X0 (n0 : Int) : St :=
  { env := envOf 41 [(4, PV.al (AL.one (Leaf.v (Value.int IntKind.i64 n0))))], boxes := [] }

theorem spec_RecordOrder_L0_x0 (n10 : Int) (n11 : Int) (n12 : Int) (n13 : Int) (n14 : Int) (n15 : Int) (n16 : Int)
    (h : Obs [decide (n14 < 4) = true, 0 ≤ n14, n14 < (↑[[I n10], [I n11], [I n12], [I n13]].length : Int), [[I n10], [I n11], [I n12], [I n13]][n14.toNat]? = some [I n15], (n15 != 0) = true, 0 ≤ n14, n14 < (↑[[I n10], [I n11], [I n12], [I n13]].length : Int), [[I n10], [I n11], [I n12], [I n13]][n14.toNat]? = some [I n16]]) :
    Tr Tryz.prog (loopOf Tryz.f64 0) (spec_RecordOrder_L0 n10 n11 n12 n13 n14) Ex.ret (spec_RecordOrder_X0 n16) :=
  .of_loopc (ks := [4]) (bs := []) (ans := [Ans.br true, Ans.el [I n15], Ans.br true, Ans.el [I n16]]) (by kernel_rfl) h

theorem spec_RecordOrder_L0_s1 (n10 : Int) (n11 : Int) (n12 : Int) (n13 : Int) (n14 : Int) (n15 : Int)
    (h : Obs [decide (n14 < 4) = true, 0 ≤ n14, n14 < (↑[[I n10], [I n11], [I n12], [I n13]].length : Int), [[I n10], [I n11], [I n12], [I n13]][n14.toNat]? = some [I n15], (n15 != 0) = false, inInt IntKind.i64 (n14 + 1)]) :
    Tr Tryz.prog (loopOf Tryz.f64 0) (spec_RecordOrder_L0 n10 n11 n12 n13 n14) Ex.normal (spec_RecordOrder_L0 n10 n11 n12 n13 (n14 + 1)) :=
  .of_loopc (ks := [6, 5]) (bs := []) (ans := [Ans.br true, Ans.el [I n15], Ans.br false]) (by kernel_rfl) h

def spec_RecordOrder_X0v2 : St :=
  { env := envOf 41 [], boxes := [] }

theorem spec_RecordOrder_L0_x2 (n10 : Int) (n11 : Int) (n12 : Int) (n13 : Int) (n14 : Int)
    (h : Obs [decide (n14 < 4) = false]) :
    Tr Tryz.prog (loopOf Tryz.f64 0) (spec_RecordOrder_L0 n10 n11 n12 n13 n14) (Ex.exit 0) spec_RecordOrder_X0v2 :=
  .of_loopc (ks := []) (bs := []) (ans := [Ans.br false]) (by kernel_rfl) h

theorem spec_RecordOrder_p0 (n0 : Int) (n1 : Int) (n2 : Int) (n3 : Int) (n4 : Int) (n5 : Int) (n6 : Int) (n7 : Int) (n8 : Int) (n9 : Int) (n10 : Int) (n11 : Int) (n12 : Int) (n13 : Int) (n14 : Int)
    (h : Obs [Ret Tryz.prog 84 [AD.agg [I n1, I n2], AD.agg [I n6, I n7]] [AD.one (I n10)], Ret Tryz.prog 100 [AD.one (I n0), AD.one (I n5)] [AD.one (I n11)], Ret Tryz.prog 100 [AD.one (I n3), AD.one (I n8)] [AD.one (I n12)], Ret Tryz.prog 100 [AD.one (I n4), AD.one (I n9)] [AD.one (I n13)], LoopOk Tryz.prog (loopOf Tryz.f64 0) (spec_RecordOrder_L0 n10 n11 n12 n13 0) Ex.ret (spec_RecordOrder_X0 n14)]) :
    Ret Tryz.prog 64 [AD.agg [I n0, I n1, I n2, I n3, I n4], AD.agg [I n5, I n6, I n7, I n8, I n9]] [AD.one (I n14)] :=
  .of [Ans.res [AD.one (I n10)], Ans.res [AD.one (I n11)], Ans.res [AD.one (I n12)], Ans.res [AD.one (I n13)], Ans.loop [] [6, 5] [] Ex.ret (spec_RecordOrder_X0 n14)] _ Tryz.func64 rfl (by kernel_rfl) h

theorem spec_RecordOrder_p1 (n0 : Int) (n1 : Int) (n2 : Int) (n3 : Int) (n4 : Int) (n5 : Int) (n6 : Int) (n7 : Int) (n8 : Int) (n9 : Int) (n10 : Int) (n11 : Int) (n12 : Int) (n13 : Int)
    (h : Obs [Ret Tryz.prog 84 [AD.agg [I n1, I n2], AD.agg [I n6, I n7]] [AD.one (I n10)], Ret Tryz.prog 100 [AD.one (I n0), AD.one (I n5)] [AD.one (I n11)], Ret Tryz.prog 100 [AD.one (I n3), AD.one (I n8)] [AD.one (I n12)], Ret Tryz.prog 100 [AD.one (I n4), AD.one (I n9)] [AD.one (I n13)], LoopOk Tryz.prog (loopOf Tryz.f64 0) (spec_RecordOrder_L0 n10 n11 n12 n13 0) (Ex.exit 0) spec_RecordOrder_X0v2]) :
    Ret Tryz.prog 64 [AD.agg [I n0, I n1, I n2, I n3, I n4], AD.agg [I n5, I n6, I n7, I n8, I n9]] [AD.one (I 0)] :=
  .of [Ans.res [AD.one (I n10)], Ans.res [AD.one (I n11)], Ans.res [AD.one (I n12)], Ans.res [AD.one (I n13)], Ans.loop [] [6, 5] [] (Ex.exit 0) spec_RecordOrder_X0v2] _ Tryz.func64 rfl (by kernel_rfl) h

/- loop.example/g00973/spec.SortRecords -/

def spec_SortRecords_L0 (n0 : Int) (l1 : List (List D)) : St :=
  { env := envOf 48 [(3, PV.al (AL.one (Leaf.sl (Tag.own 7) 5 l1))), (4, PV.al (AL.one (Leaf.v (Value.int IntKind.i64 n0))))], boxes := [] }

def spec_SortRecords_L1 (n0 : Int) (n1 : Int) (l2 : List (List D)) (n3 : Int) (n4 : Int) (n5 : Int) (n6 : Int) (n7 : Int) : St :=
  { env := envOf 48 [(3, PV.al (AL.one (Leaf.sl (Tag.own 7) 5 l2))), (4, PV.al (AL.one (Leaf.v (Value.int IntKind.i64 n0)))), (5, PV.al (AL.one (Leaf.ptr 5 0))), (6, PV.al (AL.one (Leaf.v (Value.int IntKind.i64 n1))))], boxes := [(5, [Leaf.v (Value.int IntKind.i64 n3), Leaf.v (Value.int IntKind.i64 n4), Leaf.v (Value.int IntKind.i64 n5), Leaf.v (Value.int IntKind.i64 n6), Leaf.v (Value.int IntKind.i64 n7)])] }

theorem spec_SortRecords_L1_s0 (n1 : Int) (n8 : Int) (l9 : List (List D)) (n10 : Int) (n11 : Int) (n12 : Int) (n13 : Int) (n14 : Int) (n15 : Int) (n16 : Int) (n17 : Int) (n18 : Int) (n19 : Int) (n20 : Int) (n21 : Int) (n22 : Int) (n23 : Int) (n24 : Int) (n25 : Int) (d26 : D) (d27 : D) (d28 : D) (d29 : D) (d30 : D)
    (h : Obs [decide (n8 > 0) = true, inInt IntKind.i64 (n8 - 1), 0 ≤ n8 - 1, n8 - 1 < (↑l9.length : Int), l9[(n8 - 1).toNat]? = some [I n15, I n16, I n17, I n18, I n19], Ret Tryz.prog 64 [AD.agg [I n10, I n11, I n12, I n13, I n14], AD.agg [I n15, I n16, I n17, I n18, I n19]] [AD.one (I n20)], decide (n20 < 0) = true, inInt IntKind.i64 (n8 - 1), 0 ≤ n8 - 1, n8 - 1 < (↑l9.length : Int), l9[(n8 - 1).toNat]? = some [I n21, I n22, I n23, I n24, I n25], 0 ≤ n8, n8 < (↑l9.length : Int), l9[n8.toNat]? = some [d26, d27, d28, d29, d30], inInt IntKind.i64 (n8 - 1)]) :
    Tr Tryz.prog (loopOf Tryz.f30 1) (spec_SortRecords_L1 n1 n8 l9 n10 n11 n12 n13 n14) Ex.normal (spec_SortRecords_L1 n1 (n8 - 1) (l9.set n8.toNat [I n21, I n22, I n23, I n24, I n25]) n10 n11 n12 n13 n14) :=
  .of_loopc (ks := [6, 5, 3, 4]) (bs := [5]) (ans := [Ans.br true, Ans.el [I n15, I n16, I n17, I n18, I n19], Ans.res [AD.one (I n20)], Ans.br true, Ans.el [I n21, I n22, I n23, I n24, I n25], Ans.el [d26, d27, d28, d29, d30]]) (by kernel_rfl) h

def spec_SortRecords_X1 (n0 : Int) (l1 : List (List D)) (n2 : Int) (n3 : Int) (n4 : Int) (n5 : Int) (n6 : Int) (n7 : Int) : St :=
  { env := envOf 48 [(3, PV.al (AL.one (Leaf.sl (Tag.own 7) 5 l1))), (4, PV.al (AL.one (Leaf.v (Value.int IntKind.i64 n0)))), (5, PV.al (AL.one (Leaf.ptr 5 0))), (6, PV.al (AL.one (Leaf.v (Value.int IntKind.i64 n2))))], boxes := [(5, [Leaf.v (Value.int IntKind.i64 n3), Leaf.v (Value.int IntKind.i64 n4), Leaf.v (Value.int IntKind.i64 n5), Leaf.v (Value.int IntKind.i64 n6), Leaf.v (Value.int IntKind.i64 n7)])] }

theorem spec_SortRecords_L1_x1 (n1 : Int) (n8 : Int) (l9 : List (List D)) (n10 : Int) (n11 : Int) (n12 : Int) (n13 : Int) (n14 : Int) (n15 : Int) (n16 : Int) (n17 : Int) (n18 : Int) (n19 : Int) (n20 : Int)
    (h : Obs [decide (n8 > 0) = true, inInt IntKind.i64 (n8 - 1), 0 ≤ n8 - 1, n8 - 1 < (↑l9.length : Int), l9[(n8 - 1).toNat]? = some [I n15, I n16, I n17, I n18, I n19], Ret Tryz.prog 64 [AD.agg [I n10, I n11, I n12, I n13, I n14], AD.agg [I n15, I n16, I n17, I n18, I n19]] [AD.one (I n20)], decide (n20 < 0) = false]) :
    Tr Tryz.prog (loopOf Tryz.f30 1) (spec_SortRecords_L1 n1 n8 l9 n10 n11 n12 n13 n14) (Ex.exit 2) (spec_SortRecords_X1 n1 l9 n8 n10 n11 n12 n13 n14) :=
  .of_loopc (ks := [3, 6, 5, 4]) (bs := [5]) (ans := [Ans.br true, Ans.el [I n15, I n16, I n17, I n18, I n19], Ans.res [AD.one (I n20)], Ans.br false]) (by kernel_rfl) h

theorem spec_SortRecords_L1_x2 (n1 : Int) (n8 : Int) (l9 : List (List D)) (n10 : Int) (n11 : Int) (n12 : Int) (n13 : Int) (n14 : Int)
    (h : Obs [decide (n8 > 0) = false]) :
    Tr Tryz.prog (loopOf Tryz.f30 1) (spec_SortRecords_L1 n1 n8 l9 n10 n11 n12 n13 n14) (Ex.exit 2) (spec_SortRecords_X1 n1 l9 n8 n10 n11 n12 n13 n14) :=
  .of_loopc (ks := [3, 6, 5, 4]) (bs := [5]) (ans := [Ans.br false]) (by kernel_rfl) h

theorem spec_SortRecords_L0_s0 (n1 : Int) (l2 : List (List D)) (n3 : Int) (n4 : Int) (n5 : Int) (n6 : Int) (n7 : Int) (l8 : List (List D)) (n9 : Int) (n10 : Int) (n11 : Int) (n12 : Int) (n13 : Int) (n14 : Int) (d15 : D) (d16 : D) (d17 : D) (d18 : D) (d19 : D)
    (h : Obs [decide (n1 < (↑l2.length : Int)) = true, 0 ≤ n1, n1 < (↑l2.length : Int), l2[n1.toNat]? = some [I n3, I n4, I n5, I n6, I n7], LoopOk Tryz.prog (loopOf Tryz.f30 1) (spec_SortRecords_L1 n1 n1 l2 n3 n4 n5 n6 n7) (Ex.exit 2) (spec_SortRecords_X1 n1 l8 n9 n10 n11 n12 n13 n14), 0 ≤ n9, n9 < (↑l8.length : Int), l8[n9.toNat]? = some [d15, d16, d17, d18, d19], inInt IntKind.i64 (n1 + 1)]) :
    Tr Tryz.prog (loopOf Tryz.f30 0) (spec_SortRecords_L0 n1 l2) Ex.normal (spec_SortRecords_L0 (n1 + 1) (l8.set n9.toNat [I n10, I n11, I n12, I n13, I n14])) :=
  .of_loopc (ks := [4, 3]) (bs := []) (ans := [Ans.br true, Ans.el [I n3, I n4, I n5, I n6, I n7], Ans.loop [] [6, 5, 3, 4] [5] (Ex.exit 2) (spec_SortRecords_X1 n1 l8 n9 n10 n11 n12 n13 n14), Ans.el [d15, d16, d17, d18, d19]]) (by kernel_rfl) h

def spec_SortRecords_X0 (l0 : List (List D)) : St :=
  { env := envOf 48 [(3, PV.al (AL.one (Leaf.sl (Tag.own 7) 5 l0)))], boxes := [] }

theorem spec_SortRecords_L0_x1 (n1 : Int) (l2 : List (List D))
    (h : Obs [decide (n1 < (↑l2.length : Int)) = false]) :
    Tr Tryz.prog (loopOf Tryz.f30 0) (spec_SortRecords_L0 n1 l2) (Ex.exit 0) (spec_SortRecords_X0 l2) :=
  .of_loopc (ks := [3]) (bs := []) (ans := [Ans.br false]) (by kernel_rfl) h

theorem spec_SortRecords_p0 (l0 : List (List D)) (l1 : List (List D))
    (h : Obs [(([] : List (List D)).length + l0.length) * 40 ≤ 140737488355328, ([] : List (List D)).length + l0.length ≤ 9223372036854775807, Flat l0, LoopOk Tryz.prog (loopOf Tryz.f30 0) (spec_SortRecords_L0 1 ([] ++ l0)) (Ex.exit 0) (spec_SortRecords_X0 l1)]) :
    Ret Tryz.prog 30 [AD.one (D.sl 5 l0)] [AD.one (D.sl 5 l1)] :=
  .of [Ans.loop [] [4, 3] [] (Ex.exit 0) (spec_SortRecords_X0 l1)] _ Tryz.func30 rfl (by kernel_rfl) h

/- loop.example/g00973/spec.PendingAll -/

def spec_PendingAll_L0 (l0 : List (List D)) (n1 : Int) (n2 : Int) (l3 : List (List D)) (l4 : List (List D)) (l5 : List (List D)) (l6 : List (List D)) (n7 : Int) (l8 : List (List D)) : St :=
  { env := envOf 46 [(1, PV.al (AL.one (Leaf.ptr 1 0))), (3, PV.al (AL.one (Leaf.sl (Tag.own 6) 5 l8))), (4, PV.al (AL.one (Leaf.v (Value.int IntKind.i64 n7))))], boxes := [(1, [Leaf.sl Tag.free 4 l0, Leaf.v (Value.int IntKind.i64 n1), Leaf.v (Value.int IntKind.i64 n2), Leaf.sl Tag.free 8 l3, Leaf.sl Tag.free 6 l4, Leaf.sl Tag.free 5 l5, Leaf.sl Tag.free 3 l6])] }

theorem spec_PendingAll_L0_s0 (l0 : List (List D)) (n1 : Int) (n2 : Int) (l3 : List (List D)) (l4 : List (List D)) (l5 : List (List D)) (l6 : List (List D)) (n7 : Int) (l8 : List (List D)) (l9 : List (List D)) (l10 : List (List D)) (l11 : List (List D)) (l12 : List (List D)) (l13 : List (List D)) (l14 : List (List D)) (l15 : List (List D)) (l16 : List (List D)) (l17 : List (List D)) (l18 : List (List D)) (l19 : List (List D)) (l20 : List (List D)) (l21 : List (List D)) (l22 : List (List D)) (l23 : List (List D)) (l24 : List (List D))
    (h : Obs [decide (n7 < (↑l3.length : Int)) = true, 0 ≤ n7, n7 < (↑l3.length : Int), l3[n7.toNat]? = some [D.sl 5 l9, D.sl 5 l10, D.sl 5 l11, D.sl 4 l12, D.sl 1 l13, D.sl 1 l14, D.sl 1 l15, D.sl 2 l16], (l8.length + l9.length) * 40 ≤ 140737488355328, l8.length + l9.length ≤ 9223372036854775807, Flat l9, 0 ≤ n7, n7 < (↑l3.length : Int), l3[n7.toNat]? = some [D.sl 5 l17, D.sl 5 l18, D.sl 5 l19, D.sl 4 l20, D.sl 1 l21, D.sl 1 l22, D.sl 1 l23, D.sl 2 l24], ((l8 ++ l9).length + l18.length) * 40 ≤ 140737488355328, (l8 ++ l9).length + l18.length ≤ 9223372036854775807, Flat l18, inInt IntKind.i64 (n7 + 1)]) :
    Tr Tryz.prog (loopOf Tryz.f8 0) (spec_PendingAll_L0 l0 n1 n2 l3 l4 l5 l6 n7 l8) Ex.normal (spec_PendingAll_L0 l0 n1 n2 l3 l4 l5 l6 (n7 + 1) (l8 ++ l9 ++ l18)) :=
  .of_loopc (ks := [4, 1, 3]) (bs := [1]) (ans := [Ans.br true, Ans.el [D.sl 5 l9, D.sl 5 l10, D.sl 5 l11, D.sl 4 l12, D.sl 1 l13, D.sl 1 l14, D.sl 1 l15, D.sl 2 l16], Ans.el [D.sl 5 l17, D.sl 5 l18, D.sl 5 l19, D.sl 4 l20, D.sl 1 l21, D.sl 1 l22, D.sl 1 l23, D.sl 2 l24]]) (by kernel_rfl) h

def spec_PendingAll_X0 (l0 : List (List D)) (n1 : Int) (n2 : Int) (l3 : List (List D)) (l4 : List (List D)) (l5 : List (List D)) (l6 : List (List D)) (l7 : List (List D)) : St :=
  { env := envOf 46 [(1, PV.al (AL.one (Leaf.ptr 1 0))), (3, PV.al (AL.one (Leaf.sl (Tag.own 6) 5 l7)))], boxes := [(1, [Leaf.sl Tag.free 4 l0, Leaf.v (Value.int IntKind.i64 n1), Leaf.v (Value.int IntKind.i64 n2), Leaf.sl Tag.free 8 l3, Leaf.sl Tag.free 6 l4, Leaf.sl Tag.free 5 l5, Leaf.sl Tag.free 3 l6])] }

theorem spec_PendingAll_L0_x1 (l0 : List (List D)) (n1 : Int) (n2 : Int) (l3 : List (List D)) (l4 : List (List D)) (l5 : List (List D)) (l6 : List (List D)) (n7 : Int) (l8 : List (List D))
    (h : Obs [decide (n7 < (↑l3.length : Int)) = false]) :
    Tr Tryz.prog (loopOf Tryz.f8 0) (spec_PendingAll_L0 l0 n1 n2 l3 l4 l5 l6 n7 l8) (Ex.exit 0) (spec_PendingAll_X0 l0 n1 n2 l3 l4 l5 l6 l8) :=
  .of_loopc (ks := [1, 3]) (bs := [1]) (ans := [Ans.br false]) (by kernel_rfl) h

def spec_PendingAll_L1 (l0 : List (List D)) (n1 : Int) (n2 : Int) (l3 : List (List D)) (l4 : List (List D)) (l5 : List (List D)) (l6 : List (List D)) (n7 : Int) (l8 : List (List D)) : St :=
  { env := envOf 46 [(1, PV.al (AL.one (Leaf.ptr 1 0))), (3, PV.al (AL.one (Leaf.sl (Tag.own 6) 5 l8))), (5, PV.al (AL.one (Leaf.v (Value.int IntKind.i64 n7))))], boxes := [(1, [Leaf.sl Tag.free 4 l0, Leaf.v (Value.int IntKind.i64 n1), Leaf.v (Value.int IntKind.i64 n2), Leaf.sl Tag.free 8 l3, Leaf.sl Tag.free 6 l4, Leaf.sl Tag.free 5 l5, Leaf.sl Tag.free 3 l6])] }

theorem spec_PendingAll_L1_s0 (l0 : List (List D)) (n1 : Int) (n2 : Int) (l3 : List (List D)) (l4 : List (List D)) (l5 : List (List D)) (l6 : List (List D)) (n8 : Int) (l9 : List (List D)) (n10 : Int) (l11 : List (List D)) (n12 : Int) (n13 : Int) (n14 : Int) (n15 : Int)
    (h : Obs [decide (n8 < (↑l4.length : Int)) = true, 0 ≤ n8, n8 < (↑l4.length : Int), l4[n8.toNat]? = some [I n10, D.sl 5 l11, I n12, I n13, I n14, I n15], (l9.length + l11.length) * 40 ≤ 140737488355328, l9.length + l11.length ≤ 9223372036854775807, Flat l11, inInt IntKind.i64 (n8 + 1)]) :
    Tr Tryz.prog (loopOf Tryz.f8 1) (spec_PendingAll_L1 l0 n1 n2 l3 l4 l5 l6 n8 l9) Ex.normal (spec_PendingAll_L1 l0 n1 n2 l3 l4 l5 l6 (n8 + 1) (l9 ++ l11)) :=
  .of_loopc (ks := [5, 1, 3]) (bs := [1]) (ans := [Ans.br true, Ans.el [I n10, D.sl 5 l11, I n12, I n13, I n14, I n15]]) (by kernel_rfl) h

def spec_PendingAll_X1 (l0 : List (List D)) : St :=
  { env := envOf 46 [(3, PV.al (AL.one (Leaf.sl (Tag.own 6) 5 l0)))], boxes := [] }

theorem spec_PendingAll_L1_x1 (l0 : List (List D)) (n1 : Int) (n2 : Int) (l3 : List (List D)) (l4 : List (List D)) (l5 : List (List D)) (l6 : List (List D)) (n8 : Int) (l9 : List (List D))
    (h : Obs [decide (n8 < (↑l4.length : Int)) = false]) :
    Tr Tryz.prog (loopOf Tryz.f8 1) (spec_PendingAll_L1 l0 n1 n2 l3 l4 l5 l6 n8 l9) (Ex.exit 2) (spec_PendingAll_X1 l9) :=
  .of_loopc (ks := [3]) (bs := []) (ans := [Ans.br false]) (by kernel_rfl) h

theorem spec_PendingAll_p0 (l0 : List (List D)) (n1 : Int) (n2 : Int) (l3 : List (List D)) (l4 : List (List D)) (l5 : List (List D)) (l6 : List (List D)) (l7 : List (List D)) (l8 : List (List D)) (l9 : List (List D))
    (h : Obs [LoopOk Tryz.prog (loopOf Tryz.f8 0) (spec_PendingAll_L0 l0 n1 n2 l3 l4 l5 l6 0 []) (Ex.exit 0) (spec_PendingAll_X0 l0 n1 n2 l3 l4 l5 l6 l7), LoopOk Tryz.prog (loopOf Tryz.f8 1) (spec_PendingAll_L1 l0 n1 n2 l3 l4 l5 l6 0 l7) (Ex.exit 2) (spec_PendingAll_X1 l8), Ret Tryz.prog 30 [AD.one (D.sl 5 l8)] [AD.one (D.sl 5 l9)]]) :
    Ret Tryz.prog 8 [AD.agg [D.sl 4 l0, I n1, I n2, D.sl 8 l3, D.sl 6 l4, D.sl 5 l5, D.sl 3 l6]] [AD.one (D.sl 5 l9)] :=
  .of [Ans.loop [] [4, 1, 3] [1] (Ex.exit 0) (spec_PendingAll_X0 l0 n1 n2 l3 l4 l5 l6 l7), Ans.loop [] [5, 1, 3] [1] (Ex.exit 2) (spec_PendingAll_X1 l8), Ans.res [AD.one (D.sl 5 l9)]] _ Tryz.func8 rfl (by kernel_rfl) h

/- loop.example/g00973/spec.PendingOf -/

theorem spec_PendingOf_p0 (l0 : List (List D)) (n1 : Int) (n2 : Int) (l3 : List (List D)) (l4 : List (List D)) (l5 : List (List D)) (l6 : List (List D)) (n7 : Int) (l8 : List (List D)) (l9 : List (List D))
    (h : Obs [Ret Tryz.prog 8 [AD.agg [D.sl 4 l0, I n1, I n2, D.sl 8 l3, D.sl 6 l4, D.sl 5 l5, D.sl 3 l6]] [AD.one (D.sl 5 l8)], Ret Tryz.prog 48 [AD.one (D.sl 5 l8), AD.one (I n7)] [AD.one (D.sl 5 l9)]]) :
    Ret Tryz.prog 16 [AD.agg [D.sl 4 l0, I n1, I n2, D.sl 8 l3, D.sl 6 l4, D.sl 5 l5, D.sl 3 l6], AD.one (I n7)] [AD.one (D.sl 5 l9)] :=
  .of [Ans.res [AD.one (D.sl 5 l8)], Ans.res [AD.one (D.sl 5 l9)]] _ Tryz.func16 rfl (by kernel_rfl) h

/- loop.example/g00973/spec.OfEpoch -/

def spec_OfEpoch_L0 (l0 : List (List D)) (n1 : Int) (n2 : Int) (l3 : List (List D)) : St :=
  { env := envOf 30 [(0, PV.al (AL.one (Leaf.sl Tag.free 5 l0))), (1, PV.al (AL.one (Leaf.v (Value.int IntKind.i64 n1)))), (5, PV.al (AL.one (Leaf.sl (Tag.own 7) 5 l3))), (6, PV.al (AL.one (Leaf.v (Value.int IntKind.i64 n2))))], boxes := [] }

theorem spec_OfEpoch_L0_s0 (l0 : List (List D)) (n1 : Int) (n2 : Int) (l3 : List (List D)) (n4 : Int) (n5 : Int) (n6 : Int) (n7 : Int) (n8 : Int) (n9 : Int) (n10 : Int) (n11 : Int) (n12 : Int) (n13 : Int)
    (h : Obs [decide (n2 < (↑l0.length : Int)) = true, 0 ≤ n2, n2 < (↑l0.length : Int), l0[n2.toNat]? = some [I n4, I n5, I n6, I n7, I n8], (n5 == n1) = true, 0 ≤ n2, n2 < (↑l0.length : Int), l0[n2.toNat]? = some [I n9, I n10, I n11, I n12, I n13], (l3.length + [[I n9, I n10, I n11, I n12, I n13]].length) * 40 ≤ 140737488355328, l3.length + [[I n9, I n10, I n11, I n12, I n13]].length ≤ 9223372036854775807, Flat [[I n9, I n10, I n11, I n12, I n13]], inInt IntKind.i64 (n2 + 1)]) :
    Tr Tryz.prog (loopOf Tryz.f48 0) (spec_OfEpoch_L0 l0 n1 n2 l3) Ex.normal (spec_OfEpoch_L0 l0 n1 (n2 + 1) (l3 ++ [[I n9, I n10, I n11, I n12, I n13]])) :=
  .of_loopc (ks := [6, 0, 1, 5]) (bs := []) (ans := [Ans.br true, Ans.el [I n4, I n5, I n6, I n7, I n8], Ans.br true, Ans.el [I n9, I n10, I n11, I n12, I n13]]) (by kernel_rfl) h

theorem spec_OfEpoch_L0_s1 (l0 : List (List D)) (n1 : Int) (n2 : Int) (l3 : List (List D)) (n4 : Int) (n5 : Int) (n6 : Int) (n7 : Int) (n8 : Int)
    (h : Obs [decide (n2 < (↑l0.length : Int)) = true, 0 ≤ n2, n2 < (↑l0.length : Int), l0[n2.toNat]? = some [I n4, I n5, I n6, I n7, I n8], (n5 == n1) = false, inInt IntKind.i64 (n2 + 1)]) :
    Tr Tryz.prog (loopOf Tryz.f48 0) (spec_OfEpoch_L0 l0 n1 n2 l3) Ex.normal (spec_OfEpoch_L0 l0 n1 (n2 + 1) l3) :=
  .of_loopc (ks := [6, 0, 1, 5]) (bs := []) (ans := [Ans.br true, Ans.el [I n4, I n5, I n6, I n7, I n8], Ans.br false]) (by kernel_rfl) h

def spec_OfEpoch_X0 (l0 : List (List D)) : St :=
  { env := envOf 30 [(5, PV.al (AL.one (Leaf.sl (Tag.own 7) 5 l0)))], boxes := [] }

theorem spec_OfEpoch_L0_x2 (l0 : List (List D)) (n1 : Int) (n2 : Int) (l3 : List (List D))
    (h : Obs [decide (n2 < (↑l0.length : Int)) = false]) :
    Tr Tryz.prog (loopOf Tryz.f48 0) (spec_OfEpoch_L0 l0 n1 n2 l3) (Ex.exit 0) (spec_OfEpoch_X0 l3) :=
  .of_loopc (ks := [5]) (bs := []) (ans := [Ans.br false]) (by kernel_rfl) h

theorem spec_OfEpoch_p0 (l0 : List (List D)) (n1 : Int) (l2 : List (List D))
    (h : Obs [LoopOk Tryz.prog (loopOf Tryz.f48 0) (spec_OfEpoch_L0 l0 n1 0 []) (Ex.exit 0) (spec_OfEpoch_X0 l2)]) :
    Ret Tryz.prog 48 [AD.one (D.sl 5 l0), AD.one (I n1)] [AD.one (D.sl 5 l2)] :=
  .of [Ans.loop [] [6, 0, 1, 5] [] (Ex.exit 0) (spec_OfEpoch_X0 l2)] _ Tryz.func48 rfl (by kernel_rfl) h

/- loop.example/g00973/spec.Minimal -/

def spec_Minimal_L0 (l0 : List (List D)) (n1 : Int) (l2 : List (List D)) : St :=
  { env := envOf 98 [(0, PV.al (AL.one (Leaf.sl Tag.free 2 l0))), (3, PV.al (AL.one (Leaf.sl (Tag.own 3) 2 l2))), (4, PV.al (AL.one (Leaf.v (Value.int IntKind.i64 n1))))], boxes := [] }

def spec_Minimal_L1 (l0 : List (List D)) (n1 : Int) (l2 : List (List D)) (n3 : Int) (b4 : Bool) : St :=
  { env := envOf 98 [(0, PV.al (AL.one (Leaf.sl Tag.free 2 l0))), (3, PV.al (AL.one (Leaf.sl (Tag.own 3) 2 l2))), (4, PV.al (AL.one (Leaf.v (Value.int IntKind.i64 n1)))), (5, PV.al (AL.one (Leaf.sb b4))), (6, PV.al (AL.one (Leaf.v (Value.int IntKind.i64 n3))))], boxes := [] }

theorem spec_Minimal_L1_s0 (l0 : List (List D)) (n1 : Int) (l2 : List (List D)) (n3 : Int) (b4 : Bool) (n5 : Int) (n6 : Int) (n7 : Int) (n8 : Int)
    (h : Obs [decide (n3 < (↑l0.length : Int)) = true, b4 = true, 0 ≤ n3, n3 < (↑l0.length : Int), l0[n3.toNat]? = some [I n5, I n6], 0 ≤ n1, n1 < (↑l0.length : Int), l0[n1.toNat]? = some [I n7, I n8], (n5 == n7 && n6 == n8) = true, inInt IntKind.i64 (n3 + 1)]) :
    Tr Tryz.prog (loopOf Tryz.f50 1) (spec_Minimal_L1 l0 n1 l2 n3 b4) Ex.normal (spec_Minimal_L1 l0 n1 l2 (n3 + 1) true) :=
  .of_loopc (ks := [6, 0, 5, 4, 3]) (bs := []) (ans := [Ans.br true, Ans.br true, Ans.el [I n5, I n6], Ans.el [I n7, I n8], Ans.br true]) (by kernel_rfl) h

theorem spec_Minimal_L1_s1 (l0 : List (List D)) (n1 : Int) (l2 : List (List D)) (n3 : Int) (b4 : Bool) (n5 : Int) (n6 : Int) (n7 : Int) (n8 : Int) (n9 : Int) (n10 : Int) (n11 : Int) (n12 : Int) (b13 : Bool)
    (h : Obs [decide (n3 < (↑l0.length : Int)) = true, b4 = true, 0 ≤ n3, n3 < (↑l0.length : Int), l0[n3.toNat]? = some [I n5, I n6], 0 ≤ n1, n1 < (↑l0.length : Int), l0[n1.toNat]? = some [I n7, I n8], (n5 == n7 && n6 == n8) = false, 0 ≤ n3, n3 < (↑l0.length : Int), l0[n3.toNat]? = some [I n9, I n10], 0 ≤ n1, n1 < (↑l0.length : Int), l0[n1.toNat]? = some [I n11, I n12], Ret Tryz.prog 83 [AD.agg [I n9, I n10], AD.agg [I n11, I n12]] [AD.one (B b13)], inInt IntKind.i64 (n3 + 1)]) :
    Tr Tryz.prog (loopOf Tryz.f50 1) (spec_Minimal_L1 l0 n1 l2 n3 b4) Ex.normal (spec_Minimal_L1 l0 n1 l2 (n3 + 1) !b13) :=
  .of_loopc (ks := [6, 0, 5, 4, 3]) (bs := []) (ans := [Ans.br true, Ans.br true, Ans.el [I n5, I n6], Ans.el [I n7, I n8], Ans.br false, Ans.el [I n9, I n10], Ans.el [I n11, I n12], Ans.res [AD.one (B b13)]]) (by kernel_rfl) h

theorem spec_Minimal_L1_s2 (l0 : List (List D)) (n1 : Int) (l2 : List (List D)) (n3 : Int) (b4 : Bool)
    (h : Obs [decide (n3 < (↑l0.length : Int)) = true, b4 = false, inInt IntKind.i64 (n3 + 1)]) :
    Tr Tryz.prog (loopOf Tryz.f50 1) (spec_Minimal_L1 l0 n1 l2 n3 b4) Ex.normal (spec_Minimal_L1 l0 n1 l2 (n3 + 1) false) :=
  .of_loopc (ks := [6, 0, 5, 4, 3]) (bs := []) (ans := [Ans.br true, Ans.br false]) (by kernel_rfl) h

def spec_Minimal_X1 (l0 : List (List D)) (n1 : Int) (l2 : List (List D)) (b3 : Bool) : St :=
  { env := envOf 98 [(0, PV.al (AL.one (Leaf.sl Tag.free 2 l0))), (3, PV.al (AL.one (Leaf.sl (Tag.own 3) 2 l2))), (4, PV.al (AL.one (Leaf.v (Value.int IntKind.i64 n1)))), (5, PV.al (AL.one (Leaf.sb b3)))], boxes := [] }

theorem spec_Minimal_L1_x3 (l0 : List (List D)) (n1 : Int) (l2 : List (List D)) (n3 : Int) (b4 : Bool)
    (h : Obs [decide (n3 < (↑l0.length : Int)) = false]) :
    Tr Tryz.prog (loopOf Tryz.f50 1) (spec_Minimal_L1 l0 n1 l2 n3 b4) (Ex.exit 2) (spec_Minimal_X1 l0 n1 l2 b4) :=
  .of_loopc (ks := [5, 4, 0, 3]) (bs := []) (ans := [Ans.br false]) (by kernel_rfl) h

theorem spec_Minimal_L0_s0 (l0 : List (List D)) (n1 : Int) (l2 : List (List D)) (b3 : Bool)
    (h : Obs [decide (n1 < (↑l0.length : Int)) = true, LoopOk Tryz.prog (loopOf Tryz.f50 1) (spec_Minimal_L1 l0 n1 l2 0 true) (Ex.exit 2) (spec_Minimal_X1 l0 n1 l2 b3), (!b3) = true, inInt IntKind.i64 (n1 + 1)]) :
    Tr Tryz.prog (loopOf Tryz.f50 0) (spec_Minimal_L0 l0 n1 l2) Ex.normal (spec_Minimal_L0 l0 (n1 + 1) l2) :=
  .of_loopr (ns := [(3, 3, 2)]) (ks := [4, 0, 3]) (bs := []) (ans := [Ans.br true, Ans.loop [] [6, 0, 5, 4, 3] [] (Ex.exit 2) (spec_Minimal_X1 l0 n1 l2 b3), Ans.br true]) (by kernel_rfl) h

def spec_Minimal_L2 (l0 : List (List D)) (n1 : Int) (l2 : List (List D)) (n3 : Int) : St :=
  { env := envOf 98 [(0, PV.al (AL.one (Leaf.sl Tag.free 2 l0))), (3, PV.al (AL.one (Leaf.sl (Tag.own 3) 2 l2))), (4, PV.al (AL.one (Leaf.v (Value.int IntKind.i64 n1)))), (7, PV.al (AL.one (Leaf.v (Value.int IntKind.i64 n3))))], boxes := [] }

theorem spec_Minimal_L2_s0 (l0 : List (List D)) (n1 : Int) (l2 : List (List D)) (n4 : Int) (n5 : Int) (n6 : Int) (n7 : Int) (n8 : Int) (n9 : Int)
    (h : Obs [decide (n4 < (↑l2.length : Int)) = true, 0 ≤ n4, n4 < (↑l2.length : Int), l2[n4.toNat]? = some [I n5, I n6], 0 ≤ n1, n1 < (↑l0.length : Int), l0[n1.toNat]? = some [I n7, I n8], Ret Tryz.prog 84 [AD.agg [I n5, I n6], AD.agg [I n7, I n8]] [AD.one (I n9)], decide (n9 < 0) = true, inInt IntKind.i64 (n4 + 1)]) :
    Tr Tryz.prog (loopOf Tryz.f50 2) (spec_Minimal_L2 l0 n1 l2 n4) Ex.normal (spec_Minimal_L2 l0 n1 l2 (n4 + 1)) :=
  .of_loopc (ks := [7, 3, 0, 4]) (bs := []) (ans := [Ans.br true, Ans.el [I n5, I n6], Ans.el [I n7, I n8], Ans.res [AD.one (I n9)], Ans.br true]) (by kernel_rfl) h

def spec_Minimal_X2 (l0 : List (List D)) (n1 : Int) (l2 : List (List D)) (n3 : Int) : St :=
  { env := envOf 98 [(0, PV.al (AL.one (Leaf.sl Tag.free 2 l0))), (3, PV.al (AL.one (Leaf.sl (Tag.own 3) 2 l2))), (4, PV.al (AL.one (Leaf.v (Value.int IntKind.i64 n1)))), (7, PV.al (AL.one (Leaf.v (Value.int IntKind.i64 n3))))], boxes := [] }

theorem spec_Minimal_L2_x1 (l0 : List (List D)) (n1 : Int) (l2 : List (List D)) (n4 : Int) (n5 : Int) (n6 : Int) (n7 : Int) (n8 : Int) (n9 : Int)
    (h : Obs [decide (n4 < (↑l2.length : Int)) = true, 0 ≤ n4, n4 < (↑l2.length : Int), l2[n4.toNat]? = some [I n5, I n6], 0 ≤ n1, n1 < (↑l0.length : Int), l0[n1.toNat]? = some [I n7, I n8], Ret Tryz.prog 84 [AD.agg [I n5, I n6], AD.agg [I n7, I n8]] [AD.one (I n9)], decide (n9 < 0) = false]) :
    Tr Tryz.prog (loopOf Tryz.f50 2) (spec_Minimal_L2 l0 n1 l2 n4) (Ex.exit 4) (spec_Minimal_X2 l0 n1 l2 n4) :=
  .of_loopc (ks := [7, 3, 0, 4]) (bs := []) (ans := [Ans.br true, Ans.el [I n5, I n6], Ans.el [I n7, I n8], Ans.res [AD.one (I n9)], Ans.br false]) (by kernel_rfl) h

theorem spec_Minimal_L2_x2 (l0 : List (List D)) (n1 : Int) (l2 : List (List D)) (n4 : Int)
    (h : Obs [decide (n4 < (↑l2.length : Int)) = false]) :
    Tr Tryz.prog (loopOf Tryz.f50 2) (spec_Minimal_L2 l0 n1 l2 n4) (Ex.exit 4) (spec_Minimal_X2 l0 n1 l2 n4) :=
  .of_loopc (ks := [7, 3, 0, 4]) (bs := []) (ans := [Ans.br false]) (by kernel_rfl) h

theorem spec_Minimal_L0_s1 (l0 : List (List D)) (n1 : Int) (l2 : List (List D)) (b3 : Bool) (n4 : Int) (n5 : Int) (n6 : Int) (n7 : Int) (n8 : Int)
    (h : Obs [decide (n1 < (↑l0.length : Int)) = true, LoopOk Tryz.prog (loopOf Tryz.f50 1) (spec_Minimal_L1 l0 n1 l2 0 true) (Ex.exit 2) (spec_Minimal_X1 l0 n1 l2 b3), (!b3) = false, LoopOk Tryz.prog (loopOf Tryz.f50 2) (spec_Minimal_L2 l0 n1 l2 0) (Ex.exit 4) (spec_Minimal_X2 l0 n1 l2 n4), decide (n4 < (↑l2.length : Int)) = true, 0 ≤ n4, n4 < (↑l2.length : Int), l2[n4.toNat]? = some [I n5, I n6], 0 ≤ n1, n1 < (↑l0.length : Int), l0[n1.toNat]? = some [I n7, I n8], (n5 == n7 && n6 == n8) = true, inInt IntKind.i64 (n1 + 1)]) :
    Tr Tryz.prog (loopOf Tryz.f50 0) (spec_Minimal_L0 l0 n1 l2) Ex.normal (spec_Minimal_L0 l0 (n1 + 1) l2) :=
  .of_loopr (ns := [(3, 3, 2)]) (ks := [4, 0, 3]) (bs := []) (ans := [Ans.br true, Ans.loop [] [6, 0, 5, 4, 3] [] (Ex.exit 2) (spec_Minimal_X1 l0 n1 l2 b3), Ans.br false, Ans.loop [] [7, 3, 0, 4] [] (Ex.exit 4) (spec_Minimal_X2 l0 n1 l2 n4), Ans.br true, Ans.el [I n5, I n6], Ans.el [I n7, I n8], Ans.br true]) (by kernel_rfl) h

theorem spec_Minimal_L0_s2 (l0 : List (List D)) (n1 : Int) (l2 : List (List D)) (b3 : Bool) (n4 : Int) (n5 : Int) (n6 : Int) (n7 : Int) (n8 : Int) (n9 : Int) (n10 : Int)
    (h : Obs [decide (n1 < (↑l0.length : Int)) = true, LoopOk Tryz.prog (loopOf Tryz.f50 1) (spec_Minimal_L1 l0 n1 l2 0 true) (Ex.exit 2) (spec_Minimal_X1 l0 n1 l2 b3), (!b3) = false, LoopOk Tryz.prog (loopOf Tryz.f50 2) (spec_Minimal_L2 l0 n1 l2 0) (Ex.exit 4) (spec_Minimal_X2 l0 n1 l2 n4), decide (n4 < (↑l2.length : Int)) = true, 0 ≤ n4, n4 < (↑l2.length : Int), l2[n4.toNat]? = some [I n5, I n6], 0 ≤ n1, n1 < (↑l0.length : Int), l0[n1.toNat]? = some [I n7, I n8], (n5 == n7 && n6 == n8) = false, (0 : Int) ≤ none.getD 0, none.getD 0 ≤ (some n4).getD (↑l2.length : Int), (some n4).getD (↑l2.length : Int) ≤ (↑l2.length : Int), (([] : List (List D)).length + (List.take (((some n4).getD (↑l2.length : Int)).toNat - 0) (List.drop 0 l2)).length) * 16 ≤ 140737488355328, ([] : List (List D)).length + (List.take (((some n4).getD (↑l2.length : Int)).toNat - 0) (List.drop 0 l2)).length ≤ 9223372036854775807, Flat (List.take (((some n4).getD (↑l2.length : Int)).toNat - 0) (List.drop 0 l2)), 0 ≤ n1, n1 < (↑l0.length : Int), l0[n1.toNat]? = some [I n9, I n10], (([] ++ List.take (((some n4).getD (↑l2.length : Int)).toNat - 0) (List.drop 0 l2)).length + [[I n9, I n10]].length) * 16 ≤ 140737488355328, ([] ++ List.take (((some n4).getD (↑l2.length : Int)).toNat - 0) (List.drop 0 l2)).length + [[I n9, I n10]].length ≤ 9223372036854775807, Flat [[I n9, I n10]], 0 ≤ (some n4).getD 0, (some n4).getD 0 ≤ none.getD (↑l2.length : Int), none.getD (↑l2.length : Int) ≤ (↑l2.length : Int), (([] ++ List.take (((some n4).getD (↑l2.length : Int)).toNat - 0) (List.drop 0 l2) ++ [[I n9, I n10]]).length + (List.take (l2.length - ((some n4).getD 0).toNat) (List.drop ((some n4).getD 0).toNat l2)).length) * 16 ≤ 140737488355328, ([] ++ List.take (((some n4).getD (↑l2.length : Int)).toNat - 0) (List.drop 0 l2) ++ [[I n9, I n10]]).length + (List.take (l2.length - ((some n4).getD 0).toNat) (List.drop ((some n4).getD 0).toNat l2)).length ≤ 9223372036854775807, Flat (List.take (l2.length - ((some n4).getD 0).toNat) (List.drop ((some n4).getD 0).toNat l2)), inInt IntKind.i64 (n1 + 1)]) :
    Tr Tryz.prog (loopOf Tryz.f50 0) (spec_Minimal_L0 l0 n1 l2) Ex.normal (spec_Minimal_L0 l0 (n1 + 1) ([] ++ List.take (((some n4).getD (↑l2.length : Int)).toNat - 0) (List.drop 0 l2) ++ [[I n9, I n10]] ++ List.take (l2.length - ((some n4).getD 0).toNat) (List.drop ((some n4).getD 0).toNat l2))) :=
  .of_loopr (ns := [(3, 3, 2)]) (ks := [4, 0, 3]) (bs := []) (ans := [Ans.br true, Ans.loop [] [6, 0, 5, 4, 3] [] (Ex.exit 2) (spec_Minimal_X1 l0 n1 l2 b3), Ans.br false, Ans.loop [] [7, 3, 0, 4] [] (Ex.exit 4) (spec_Minimal_X2 l0 n1 l2 n4), Ans.br true, Ans.el [I n5, I n6], Ans.el [I n7, I n8], Ans.br false, Ans.el [I n9, I n10]]) (by kernel_rfl) h

theorem spec_Minimal_L0_s3 (l0 : List (List D)) (n1 : Int) (l2 : List (List D)) (b3 : Bool) (n4 : Int) (n5 : Int) (n6 : Int)
    (h : Obs [decide (n1 < (↑l0.length : Int)) = true, LoopOk Tryz.prog (loopOf Tryz.f50 1) (spec_Minimal_L1 l0 n1 l2 0 true) (Ex.exit 2) (spec_Minimal_X1 l0 n1 l2 b3), (!b3) = false, LoopOk Tryz.prog (loopOf Tryz.f50 2) (spec_Minimal_L2 l0 n1 l2 0) (Ex.exit 4) (spec_Minimal_X2 l0 n1 l2 n4), decide (n4 < (↑l2.length : Int)) = false, (0 : Int) ≤ none.getD 0, none.getD 0 ≤ (some n4).getD (↑l2.length : Int), (some n4).getD (↑l2.length : Int) ≤ (↑l2.length : Int), (([] : List (List D)).length + (List.take (((some n4).getD (↑l2.length : Int)).toNat - 0) (List.drop 0 l2)).length) * 16 ≤ 140737488355328, ([] : List (List D)).length + (List.take (((some n4).getD (↑l2.length : Int)).toNat - 0) (List.drop 0 l2)).length ≤ 9223372036854775807, Flat (List.take (((some n4).getD (↑l2.length : Int)).toNat - 0) (List.drop 0 l2)), 0 ≤ n1, n1 < (↑l0.length : Int), l0[n1.toNat]? = some [I n5, I n6], (([] ++ List.take (((some n4).getD (↑l2.length : Int)).toNat - 0) (List.drop 0 l2)).length + [[I n5, I n6]].length) * 16 ≤ 140737488355328, ([] ++ List.take (((some n4).getD (↑l2.length : Int)).toNat - 0) (List.drop 0 l2)).length + [[I n5, I n6]].length ≤ 9223372036854775807, Flat [[I n5, I n6]], 0 ≤ (some n4).getD 0, (some n4).getD 0 ≤ none.getD (↑l2.length : Int), none.getD (↑l2.length : Int) ≤ (↑l2.length : Int), (([] ++ List.take (((some n4).getD (↑l2.length : Int)).toNat - 0) (List.drop 0 l2) ++ [[I n5, I n6]]).length + (List.take (l2.length - ((some n4).getD 0).toNat) (List.drop ((some n4).getD 0).toNat l2)).length) * 16 ≤ 140737488355328, ([] ++ List.take (((some n4).getD (↑l2.length : Int)).toNat - 0) (List.drop 0 l2) ++ [[I n5, I n6]]).length + (List.take (l2.length - ((some n4).getD 0).toNat) (List.drop ((some n4).getD 0).toNat l2)).length ≤ 9223372036854775807, Flat (List.take (l2.length - ((some n4).getD 0).toNat) (List.drop ((some n4).getD 0).toNat l2)), inInt IntKind.i64 (n1 + 1)]) :
    Tr Tryz.prog (loopOf Tryz.f50 0) (spec_Minimal_L0 l0 n1 l2) Ex.normal (spec_Minimal_L0 l0 (n1 + 1) ([] ++ List.take (((some n4).getD (↑l2.length : Int)).toNat - 0) (List.drop 0 l2) ++ [[I n5, I n6]] ++ List.take (l2.length - ((some n4).getD 0).toNat) (List.drop ((some n4).getD 0).toNat l2))) :=
  .of_loopr (ns := [(3, 3, 2)]) (ks := [4, 0, 3]) (bs := []) (ans := [Ans.br true, Ans.loop [] [6, 0, 5, 4, 3] [] (Ex.exit 2) (spec_Minimal_X1 l0 n1 l2 b3), Ans.br false, Ans.loop [] [7, 3, 0, 4] [] (Ex.exit 4) (spec_Minimal_X2 l0 n1 l2 n4), Ans.br false, Ans.el [I n5, I n6]]) (by kernel_rfl) h

def spec_Minimal_X0 (l0 : List (List D)) : St :=
  { env := envOf 98 [(3, PV.al (AL.one (Leaf.sl (Tag.own 3) 2 l0)))], boxes := [] }

theorem spec_Minimal_L0_x4 (l0 : List (List D)) (n1 : Int) (l2 : List (List D))
    (h : Obs [decide (n1 < (↑l0.length : Int)) = false]) :
    Tr Tryz.prog (loopOf Tryz.f50 0) (spec_Minimal_L0 l0 n1 l2) (Ex.exit 0) (spec_Minimal_X0 l2) :=
  .of_loopc (ks := [3]) (bs := []) (ans := [Ans.br false]) (by kernel_rfl) h

theorem spec_Minimal_p0 (l0 : List (List D)) (l1 : List (List D))
    (h : Obs [LoopOk Tryz.prog (loopOf Tryz.f50 0) (spec_Minimal_L0 l0 0 []) (Ex.exit 0) (spec_Minimal_X0 l1)]) :
    Ret Tryz.prog 50 [AD.one (D.sl 2 l0)] [AD.one (D.sl 2 l1)] :=
  .of [Ans.loop [(3, 3, 2)] [4, 0, 3] [] (Ex.exit 0) (spec_Minimal_X0 l1)] _ Tryz.func50 rfl (by kernel_rfl) h

/- loop.example/g00973/spec.StampLeq -/

theorem spec_StampLeq_p0 (n0 : Int) (n1 : Int) (n2 : Int) (n3 : Int)
    (h : Obs [decide (n0 ≤ n2) = true]) :
    Ret Tryz.prog 83 [AD.agg [I n0, I n1], AD.agg [I n2, I n3]] [AD.one (B (decide (n1 ≤ n3)))] :=
  .of [Ans.br true] _ Tryz.func83 rfl (by kernel_rfl) h

theorem spec_StampLeq_p1 (n0 : Int) (n1 : Int) (n2 : Int) (n3 : Int)
    (h : Obs [decide (n0 ≤ n2) = false]) :
    Ret Tryz.prog 83 [AD.agg [I n0, I n1], AD.agg [I n2, I n3]] [AD.one (B false)] :=
  .of [Ans.br false] _ Tryz.func83 rfl (by kernel_rfl) h

/- loop.example/g00973/spec.FrontAll -/

def spec_FrontAll_L0 (l0 : List (List D)) (n1 : Int) (n2 : Int) (l3 : List (List D)) (l4 : List (List D)) (l5 : List (List D)) (l6 : List (List D)) (n7 : Int) (l8 : List (List D)) : St :=
  { env := envOf 41 [(1, PV.al (AL.one (Leaf.ptr 1 0))), (3, PV.al (AL.one (Leaf.sl (Tag.own 7) 2 []))), (4, PV.al (AL.one (Leaf.sl (Tag.own 100000) 5 l8))), (5, PV.al (AL.one (Leaf.v (Value.int IntKind.i64 n7))))], boxes := [(1, [Leaf.sl Tag.free 4 l0, Leaf.v (Value.int IntKind.i64 n1), Leaf.v (Value.int IntKind.i64 n2), Leaf.sl Tag.free 8 l3, Leaf.sl Tag.free 6 l4, Leaf.sl Tag.free 5 l5, Leaf.sl Tag.free 3 l6])] }

theorem spec_FrontAll_L0_s0 (l0 : List (List D)) (n1 : Int) (n2 : Int) (l3 : List (List D)) (l4 : List (List D)) (l5 : List (List D)) (l6 : List (List D)) (n8 : Int) (l9 : List (List D)) (l10 : List (List D)) (l11 : List (List D)) (l12 : List (List D)) (l13 : List (List D)) (l14 : List (List D)) (l15 : List (List D)) (l16 : List (List D)) (l17 : List (List D))
    (h : Obs [decide (n8 < (↑l3.length : Int)) = true, 0 ≤ n8, n8 < (↑l3.length : Int), l3[n8.toNat]? = some [D.sl 5 l10, D.sl 5 l11, D.sl 5 l12, D.sl 4 l13, D.sl 1 l14, D.sl 1 l15, D.sl 1 l16, D.sl 2 l17], (l9.length + l12.length) * 40 ≤ 140737488355328, l9.length + l12.length ≤ 9223372036854775807, Flat l12, inInt IntKind.i64 (n8 + 1)]) :
    Tr Tryz.prog (loopOf Tryz.f18 0) (spec_FrontAll_L0 l0 n1 n2 l3 l4 l5 l6 n8 l9) Ex.normal (spec_FrontAll_L0 l0 n1 n2 l3 l4 l5 l6 (n8 + 1) (l9 ++ l12)) :=
  .of_loopc (ks := [5, 1, 4, 3]) (bs := [1]) (ans := [Ans.br true, Ans.el [D.sl 5 l10, D.sl 5 l11, D.sl 5 l12, D.sl 4 l13, D.sl 1 l14, D.sl 1 l15, D.sl 1 l16, D.sl 2 l17]]) (by kernel_rfl) h

def spec_FrontAll_X0 (l0 : List (List D)) : St :=
  { env := envOf 41 [(3, PV.al (AL.one (Leaf.sl (Tag.own 7) 2 []))), (4, PV.al (AL.one (Leaf.sl (Tag.own 100000) 5 l0)))], boxes := [] }

theorem spec_FrontAll_L0_x1 (l0 : List (List D)) (n1 : Int) (n2 : Int) (l3 : List (List D)) (l4 : List (List D)) (l5 : List (List D)) (l6 : List (List D)) (n8 : Int) (l9 : List (List D))
    (h : Obs [decide (n8 < (↑l3.length : Int)) = false]) :
    Tr Tryz.prog (loopOf Tryz.f18 0) (spec_FrontAll_L0 l0 n1 n2 l3 l4 l5 l6 n8 l9) (Ex.exit 0) (spec_FrontAll_X0 l9) :=
  .of_loopc (ks := [4, 3]) (bs := []) (ans := [Ans.br false]) (by kernel_rfl) h

def spec_FrontAll_L1 (l0 : List (List D)) (n1 : Int) (l2 : List (List D)) : St :=
  { env := envOf 41 [(3, PV.al (AL.one (Leaf.sl (Tag.own 7) 2 l2))), (4, PV.al (AL.one (Leaf.sl (Tag.own 100000) 5 l0))), (6, PV.al (AL.one (Leaf.v (Value.int IntKind.i64 n1))))], boxes := [] }

theorem spec_FrontAll_L1_s0 (l8 : List (List D)) (n9 : Int) (l10 : List (List D)) (n11 : Int) (n12 : Int) (n13 : Int) (n14 : Int) (n15 : Int)
    (h : Obs [decide (n9 < (↑l8.length : Int)) = true, 0 ≤ n9, n9 < (↑l8.length : Int), l8[n9.toNat]? = some [I n11, I n12, I n13, I n14, I n15], (l10.length + [[I n12, I n13]].length) * 16 ≤ 140737488355328, l10.length + [[I n12, I n13]].length ≤ 9223372036854775807, Flat [[I n12, I n13]], inInt IntKind.i64 (n9 + 1)]) :
    Tr Tryz.prog (loopOf Tryz.f18 1) (spec_FrontAll_L1 l8 n9 l10) Ex.normal (spec_FrontAll_L1 l8 (n9 + 1) (l10 ++ [[I n12, I n13]])) :=
  .of_loopc (ks := [6, 4, 3]) (bs := []) (ans := [Ans.br true, Ans.el [I n11, I n12, I n13, I n14, I n15]]) (by kernel_rfl) h

def spec_FrontAll_X1 (l0 : List (List D)) : St :=
  { env := envOf 41 [(3, PV.al (AL.one (Leaf.sl (Tag.own 7) 2 l0)))], boxes := [] }

theorem spec_FrontAll_L1_x1 (l8 : List (List D)) (n9 : Int) (l10 : List (List D))
    (h : Obs [decide (n9 < (↑l8.length : Int)) = false]) :
    Tr Tryz.prog (loopOf Tryz.f18 1) (spec_FrontAll_L1 l8 n9 l10) (Ex.exit 2) (spec_FrontAll_X1 l10) :=
  .of_loopc (ks := [3]) (bs := []) (ans := [Ans.br false]) (by kernel_rfl) h

theorem spec_FrontAll_p0 (l0 : List (List D)) (n1 : Int) (n2 : Int) (l3 : List (List D)) (l4 : List (List D)) (l5 : List (List D)) (l6 : List (List D)) (l7 : List (List D)) (l8 : List (List D)) (l9 : List (List D)) (l10 : List (List D))
    (h : Obs [Ret Tryz.prog 8 [AD.agg [D.sl 4 l0, I n1, I n2, D.sl 8 l3, D.sl 6 l4, D.sl 5 l5, D.sl 3 l6]] [AD.one (D.sl 5 l7)], LoopOk Tryz.prog (loopOf Tryz.f18 0) (spec_FrontAll_L0 l0 n1 n2 l3 l4 l5 l6 0 l7) (Ex.exit 0) (spec_FrontAll_X0 l8), LoopOk Tryz.prog (loopOf Tryz.f18 1) (spec_FrontAll_L1 l8 0 []) (Ex.exit 2) (spec_FrontAll_X1 l9), Ret Tryz.prog 50 [AD.one (D.sl 2 l9)] [AD.one (D.sl 2 l10)]]) :
    Ret Tryz.prog 18 [AD.agg [D.sl 4 l0, I n1, I n2, D.sl 8 l3, D.sl 6 l4, D.sl 5 l5, D.sl 3 l6]] [AD.one (D.sl 2 l10)] :=
  .of [Ans.res [AD.one (D.sl 5 l7)], Ans.loop [] [5, 1, 4, 3] [1] (Ex.exit 0) (spec_FrontAll_X0 l8), Ans.loop [] [6, 4, 3] [] (Ex.exit 2) (spec_FrontAll_X1 l9), Ans.res [AD.one (D.sl 2 l10)]] _ Tryz.func18 rfl (by kernel_rfl) h

/- loop.example/g00973/spec.IsDone -/

def spec_IsDone_L0 (l0 : List (List D)) (l1 : List (List D)) (l2 : List (List D)) (l3 : List (List D)) (l4 : List (List D)) (l5 : List (List D)) (l6 : List (List D)) (l7 : List (List D)) (n8 : Int) (n9 : Int) : St :=
  { env := envOf 21 [(1, PV.al (AL.one (Leaf.v (Value.int IntKind.i64 n8)))), (2, PV.al (AL.one (Leaf.ptr 2 0))), (5, PV.al (AL.one (Leaf.v (Value.int IntKind.i64 n9))))], boxes := [(2, [Leaf.sl Tag.free 5 l0, Leaf.sl Tag.free 5 l1, Leaf.sl Tag.free 5 l2, Leaf.sl Tag.free 4 l3, Leaf.sl Tag.free 1 l4, Leaf.sl Tag.free 1 l5, Leaf.sl Tag.free 1 l6, Leaf.sl Tag.free 2 l7])] }

def spec_IsDone_X0 (b0 : Bool) : St :=
  { env := envOf 21 [(4, PV.al (AL.one (Leaf.sb b0)))], boxes := [] }

theorem spec_IsDone_L0_x0 (l0 : List (List D)) (l1 : List (List D)) (l2 : List (List D)) (l3 : List (List D)) (l4 : List (List D)) (l5 : List (List D)) (l6 : List (List D)) (l7 : List (List D)) (n8 : Int) (n9 : Int) (n10 : Int) (b11 : Bool)
    (h : Obs [decide (n9 < (↑l7.length : Int)) = true, 0 ≤ n9, n9 < (↑l7.length : Int), l7[n9.toNat]? = some [I n10, B b11], (n10 == n8) = true]) :
    Tr Tryz.prog (loopOf Tryz.f53 0) (spec_IsDone_L0 l0 l1 l2 l3 l4 l5 l6 l7 n8 n9) Ex.ret (spec_IsDone_X0 true) :=
  .of_loopc (ks := [4]) (bs := []) (ans := [Ans.br true, Ans.el [I n10, B b11], Ans.br true]) (by kernel_rfl) h

theorem spec_IsDone_L0_s1 (l0 : List (List D)) (l1 : List (List D)) (l2 : List (List D)) (l3 : List (List D)) (l4 : List (List D)) (l5 : List (List D)) (l6 : List (List D)) (l7 : List (List D)) (n8 : Int) (n9 : Int) (n10 : Int) (b11 : Bool)
    (h : Obs [decide (n9 < (↑l7.length : Int)) = true, 0 ≤ n9, n9 < (↑l7.length : Int), l7[n9.toNat]? = some [I n10, B b11], (n10 == n8) = false, inInt IntKind.i64 (n9 + 1)]) :
    Tr Tryz.prog (loopOf Tryz.f53 0) (spec_IsDone_L0 l0 l1 l2 l3 l4 l5 l6 l7 n8 n9) Ex.normal (spec_IsDone_L0 l0 l1 l2 l3 l4 l5 l6 l7 n8 (n9 + 1)) :=
  .of_loopc (ks := [5, 2, 1]) (bs := [2]) (ans := [Ans.br true, Ans.el [I n10, B b11], Ans.br false]) (by kernel_rfl) h

def spec_IsDone_X0v2 : St :=
  { env := envOf 21 [], boxes := [] }

theorem spec_IsDone_L0_x2 (l0 : List (List D)) (l1 : List (List D)) (l2 : List (List D)) (l3 : List (List D)) (l4 : List (List D)) (l5 : List (List D)) (l6 : List (List D)) (l7 : List (List D)) (n8 : Int) (n9 : Int)
    (h : Obs [decide (n9 < (↑l7.length : Int)) = false]) :
    Tr Tryz.prog (loopOf Tryz.f53 0) (spec_IsDone_L0 l0 l1 l2 l3 l4 l5 l6 l7 n8 n9) (Ex.exit 0) spec_IsDone_X0v2 :=
  .of_loopc (ks := []) (bs := []) (ans := [Ans.br false]) (by kernel_rfl) h

theorem spec_IsDone_p0 (l0 : List (List D)) (l1 : List (List D)) (l2 : List (List D)) (l3 : List (List D)) (l4 : List (List D)) (l5 : List (List D)) (l6 : List (List D)) (l7 : List (List D)) (n8 : Int) (b9 : Bool)
    (h : Obs [LoopOk Tryz.prog (loopOf Tryz.f53 0) (spec_IsDone_L0 l0 l1 l2 l3 l4 l5 l6 l7 n8 0) Ex.ret (spec_IsDone_X0 b9)]) :
    Ret Tryz.prog 53 [AD.agg [D.sl 5 l0, D.sl 5 l1, D.sl 5 l2, D.sl 4 l3, D.sl 1 l4, D.sl 1 l5, D.sl 1 l6, D.sl 2 l7], AD.one (I n8)] [AD.one (B b9)] :=
  .of [Ans.loop [] [5, 2, 1] [2] Ex.ret (spec_IsDone_X0 b9)] _ Tryz.func53 rfl (by kernel_rfl) h

theorem spec_IsDone_p1 (l0 : List (List D)) (l1 : List (List D)) (l2 : List (List D)) (l3 : List (List D)) (l4 : List (List D)) (l5 : List (List D)) (l6 : List (List D)) (l7 : List (List D)) (n8 : Int)
    (h : Obs [LoopOk Tryz.prog (loopOf Tryz.f53 0) (spec_IsDone_L0 l0 l1 l2 l3 l4 l5 l6 l7 n8 0) (Ex.exit 0) spec_IsDone_X0v2]) :
    Ret Tryz.prog 53 [AD.agg [D.sl 5 l0, D.sl 5 l1, D.sl 5 l2, D.sl 4 l3, D.sl 1 l4, D.sl 1 l5, D.sl 1 l6, D.sl 2 l7], AD.one (I n8)] [AD.one (B false)] :=
  .of [Ans.loop [] [5, 2, 1] [2] (Ex.exit 0) spec_IsDone_X0v2] _ Tryz.func53 rfl (by kernel_rfl) h

/- loop.example/g00973/spec.InputsLeft -/

def spec_InputsLeft_L0 (l0 : List (List D)) (n1 : Int) (n2 : Int) (l3 : List (List D)) (l4 : List (List D)) (l5 : List (List D)) (l6 : List (List D)) (n7 : Int) (n8 : Int) (l9 : List (List D)) : St :=
  { env := envOf 26 [(1, PV.al (AL.one (Leaf.v (Value.int IntKind.i64 n7)))), (2, PV.al (AL.one (Leaf.ptr 2 0))), (5, PV.al (AL.one (Leaf.sl (Tag.own 7) 5 l9))), (6, PV.al (AL.one (Leaf.v (Value.int IntKind.i64 n8))))], boxes := [(2, [Leaf.sl Tag.free 4 l0, Leaf.v (Value.int IntKind.i64 n1), Leaf.v (Value.int IntKind.i64 n2), Leaf.sl Tag.free 8 l3, Leaf.sl Tag.free 6 l4, Leaf.sl Tag.free 5 l5, Leaf.sl Tag.free 3 l6])] }

theorem spec_InputsLeft_L0_s0 (l0 : List (List D)) (n1 : Int) (n2 : Int) (l3 : List (List D)) (l4 : List (List D)) (l5 : List (List D)) (l6 : List (List D)) (n7 : Int) (n8 : Int) (l9 : List (List D)) (l10 : List (List D)) (l11 : List (List D)) (l12 : List (List D)) (l13 : List (List D)) (l14 : List (List D)) (l15 : List (List D)) (l16 : List (List D)) (l17 : List (List D)) (l18 : List (List D))
    (h : Obs [decide (n8 < (↑l3.length : Int)) = true, 0 ≤ n8, n8 < (↑l3.length : Int), l3[n8.toNat]? = some [D.sl 5 l10, D.sl 5 l11, D.sl 5 l12, D.sl 4 l13, D.sl 1 l14, D.sl 1 l15, D.sl 1 l16, D.sl 2 l17], Ret Tryz.prog 48 [AD.one (D.sl 5 l12), AD.one (I n7)] [AD.one (D.sl 5 l18)], (l9.length + l18.length) * 40 ≤ 140737488355328, l9.length + l18.length ≤ 9223372036854775807, Flat l18, inInt IntKind.i64 (n8 + 1)]) :
    Tr Tryz.prog (loopOf Tryz.f54 0) (spec_InputsLeft_L0 l0 n1 n2 l3 l4 l5 l6 n7 n8 l9) Ex.normal (spec_InputsLeft_L0 l0 n1 n2 l3 l4 l5 l6 n7 (n8 + 1) (l9 ++ l18)) :=
  .of_loopc (ks := [6, 2, 5, 1]) (bs := [2]) (ans := [Ans.br true, Ans.el [D.sl 5 l10, D.sl 5 l11, D.sl 5 l12, D.sl 4 l13, D.sl 1 l14, D.sl 1 l15, D.sl 1 l16, D.sl 2 l17], Ans.res [AD.one (D.sl 5 l18)]]) (by kernel_rfl) h

def spec_InputsLeft_X0 (l0 : List (List D)) : St :=
  { env := envOf 26 [(5, PV.al (AL.one (Leaf.sl (Tag.own 7) 5 l0)))], boxes := [] }

theorem spec_InputsLeft_L0_x1 (l0 : List (List D)) (n1 : Int) (n2 : Int) (l3 : List (List D)) (l4 : List (List D)) (l5 : List (List D)) (l6 : List (List D)) (n7 : Int) (n8 : Int) (l9 : List (List D))
    (h : Obs [decide (n8 < (↑l3.length : Int)) = false]) :
    Tr Tryz.prog (loopOf Tryz.f54 0) (spec_InputsLeft_L0 l0 n1 n2 l3 l4 l5 l6 n7 n8 l9) (Ex.exit 0) (spec_InputsLeft_X0 l9) :=
  .of_loopc (ks := [5]) (bs := []) (ans := [Ans.br false]) (by kernel_rfl) h

theorem spec_InputsLeft_p0 (l0 : List (List D)) (n1 : Int) (n2 : Int) (l3 : List (List D)) (l4 : List (List D)) (l5 : List (List D)) (l6 : List (List D)) (n7 : Int) (l8 : List (List D))
    (h : Obs [LoopOk Tryz.prog (loopOf Tryz.f54 0) (spec_InputsLeft_L0 l0 n1 n2 l3 l4 l5 l6 n7 0 []) (Ex.exit 0) (spec_InputsLeft_X0 l8)]) :
    Ret Tryz.prog 54 [AD.agg [D.sl 4 l0, I n1, I n2, D.sl 8 l3, D.sl 6 l4, D.sl 5 l5, D.sl 3 l6], AD.one (I n7)] [AD.one (D.sl 5 l8)] :=
  .of [Ans.loop [] [6, 2, 5, 1] [2] (Ex.exit 0) (spec_InputsLeft_X0 l8)] _ Tryz.func54 rfl (by kernel_rfl) h

/- loop.example/g00973/spec.SafeAt -/

def spec_SafeAt_L0 (l0 : List (List D)) (n1 : Int) (n2 : Int) (l3 : List (List D)) (l4 : List (List D)) (l5 : List (List D)) (l6 : List (List D)) (n7 : Int) (n8 : Int) (b9 : Bool) : St :=
  { env := envOf 59 [(1, PV.al (AL.one (Leaf.v (Value.int IntKind.i64 n7)))), (2, PV.al (AL.one (Leaf.ptr 2 0))), (5, PV.al (AL.one (Leaf.sb b9))), (6, PV.al (AL.one (Leaf.v (Value.int IntKind.i64 n8))))], boxes := [(2, [Leaf.sl Tag.free 4 l0, Leaf.v (Value.int IntKind.i64 n1), Leaf.v (Value.int IntKind.i64 n2), Leaf.sl Tag.free 8 l3, Leaf.sl Tag.free 6 l4, Leaf.sl Tag.free 5 l5, Leaf.sl Tag.free 3 l6])] }

theorem spec_SafeAt_L0_s0 (l0 : List (List D)) (n1 : Int) (n2 : Int) (l3 : List (List D)) (l4 : List (List D)) (l5 : List (List D)) (l6 : List (List D)) (n7 : Int) (n8 : Int) (b9 : Bool)
    (h : Obs [decide (n8 < (↑l3.length : Int)) = true, b9 = true, inInt IntKind.i64 (n8 + 1)]) :
    Tr Tryz.prog (loopOf Tryz.f23 0) (spec_SafeAt_L0 l0 n1 n2 l3 l4 l5 l6 n7 n8 b9) Ex.normal (spec_SafeAt_L0 l0 n1 n2 l3 l4 l5 l6 n7 (n8 + 1) true) :=
  .of_loopc (ks := [6, 2, 5, 1]) (bs := [2]) (ans := [Ans.br true, Ans.br true]) (by kernel_rfl) h

theorem spec_SafeAt_L0_s1 (l0 : List (List D)) (n1 : Int) (n2 : Int) (l3 : List (List D)) (l4 : List (List D)) (l5 : List (List D)) (l6 : List (List D)) (n7 : Int) (n8 : Int) (b9 : Bool) (l10 : List (List D)) (l11 : List (List D)) (l12 : List (List D)) (l13 : List (List D)) (l14 : List (List D)) (l15 : List (List D)) (l16 : List (List D)) (l17 : List (List D)) (b18 : Bool)
    (h : Obs [decide (n8 < (↑l3.length : Int)) = true, b9 = false, 0 ≤ n8, n8 < (↑l3.length : Int), l3[n8.toNat]? = some [D.sl 5 l10, D.sl 5 l11, D.sl 5 l12, D.sl 4 l13, D.sl 1 l14, D.sl 1 l15, D.sl 1 l16, D.sl 2 l17], Ret Tryz.prog 53 [AD.agg [D.sl 5 l10, D.sl 5 l11, D.sl 5 l12, D.sl 4 l13, D.sl 1 l14, D.sl 1 l15, D.sl 1 l16, D.sl 2 l17], AD.one (I n7)] [AD.one (B b18)], inInt IntKind.i64 (n8 + 1)]) :
    Tr Tryz.prog (loopOf Tryz.f23 0) (spec_SafeAt_L0 l0 n1 n2 l3 l4 l5 l6 n7 n8 b9) Ex.normal (spec_SafeAt_L0 l0 n1 n2 l3 l4 l5 l6 n7 (n8 + 1) b18) :=
  .of_loopc (ks := [6, 2, 5, 1]) (bs := [2]) (ans := [Ans.br true, Ans.br false, Ans.el [D.sl 5 l10, D.sl 5 l11, D.sl 5 l12, D.sl 4 l13, D.sl 1 l14, D.sl 1 l15, D.sl 1 l16, D.sl 2 l17], Ans.res [AD.one (B b18)]]) (by kernel_rfl) h

def spec_SafeAt_X0 (l0 : List (List D)) (n1 : Int) (n2 : Int) (l3 : List (List D)) (l4 : List (List D)) (l5 : List (List D)) (l6 : List (List D)) (n7 : Int) (b8 : Bool) : St :=
  { env := envOf 59 [(1, PV.al (AL.one (Leaf.v (Value.int IntKind.i64 n7)))), (2, PV.al (AL.one (Leaf.ptr 2 0))), (5, PV.al (AL.one (Leaf.sb b8)))], boxes := [(2, [Leaf.sl Tag.free 4 l0, Leaf.v (Value.int IntKind.i64 n1), Leaf.v (Value.int IntKind.i64 n2), Leaf.sl Tag.free 8 l3, Leaf.sl Tag.free 6 l4, Leaf.sl Tag.free 5 l5, Leaf.sl Tag.free 3 l6])] }

theorem spec_SafeAt_L0_x2 (l0 : List (List D)) (n1 : Int) (n2 : Int) (l3 : List (List D)) (l4 : List (List D)) (l5 : List (List D)) (l6 : List (List D)) (n7 : Int) (n8 : Int) (b9 : Bool)
    (h : Obs [decide (n8 < (↑l3.length : Int)) = false]) :
    Tr Tryz.prog (loopOf Tryz.f23 0) (spec_SafeAt_L0 l0 n1 n2 l3 l4 l5 l6 n7 n8 b9) (Ex.exit 0) (spec_SafeAt_X0 l0 n1 n2 l3 l4 l5 l6 n7 b9) :=
  .of_loopc (ks := [2, 5, 1]) (bs := [2]) (ans := [Ans.br false]) (by kernel_rfl) h

def spec_SafeAt_L1 (l0 : List (List D)) (n1 : Int) (n2 : Int) (l3 : List (List D)) (l4 : List (List D)) (l5 : List (List D)) (l6 : List (List D)) (n7 : Int) (n8 : Int) (b9 : Bool) : St :=
  { env := envOf 59 [(1, PV.al (AL.one (Leaf.v (Value.int IntKind.i64 n7)))), (2, PV.al (AL.one (Leaf.ptr 2 0))), (5, PV.al (AL.one (Leaf.sb b9))), (7, PV.al (AL.one (Leaf.v (Value.int IntKind.i64 n8))))], boxes := [(2, [Leaf.sl Tag.free 4 l0, Leaf.v (Value.int IntKind.i64 n1), Leaf.v (Value.int IntKind.i64 n2), Leaf.sl Tag.free 8 l3, Leaf.sl Tag.free 6 l4, Leaf.sl Tag.free 5 l5, Leaf.sl Tag.free 3 l6])] }

theorem spec_SafeAt_L1_s0 (l0 : List (List D)) (n1 : Int) (n2 : Int) (l3 : List (List D)) (l4 : List (List D)) (l5 : List (List D)) (l6 : List (List D)) (n7 : Int) (n9 : Int) (b10 : Bool)
    (h : Obs [decide (n9 < (↑l6.length : Int)) = true, b10 = true, inInt IntKind.i64 (n9 + 1)]) :
    Tr Tryz.prog (loopOf Tryz.f23 1) (spec_SafeAt_L1 l0 n1 n2 l3 l4 l5 l6 n7 n9 b10) Ex.normal (spec_SafeAt_L1 l0 n1 n2 l3 l4 l5 l6 n7 (n9 + 1) true) :=
  .of_loopc (ks := [7, 2, 5, 1]) (bs := [2]) (ans := [Ans.br true, Ans.br true]) (by kernel_rfl) h

theorem spec_SafeAt_L1_s1 (l0 : List (List D)) (n1 : Int) (n2 : Int) (l3 : List (List D)) (l4 : List (List D)) (l5 : List (List D)) (l6 : List (List D)) (n7 : Int) (n9 : Int) (b10 : Bool) (n11 : Int) (n12 : Int) (b13 : Bool)
    (h : Obs [decide (n9 < (↑l6.length : Int)) = true, b10 = false, 0 ≤ n9, n9 < (↑l6.length : Int), l6[n9.toNat]? = some [I n11, I n12, B b13], inInt IntKind.i64 (n9 + 1)]) :
    Tr Tryz.prog (loopOf Tryz.f23 1) (spec_SafeAt_L1 l0 n1 n2 l3 l4 l5 l6 n7 n9 b10) Ex.normal (spec_SafeAt_L1 l0 n1 n2 l3 l4 l5 l6 n7 (n9 + 1) (n12 == n7)) :=
  .of_loopc (ks := [7, 2, 5, 1]) (bs := [2]) (ans := [Ans.br true, Ans.br false, Ans.el [I n11, I n12, B b13]]) (by kernel_rfl) h

def spec_SafeAt_X1 (l0 : List (List D)) (n1 : Int) (n2 : Int) (l3 : List (List D)) (l4 : List (List D)) (l5 : List (List D)) (l6 : List (List D)) (n7 : Int) (b8 : Bool) : St :=
  { env := envOf 59 [(1, PV.al (AL.one (Leaf.v (Value.int IntKind.i64 n7)))), (2, PV.al (AL.one (Leaf.ptr 2 0))), (5, PV.al (AL.one (Leaf.sb b8)))], boxes := [(2, [Leaf.sl Tag.free 4 l0, Leaf.v (Value.int IntKind.i64 n1), Leaf.v (Value.int IntKind.i64 n2), Leaf.sl Tag.free 8 l3, Leaf.sl Tag.free 6 l4, Leaf.sl Tag.free 5 l5, Leaf.sl Tag.free 3 l6])] }

theorem spec_SafeAt_L1_x2 (l0 : List (List D)) (n1 : Int) (n2 : Int) (l3 : List (List D)) (l4 : List (List D)) (l5 : List (List D)) (l6 : List (List D)) (n7 : Int) (n9 : Int) (b10 : Bool)
    (h : Obs [decide (n9 < (↑l6.length : Int)) = false]) :
    Tr Tryz.prog (loopOf Tryz.f23 1) (spec_SafeAt_L1 l0 n1 n2 l3 l4 l5 l6 n7 n9 b10) (Ex.exit 2) (spec_SafeAt_X1 l0 n1 n2 l3 l4 l5 l6 n7 b10) :=
  .of_loopc (ks := [5, 2, 1]) (bs := [2]) (ans := [Ans.br false]) (by kernel_rfl) h

theorem spec_SafeAt_p0 (l0 : List (List D)) (n1 : Int) (n2 : Int) (l3 : List (List D)) (l4 : List (List D)) (l5 : List (List D)) (l6 : List (List D)) (n7 : Int) (b8 : Bool) (b9 : Bool)
    (h : Obs [LoopOk Tryz.prog (loopOf Tryz.f23 0) (spec_SafeAt_L0 l0 n1 n2 l3 l4 l5 l6 n7 0 false) (Ex.exit 0) (spec_SafeAt_X0 l0 n1 n2 l3 l4 l5 l6 n7 b8), LoopOk Tryz.prog (loopOf Tryz.f23 1) (spec_SafeAt_L1 l0 n1 n2 l3 l4 l5 l6 n7 0 b8) (Ex.exit 2) (spec_SafeAt_X1 l0 n1 n2 l3 l4 l5 l6 n7 b9), (!b9) = true]) :
    Ret Tryz.prog 23 [AD.agg [D.sl 4 l0, I n1, I n2, D.sl 8 l3, D.sl 6 l4, D.sl 5 l5, D.sl 3 l6], AD.one (I n7)] [AD.one (B true)] :=
  .of [Ans.loop [] [6, 2, 5, 1] [2] (Ex.exit 0) (spec_SafeAt_X0 l0 n1 n2 l3 l4 l5 l6 n7 b8), Ans.loop [] [7, 2, 5, 1] [2] (Ex.exit 2) (spec_SafeAt_X1 l0 n1 n2 l3 l4 l5 l6 n7 b9), Ans.br true] _ Tryz.func23 rfl (by kernel_rfl) h

theorem spec_SafeAt_p1 (l0 : List (List D)) (n1 : Int) (n2 : Int) (l3 : List (List D)) (l4 : List (List D)) (l5 : List (List D)) (l6 : List (List D)) (n7 : Int) (b8 : Bool) (b9 : Bool) (l10 : List (List D)) (l11 : List (List D))
    (h : Obs [LoopOk Tryz.prog (loopOf Tryz.f23 0) (spec_SafeAt_L0 l0 n1 n2 l3 l4 l5 l6 n7 0 false) (Ex.exit 0) (spec_SafeAt_X0 l0 n1 n2 l3 l4 l5 l6 n7 b8), LoopOk Tryz.prog (loopOf Tryz.f23 1) (spec_SafeAt_L1 l0 n1 n2 l3 l4 l5 l6 n7 0 b8) (Ex.exit 2) (spec_SafeAt_X1 l0 n1 n2 l3 l4 l5 l6 n7 b9), (!b9) = false, Ret Tryz.prog 16 [AD.agg [D.sl 4 l0, I n1, I n2, D.sl 8 l3, D.sl 6 l4, D.sl 5 l5, D.sl 3 l6], AD.one (I n7)] [AD.one (D.sl 5 l10)], ((↑l10.length : Int) == 0) = true, Ret Tryz.prog 54 [AD.agg [D.sl 4 l0, I n1, I n2, D.sl 8 l3, D.sl 6 l4, D.sl 5 l5, D.sl 3 l6], AD.one (I n7)] [AD.one (D.sl 5 l11)]]) :
    Ret Tryz.prog 23 [AD.agg [D.sl 4 l0, I n1, I n2, D.sl 8 l3, D.sl 6 l4, D.sl 5 l5, D.sl 3 l6], AD.one (I n7)] [AD.one (B ((↑l11.length : Int) == 0))] :=
  .of [Ans.loop [] [6, 2, 5, 1] [2] (Ex.exit 0) (spec_SafeAt_X0 l0 n1 n2 l3 l4 l5 l6 n7 b8), Ans.loop [] [7, 2, 5, 1] [2] (Ex.exit 2) (spec_SafeAt_X1 l0 n1 n2 l3 l4 l5 l6 n7 b9), Ans.br false, Ans.res [AD.one (D.sl 5 l10)], Ans.br true, Ans.res [AD.one (D.sl 5 l11)]] _ Tryz.func23 rfl (by kernel_rfl) h

theorem spec_SafeAt_p2 (l0 : List (List D)) (n1 : Int) (n2 : Int) (l3 : List (List D)) (l4 : List (List D)) (l5 : List (List D)) (l6 : List (List D)) (n7 : Int) (b8 : Bool) (b9 : Bool) (l10 : List (List D))
    (h : Obs [LoopOk Tryz.prog (loopOf Tryz.f23 0) (spec_SafeAt_L0 l0 n1 n2 l3 l4 l5 l6 n7 0 false) (Ex.exit 0) (spec_SafeAt_X0 l0 n1 n2 l3 l4 l5 l6 n7 b8), LoopOk Tryz.prog (loopOf Tryz.f23 1) (spec_SafeAt_L1 l0 n1 n2 l3 l4 l5 l6 n7 0 b8) (Ex.exit 2) (spec_SafeAt_X1 l0 n1 n2 l3 l4 l5 l6 n7 b9), (!b9) = false, Ret Tryz.prog 16 [AD.agg [D.sl 4 l0, I n1, I n2, D.sl 8 l3, D.sl 6 l4, D.sl 5 l5, D.sl 3 l6], AD.one (I n7)] [AD.one (D.sl 5 l10)], ((↑l10.length : Int) == 0) = false]) :
    Ret Tryz.prog 23 [AD.agg [D.sl 4 l0, I n1, I n2, D.sl 8 l3, D.sl 6 l4, D.sl 5 l5, D.sl 3 l6], AD.one (I n7)] [AD.one (B false)] :=
  .of [Ans.loop [] [6, 2, 5, 1] [2] (Ex.exit 0) (spec_SafeAt_X0 l0 n1 n2 l3 l4 l5 l6 n7 b8), Ans.loop [] [7, 2, 5, 1] [2] (Ex.exit 2) (spec_SafeAt_X1 l0 n1 n2 l3 l4 l5 l6 n7 b9), Ans.br false, Ans.res [AD.one (D.sl 5 l10)], Ans.br false] _ Tryz.func23 rfl (by kernel_rfl) h

/- loop.example/g00973/impl.RecordOrder -/

theorem impl_RecordOrder_p0 (n0 : Int) (n1 : Int) (n2 : Int) (n3 : Int) (n4 : Int) (n5 : Int) (n6 : Int) (n7 : Int) (n8 : Int) (n9 : Int) (n10 : Int)
    (h : Obs [Ret Tryz.prog 90 [AD.agg [I n1, I n2], AD.agg [I n6, I n7]] [AD.one (I n10)], (n10 != 0) = true]) :
    Ret Tryz.prog 72 [AD.agg [I n0, I n1, I n2, I n3, I n4], AD.agg [I n5, I n6, I n7, I n8, I n9]] [AD.one (I n10)] :=
  .of [Ans.res [AD.one (I n10)], Ans.br true] _ Tryz.func72 rfl (by kernel_rfl) h

theorem impl_RecordOrder_p1 (n0 : Int) (n1 : Int) (n2 : Int) (n3 : Int) (n4 : Int) (n5 : Int) (n6 : Int) (n7 : Int) (n8 : Int) (n9 : Int) (n10 : Int) (n11 : Int)
    (h : Obs [Ret Tryz.prog 90 [AD.agg [I n1, I n2], AD.agg [I n6, I n7]] [AD.one (I n10)], (n10 != 0) = false, Ret Tryz.prog 109 [AD.one (D.sl 1 [[I n0], [I n3], [I n4]]), AD.one (D.sl 1 [[I n5], [I n8], [I n9]])] [AD.one (I n11)]]) :
    Ret Tryz.prog 72 [AD.agg [I n0, I n1, I n2, I n3, I n4], AD.agg [I n5, I n6, I n7, I n8, I n9]] [AD.one (I n11)] :=
  .of [Ans.res [AD.one (I n10)], Ans.br false, Ans.res [AD.one (I n11)]] _ Tryz.func72 rfl (by kernel_rfl) h

/- loop.example/g00973/impl.StampOrder -/

theorem impl_StampOrder_p0 (n0 : Int) (n1 : Int) (n2 : Int) (n3 : Int) (n4 : Int)
    (h : Obs [Ret Tryz.prog 109 [AD.one (D.sl 1 [[I n0], [I n1]]), AD.one (D.sl 1 [[I n2], [I n3]])] [AD.one (I n4)]]) :
    Ret Tryz.prog 90 [AD.agg [I n0, I n1], AD.agg [I n2, I n3]] [AD.one (I n4)] :=
  .of [Ans.res [AD.one (I n4)]] _ Tryz.func90 rfl (by kernel_rfl) h

/- loop.example/g00973/impl.SortRecords -/

theorem impl_SortRecords_p0 (l0 : List (List D)) (l1 : List (List D)) (l2 : List (List D))
    (h : Obs [Ret Tryz.prog 70 [AD.one (D.sl 5 l0)] [AD.one (D.sl 5 l1)], RetG Tryz.prog 71 [GA.one (GC.gv 5 l1 (some l2)), GA.one (GC.ro (D.cl 72 []))] []]) :
    Ret Tryz.prog 36 [AD.one (D.sl 5 l0)] [AD.one (D.sl 5 l2)] :=
  .of [Ans.res [AD.one (D.sl 5 l1)], Ans.resG [[some (some l2)], [none]] 0 [] []] _ Tryz.func36 rfl (by kernel_rfl) h

/- loop.example/g00973/impl.PendingAll -/

def impl_PendingAll_L0 (l0 : List (List D)) (n1 : Int) (l2 : List (List D)) (l3 : List (List D)) (n4 : Int) (n5 : Int) (l6 : List (List D)) (l7 : List (List D)) (l8 : List (List D)) (l9 : List (List D)) : St :=
  { env := envOf 37 [(1, PV.al (AL.one (Leaf.ptr 1 0))), (3, PV.al (AL.one (Leaf.sl (Tag.own 18) 5 l2))), (9, PV.al (AL.one (Leaf.sl Tag.free 8 l0))), (10, PV.al (AL.one (Leaf.v (Value.int IntKind.i64 (↑l0.length : Int))))), (11, PV.al (AL.one (Leaf.v (Value.int IntKind.i64 n1))))], boxes := [(1, [Leaf.sl Tag.free 4 l3, Leaf.v (Value.int IntKind.i64 n4), Leaf.v (Value.int IntKind.i64 n5), Leaf.sl Tag.free 8 l6, Leaf.sl Tag.free 6 l7, Leaf.sl Tag.free 5 l8, Leaf.sl Tag.free 3 l9])] }

theorem impl_PendingAll_L0_s0 (l3 : List (List D)) (n7 : Int) (l8 : List (List D)) (l9 : List (List D)) (n10 : Int) (n11 : Int) (l12 : List (List D)) (l13 : List (List D)) (l14 : List (List D)) (l15 : List (List D)) (l16 : List (List D)) (l17 : List (List D)) (l18 : List (List D)) (l19 : List (List D)) (l20 : List (List D)) (l21 : List (List D)) (l22 : List (List D)) (l23 : List (List D))
    (h : Obs [decide (n7 < (↑l3.length : Int)) = true, 0 ≤ n7, n7 < (↑l3.length : Int), l3[n7.toNat]? = some [D.sl 5 l16, D.sl 5 l17, D.sl 5 l18, D.sl 4 l19, D.sl 1 l20, D.sl 1 l21, D.sl 1 l22, D.sl 2 l23], (l8.length + l16.length) * 40 ≤ 140737488355328, l8.length + l16.length ≤ 9223372036854775807, Flat l16, ((l8 ++ l16).length + l17.length) * 40 ≤ 140737488355328, (l8 ++ l16).length + l17.length ≤ 9223372036854775807, Flat l17, inInt IntKind.i64 (n7 + 1)]) :
    Tr Tryz.prog (loopOf Tryz.f10 0) (impl_PendingAll_L0 l3 n7 l8 l9 n10 n11 l12 l13 l14 l15) Ex.normal (impl_PendingAll_L0 l3 (n7 + 1) (l8 ++ l16 ++ l17) l9 n10 n11 l12 l13 l14 l15) :=
  .of_loopc (ks := [11, 10, 9, 3, 1]) (bs := [1]) (ans := [Ans.br true, Ans.el [D.sl 5 l16, D.sl 5 l17, D.sl 5 l18, D.sl 4 l19, D.sl 1 l20, D.sl 1 l21, D.sl 1 l22, D.sl 2 l23]]) (by kernel_rfl) h

def impl_PendingAll_X0 (l0 : List (List D)) (l1 : List (List D)) (n2 : Int) (n3 : Int) (l4 : List (List D)) (l5 : List (List D)) (l6 : List (List D)) (l7 : List (List D)) : St :=
  { env := envOf 37 [(1, PV.al (AL.one (Leaf.ptr 1 0))), (3, PV.al (AL.one (Leaf.sl (Tag.own 18) 5 l0)))], boxes := [(1, [Leaf.sl Tag.free 4 l1, Leaf.v (Value.int IntKind.i64 n2), Leaf.v (Value.int IntKind.i64 n3), Leaf.sl Tag.free 8 l4, Leaf.sl Tag.free 6 l5, Leaf.sl Tag.free 5 l6, Leaf.sl Tag.free 3 l7])] }

theorem impl_PendingAll_L0_x1 (l3 : List (List D)) (n7 : Int) (l8 : List (List D)) (l9 : List (List D)) (n10 : Int) (n11 : Int) (l12 : List (List D)) (l13 : List (List D)) (l14 : List (List D)) (l15 : List (List D))
    (h : Obs [decide (n7 < (↑l3.length : Int)) = false]) :
    Tr Tryz.prog (loopOf Tryz.f10 0) (impl_PendingAll_L0 l3 n7 l8 l9 n10 n11 l12 l13 l14 l15) (Ex.exit 0) (impl_PendingAll_X0 l8 l9 n10 n11 l12 l13 l14 l15) :=
  .of_loopc (ks := [1, 3]) (bs := [1]) (ans := [Ans.br false]) (by kernel_rfl) h

def impl_PendingAll_L1 (l0 : List (List D)) (n1 : Int) (l2 : List (List D)) : St :=
  { env := envOf 37 [(3, PV.al (AL.one (Leaf.sl (Tag.own 18) 5 l2))), (24, PV.al (AL.one (Leaf.sl Tag.free 6 l0))), (25, PV.al (AL.one (Leaf.v (Value.int IntKind.i64 (↑l0.length : Int))))), (26, PV.al (AL.one (Leaf.v (Value.int IntKind.i64 n1))))], boxes := [] }

theorem impl_PendingAll_L1_s0 (l12 : List (List D)) (n15 : Int) (l16 : List (List D)) (n17 : Int) (l18 : List (List D)) (n19 : Int) (n20 : Int) (n21 : Int) (n22 : Int)
    (h : Obs [decide (n15 < (↑l12.length : Int)) = true, 0 ≤ n15, n15 < (↑l12.length : Int), l12[n15.toNat]? = some [I n17, D.sl 5 l18, I n19, I n20, I n21, I n22], (l16.length + l18.length) * 40 ≤ 140737488355328, l16.length + l18.length ≤ 9223372036854775807, Flat l18, inInt IntKind.i64 (n15 + 1)]) :
    Tr Tryz.prog (loopOf Tryz.f10 1) (impl_PendingAll_L1 l12 n15 l16) Ex.normal (impl_PendingAll_L1 l12 (n15 + 1) (l16 ++ l18)) :=
  .of_loopc (ks := [26, 25, 24, 3]) (bs := []) (ans := [Ans.br true, Ans.el [I n17, D.sl 5 l18, I n19, I n20, I n21, I n22]]) (by kernel_rfl) h

def impl_PendingAll_X1 (l0 : List (List D)) : St :=
  { env := envOf 37 [(3, PV.al (AL.one (Leaf.sl (Tag.own 18) 5 l0)))], boxes := [] }

theorem impl_PendingAll_L1_x1 (l12 : List (List D)) (n15 : Int) (l16 : List (List D))
    (h : Obs [decide (n15 < (↑l12.length : Int)) = false]) :
    Tr Tryz.prog (loopOf Tryz.f10 1) (impl_PendingAll_L1 l12 n15 l16) (Ex.exit 2) (impl_PendingAll_X1 l16) :=
  .of_loopc (ks := [3]) (bs := []) (ans := [Ans.br false]) (by kernel_rfl) h

theorem impl_PendingAll_p0 (l0 : List (List D)) (n1 : Int) (n2 : Int) (l3 : List (List D)) (l4 : List (List D)) (l5 : List (List D)) (l6 : List (List D)) (l7 : List (List D)) (l8 : List (List D)) (n9 : Int) (n10 : Int) (l11 : List (List D)) (l12 : List (List D)) (l13 : List (List D)) (l14 : List (List D)) (l15 : List (List D)) (l16 : List (List D))
    (h : Obs [LoopOk Tryz.prog (loopOf Tryz.f10 0) (impl_PendingAll_L0 l3 0 [] l0 n1 n2 l3 l4 l5 l6) (Ex.exit 0) (impl_PendingAll_X0 l7 l8 n9 n10 l11 l12 l13 l14), LoopOk Tryz.prog (loopOf Tryz.f10 1) (impl_PendingAll_L1 l12 0 l7) (Ex.exit 2) (impl_PendingAll_X1 l15), Ret Tryz.prog 36 [AD.one (D.sl 5 l15)] [AD.one (D.sl 5 l16)]]) :
    Ret Tryz.prog 10 [AD.agg [D.sl 4 l0, I n1, I n2, D.sl 8 l3, D.sl 6 l4, D.sl 5 l5, D.sl 3 l6]] [AD.one (D.sl 5 l16)] :=
  .of [Ans.loop [(3, 18, 5)] [11, 10, 9, 3, 1] [1] (Ex.exit 0) (impl_PendingAll_X0 l7 l8 n9 n10 l11 l12 l13 l14), Ans.loop [] [26, 25, 24, 3] [] (Ex.exit 2) (impl_PendingAll_X1 l15), Ans.res [AD.one (D.sl 5 l16)]] _ Tryz.func10 rfl (by kernel_rfl) h

/- loop.example/g00973/impl.PendingOf -/

theorem impl_PendingOf_p0 (l0 : List (List D)) (n1 : Int) (n2 : Int) (l3 : List (List D)) (l4 : List (List D)) (l5 : List (List D)) (l6 : List (List D)) (n7 : Int) (l8 : List (List D)) (l9 : List (List D))
    (h : Obs [Ret Tryz.prog 10 [AD.agg [D.sl 4 l0, I n1, I n2, D.sl 8 l3, D.sl 6 l4, D.sl 5 l5, D.sl 3 l6]] [AD.one (D.sl 5 l8)], Ret Tryz.prog 49 [AD.one (D.sl 5 l8), AD.one (I n7)] [AD.one (D.sl 5 l9)]]) :
    Ret Tryz.prog 17 [AD.agg [D.sl 4 l0, I n1, I n2, D.sl 8 l3, D.sl 6 l4, D.sl 5 l5, D.sl 3 l6], AD.one (I n7)] [AD.one (D.sl 5 l9)] :=
  .of [Ans.res [AD.one (D.sl 5 l8)], Ans.res [AD.one (D.sl 5 l9)]] _ Tryz.func17 rfl (by kernel_rfl) h

/- loop.example/g00973/impl.OfEpoch -/

def impl_OfEpoch_L0 (l0 : List (List D)) (n1 : Int) (n2 : Int) (l3 : List (List D)) : St :=
  { env := envOf 25 [(1, PV.al (AL.one (Leaf.v (Value.int IntKind.i64 n1)))), (5, PV.al (AL.one (Leaf.sl (Tag.own 22) 5 l3))), (8, PV.al (AL.one (Leaf.sl Tag.free 5 l0))), (9, PV.al (AL.one (Leaf.v (Value.int IntKind.i64 (↑l0.length : Int))))), (10, PV.al (AL.one (Leaf.v (Value.int IntKind.i64 n2))))], boxes := [] }

theorem impl_OfEpoch_L0_s0 (l0 : List (List D)) (n1 : Int) (n2 : Int) (l3 : List (List D)) (n4 : Int) (n5 : Int) (n6 : Int) (n7 : Int) (n8 : Int)
    (h : Obs [decide (n2 < (↑l0.length : Int)) = true, 0 ≤ n2, n2 < (↑l0.length : Int), l0[n2.toNat]? = some [I n4, I n5, I n6, I n7, I n8], (n5 == n1) = true, (l3.length + [[I n4, I n5, I n6, I n7, I n8]].length) * 40 ≤ 140737488355328, l3.length + [[I n4, I n5, I n6, I n7, I n8]].length ≤ 9223372036854775807, Flat [[I n4, I n5, I n6, I n7, I n8]], inInt IntKind.i64 (n2 + 1)]) :
    Tr Tryz.prog (loopOf Tryz.f49 0) (impl_OfEpoch_L0 l0 n1 n2 l3) Ex.normal (impl_OfEpoch_L0 l0 n1 (n2 + 1) (l3 ++ [[I n4, I n5, I n6, I n7, I n8]])) :=
  .of_loopc (ks := [10, 9, 8, 1, 5]) (bs := []) (ans := [Ans.br true, Ans.el [I n4, I n5, I n6, I n7, I n8], Ans.br true]) (by kernel_rfl) h

theorem impl_OfEpoch_L0_s1 (l0 : List (List D)) (n1 : Int) (n2 : Int) (l3 : List (List D)) (n4 : Int) (n5 : Int) (n6 : Int) (n7 : Int) (n8 : Int)
    (h : Obs [decide (n2 < (↑l0.length : Int)) = true, 0 ≤ n2, n2 < (↑l0.length : Int), l0[n2.toNat]? = some [I n4, I n5, I n6, I n7, I n8], (n5 == n1) = false, inInt IntKind.i64 (n2 + 1)]) :
    Tr Tryz.prog (loopOf Tryz.f49 0) (impl_OfEpoch_L0 l0 n1 n2 l3) Ex.normal (impl_OfEpoch_L0 l0 n1 (n2 + 1) l3) :=
  .of_loopc (ks := [10, 9, 8, 1, 5]) (bs := []) (ans := [Ans.br true, Ans.el [I n4, I n5, I n6, I n7, I n8], Ans.br false]) (by kernel_rfl) h

def impl_OfEpoch_X0 (l0 : List (List D)) : St :=
  { env := envOf 25 [(5, PV.al (AL.one (Leaf.sl (Tag.own 22) 5 l0)))], boxes := [] }

theorem impl_OfEpoch_L0_x2 (l0 : List (List D)) (n1 : Int) (n2 : Int) (l3 : List (List D))
    (h : Obs [decide (n2 < (↑l0.length : Int)) = false]) :
    Tr Tryz.prog (loopOf Tryz.f49 0) (impl_OfEpoch_L0 l0 n1 n2 l3) (Ex.exit 0) (impl_OfEpoch_X0 l3) :=
  .of_loopc (ks := [5]) (bs := []) (ans := [Ans.br false]) (by kernel_rfl) h

theorem impl_OfEpoch_p0 (l0 : List (List D)) (n1 : Int) (l2 : List (List D))
    (h : Obs [LoopOk Tryz.prog (loopOf Tryz.f49 0) (impl_OfEpoch_L0 l0 n1 0 []) (Ex.exit 0) (impl_OfEpoch_X0 l2)]) :
    Ret Tryz.prog 49 [AD.one (D.sl 5 l0), AD.one (I n1)] [AD.one (D.sl 5 l2)] :=
  .of [Ans.loop [(5, 22, 5)] [10, 9, 8, 1, 5] [] (Ex.exit 0) (impl_OfEpoch_X0 l2)] _ Tryz.func49 rfl (by kernel_rfl) h

/- loop.example/g00973/impl.Minimal -/

def impl_Minimal_L0 (l0 : List (List D)) (n1 : Int) (l2 : List (List D)) : St :=
  { env := envOf 32 [(0, PV.al (AL.one (Leaf.sl Tag.free 2 l0))), (3, PV.al (AL.one (Leaf.sl (Tag.own 27) 2 l2))), (7, PV.al (AL.one (Leaf.sl Tag.free 2 l0))), (8, PV.al (AL.one (Leaf.v (Value.int IntKind.i64 (↑l0.length : Int))))), (9, PV.al (AL.one (Leaf.v (Value.int IntKind.i64 n1))))], boxes := [] }

theorem impl_Minimal_L0_s0 (l0 : List (List D)) (n1 : Int) (l2 : List (List D)) (n3 : Int) (n4 : Int) (b5 : Bool) (b6 : Bool)
    (h : Obs [decide (n1 < (↑l0.length : Int)) = true, 0 ≤ n1, n1 < (↑l0.length : Int), l0[n1.toNat]? = some [I n3, I n4], Ret Tryz.prog 85 [AD.one (D.sl 2 l0), AD.one (D.cl 86 [D.ptr [I n3, I n4]])] [AD.one (B b5)], (!b5) = true, Ret Tryz.prog 88 [AD.one (D.sl 2 l2), AD.agg [I n3, I n4]] [AD.one (B b6)], (!b6) = true, (l2.length + [[I n3, I n4]].length) * 16 ≤ 140737488355328, l2.length + [[I n3, I n4]].length ≤ 9223372036854775807, Flat [[I n3, I n4]], inInt IntKind.i64 (n1 + 1)]) :
    Tr Tryz.prog (loopOf Tryz.f51 0) (impl_Minimal_L0 l0 n1 l2) Ex.normal (impl_Minimal_L0 l0 (n1 + 1) (l2 ++ [[I n3, I n4]])) :=
  .of_loopc (ks := [9, 8, 7, 0, 3]) (bs := []) (ans := [Ans.br true, Ans.el [I n3, I n4], Ans.res [AD.one (B b5)], Ans.br true, Ans.res [AD.one (B b6)], Ans.br true]) (by kernel_rfl) h

theorem impl_Minimal_L0_s1 (l0 : List (List D)) (n1 : Int) (l2 : List (List D)) (n3 : Int) (n4 : Int) (b5 : Bool) (b6 : Bool)
    (h : Obs [decide (n1 < (↑l0.length : Int)) = true, 0 ≤ n1, n1 < (↑l0.length : Int), l0[n1.toNat]? = some [I n3, I n4], Ret Tryz.prog 85 [AD.one (D.sl 2 l0), AD.one (D.cl 86 [D.ptr [I n3, I n4]])] [AD.one (B b5)], (!b5) = true, Ret Tryz.prog 88 [AD.one (D.sl 2 l2), AD.agg [I n3, I n4]] [AD.one (B b6)], (!b6) = false, inInt IntKind.i64 (n1 + 1)]) :
    Tr Tryz.prog (loopOf Tryz.f51 0) (impl_Minimal_L0 l0 n1 l2) Ex.normal (impl_Minimal_L0 l0 (n1 + 1) l2) :=
  .of_loopc (ks := [9, 8, 7, 0, 3]) (bs := []) (ans := [Ans.br true, Ans.el [I n3, I n4], Ans.res [AD.one (B b5)], Ans.br true, Ans.res [AD.one (B b6)], Ans.br false]) (by kernel_rfl) h

theorem impl_Minimal_L0_s2 (l0 : List (List D)) (n1 : Int) (l2 : List (List D)) (n3 : Int) (n4 : Int) (b5 : Bool)
    (h : Obs [decide (n1 < (↑l0.length : Int)) = true, 0 ≤ n1, n1 < (↑l0.length : Int), l0[n1.toNat]? = some [I n3, I n4], Ret Tryz.prog 85 [AD.one (D.sl 2 l0), AD.one (D.cl 86 [D.ptr [I n3, I n4]])] [AD.one (B b5)], (!b5) = false, inInt IntKind.i64 (n1 + 1)]) :
    Tr Tryz.prog (loopOf Tryz.f51 0) (impl_Minimal_L0 l0 n1 l2) Ex.normal (impl_Minimal_L0 l0 (n1 + 1) l2) :=
  .of_loopc (ks := [9, 8, 7, 0, 3]) (bs := []) (ans := [Ans.br true, Ans.el [I n3, I n4], Ans.res [AD.one (B b5)], Ans.br false]) (by kernel_rfl) h

def impl_Minimal_X0 (l0 : List (List D)) : St :=
  { env := envOf 32 [(3, PV.al (AL.one (Leaf.sl (Tag.own 27) 2 l0)))], boxes := [] }

theorem impl_Minimal_L0_x3 (l0 : List (List D)) (n1 : Int) (l2 : List (List D))
    (h : Obs [decide (n1 < (↑l0.length : Int)) = false]) :
    Tr Tryz.prog (loopOf Tryz.f51 0) (impl_Minimal_L0 l0 n1 l2) (Ex.exit 0) (impl_Minimal_X0 l2) :=
  .of_loopc (ks := [3]) (bs := []) (ans := [Ans.br false]) (by kernel_rfl) h

theorem impl_Minimal_p0 (l0 : List (List D)) (l1 : List (List D)) (l2 : List (List D))
    (h : Obs [LoopOk Tryz.prog (loopOf Tryz.f51 0) (impl_Minimal_L0 l0 0 []) (Ex.exit 0) (impl_Minimal_X0 l1), RetG Tryz.prog 89 [GA.one (GC.gv 2 l1 (some l2)), GA.one (GC.ro (D.cl 90 []))] []]) :
    Ret Tryz.prog 51 [AD.one (D.sl 2 l0)] [AD.one (D.sl 2 l2)] :=
  .of [Ans.loop [(3, 27, 2)] [9, 8, 7, 0, 3] [] (Ex.exit 0) (impl_Minimal_X0 l1), Ans.resG [[some (some l2)], [none]] 0 [] []] _ Tryz.func51 rfl (by kernel_rfl) h

/- loop.example/g00973/impl.Minimal$1 -/

theorem impl_Minimal_1_p0 (n0 : Int) (n1 : Int) (n2 : Int) (n3 : Int) (b4 : Bool)
    (h : Obs [(!(n0 == n2 && n1 == n3)) = true, Ret Tryz.prog 87 [AD.agg [I n0, I n1], AD.agg [I n2, I n3]] [AD.one (B b4)]]) :
    Ret Tryz.prog 86 [AD.agg [I n0, I n1], AD.one (D.ptr [I n2, I n3])] [AD.one (B b4)] :=
  .of [Ans.br true, Ans.res [AD.one (B b4)]] _ Tryz.func86 rfl (by kernel_rfl) h

theorem impl_Minimal_1_p1 (n0 : Int) (n1 : Int) (n2 : Int) (n3 : Int)
    (h : Obs [(!(n0 == n2 && n1 == n3)) = false]) :
    Ret Tryz.prog 86 [AD.agg [I n0, I n1], AD.one (D.ptr [I n2, I n3])] [AD.one (B false)] :=
  .of [Ans.br false] _ Tryz.func86 rfl (by kernel_rfl) h

/- loop.example/g00973/impl.StampLeq -/

theorem impl_StampLeq_p0 (n0 : Int) (n1 : Int) (n2 : Int) (n3 : Int)
    (h : Obs [decide (n0 ≤ n2) = true]) :
    Ret Tryz.prog 87 [AD.agg [I n0, I n1], AD.agg [I n2, I n3]] [AD.one (B (decide (n1 ≤ n3)))] :=
  .of [Ans.br true] _ Tryz.func87 rfl (by kernel_rfl) h

theorem impl_StampLeq_p1 (n0 : Int) (n1 : Int) (n2 : Int) (n3 : Int)
    (h : Obs [decide (n0 ≤ n2) = false]) :
    Ret Tryz.prog 87 [AD.agg [I n0, I n1], AD.agg [I n2, I n3]] [AD.one (B false)] :=
  .of [Ans.br false] _ Tryz.func87 rfl (by kernel_rfl) h

/- slices.ContainsFunc[[]loop.example/g00973/impl.Worker,loop.example/g00973/impl.Worker] -/

theorem slices_ContainsFunc_Worker_p0 (l0 : List (List D)) (g1 : Nat) (k2 : List D) (n3 : Int)
    (h : Obs [Ret Tryz.prog 91 [AD.one (D.sl 8 l0), AD.one (D.cl g1 k2)] [AD.one (I n3)]]) :
    Ret Tryz.prog 55 [AD.one (D.sl 8 l0), AD.one (D.cl g1 k2)] [AD.one (B (decide (n3 ≥ 0)))] :=
  .of [Ans.res [AD.one (I n3)]] _ Tryz.func55 rfl (by kernel_rfl) h

/- slices.ContainsFunc[[]loop.example/g00973/impl.News,loop.example/g00973/impl.News] -/

theorem slices_ContainsFunc_News_p0 (l0 : List (List D)) (g1 : Nat) (k2 : List D) (n3 : Int)
    (h : Obs [Ret Tryz.prog 93 [AD.one (D.sl 3 l0), AD.one (D.cl g1 k2)] [AD.one (I n3)]]) :
    Ret Tryz.prog 58 [AD.one (D.sl 3 l0), AD.one (D.cl g1 k2)] [AD.one (B (decide (n3 ≥ 0)))] :=
  .of [Ans.res [AD.one (I n3)]] _ Tryz.func58 rfl (by kernel_rfl) h

/- slices.ContainsFunc[[]loop.example/g00973/impl.Stamp,loop.example/g00973/impl.Stamp] -/

theorem slices_ContainsFunc_Stamp_p0 (l0 : List (List D)) (g1 : Nat) (k2 : List D) (n3 : Int)
    (h : Obs [Ret Tryz.prog 115 [AD.one (D.sl 2 l0), AD.one (D.cl g1 k2)] [AD.one (I n3)]]) :
    Ret Tryz.prog 85 [AD.one (D.sl 2 l0), AD.one (D.cl g1 k2)] [AD.one (B (decide (n3 ≥ 0)))] :=
  .of [Ans.res [AD.one (I n3)]] _ Tryz.func85 rfl (by kernel_rfl) h

/- slices.ContainsFunc[[]loop.example/g00973/impl.Done,loop.example/g00973/impl.Done] -/

theorem slices_ContainsFunc_Done_p0 (l0 : List (List D)) (g1 : Nat) (k2 : List D) (n3 : Int)
    (h : Obs [Ret Tryz.prog 144 [AD.one (D.sl 2 l0), AD.one (D.cl g1 k2)] [AD.one (I n3)]]) :
    Ret Tryz.prog 118 [AD.one (D.sl 2 l0), AD.one (D.cl g1 k2)] [AD.one (B (decide (n3 ≥ 0)))] :=
  .of [Ans.res [AD.one (I n3)]] _ Tryz.func118 rfl (by kernel_rfl) h

/- slices.IndexFunc[[]loop.example/g00973/impl.Worker,loop.example/g00973/impl.Worker] -/

def slices_IndexFunc_Worker_L0 (l0 : List (List D)) (g1 : Nat) (k2 : List D) (n3 : Int) : St :=
  { env := envOf 19 [(0, PV.al (AL.one (Leaf.sl Tag.free 8 l0))), (1, PV.al (AL.one (Leaf.fd (D.cl g1 k2)))), (7, PV.al (AL.one (Leaf.v (Value.int IntKind.i64 (↑l0.length : Int))))), (8, PV.al (AL.one (Leaf.v (Value.int IntKind.i64 n3))))], boxes := [] }

def slices_IndexFunc_Worker_X0 (n0 : Int) : St :=
  { env := envOf 19 [(4, PV.al (AL.one (Leaf.v (Value.int IntKind.i64 n0))))], boxes := [] }

theorem slices_IndexFunc_Worker_L0_x0 (l0 : List (List D)) (g1 : Nat) (k2 : List D) (n3 : Int) (l4 : List (List D)) (l5 : List (List D)) (l6 : List (List D)) (l7 : List (List D)) (l8 : List (List D)) (l9 : List (List D)) (l10 : List (List D)) (l11 : List (List D)) (b12 : Bool)
    (h : Obs [decide (n3 < (↑l0.length : Int)) = true, 0 ≤ n3, n3 < (↑l0.length : Int), l0[n3.toNat]? = some [D.sl 5 l4, D.sl 5 l5, D.sl 5 l6, D.sl 4 l7, D.sl 1 l8, D.sl 1 l9, D.sl 1 l10, D.sl 2 l11], canCall Tryz.prog g1 = true, Ret Tryz.prog g1 ([AD.agg [D.sl 5 l4, D.sl 5 l5, D.sl 5 l6, D.sl 4 l7, D.sl 1 l8, D.sl 1 l9, D.sl 1 l10, D.sl 2 l11]] ++ List.map AD.one k2) [AD.one (B b12)], b12 = true]) :
    Tr Tryz.prog (loopOf Tryz.f91 0) (slices_IndexFunc_Worker_L0 l0 g1 k2 n3) Ex.ret (slices_IndexFunc_Worker_X0 n3) :=
  .of_loopc (ks := [4]) (bs := []) (ans := [Ans.br true, Ans.el [D.sl 5 l4, D.sl 5 l5, D.sl 5 l6, D.sl 4 l7, D.sl 1 l8, D.sl 1 l9, D.sl 1 l10, D.sl 2 l11], Ans.res [AD.one (B b12)], Ans.br true]) (by kernel_rfl) h

theorem slices_IndexFunc_Worker_L0_s1 (l0 : List (List D)) (g1 : Nat) (k2 : List D) (n3 : Int) (l4 : List (List D)) (l5 : List (List D)) (l6 : List (List D)) (l7 : List (List D)) (l8 : List (List D)) (l9 : List (List D)) (l10 : List (List D)) (l11 : List (List D)) (b12 : Bool)
    (h : Obs [decide (n3 < (↑l0.length : Int)) = true, 0 ≤ n3, n3 < (↑l0.length : Int), l0[n3.toNat]? = some [D.sl 5 l4, D.sl 5 l5, D.sl 5 l6, D.sl 4 l7, D.sl 1 l8, D.sl 1 l9, D.sl 1 l10, D.sl 2 l11], canCall Tryz.prog g1 = true, Ret Tryz.prog g1 ([AD.agg [D.sl 5 l4, D.sl 5 l5, D.sl 5 l6, D.sl 4 l7, D.sl 1 l8, D.sl 1 l9, D.sl 1 l10, D.sl 2 l11]] ++ List.map AD.one k2) [AD.one (B b12)], b12 = false, inInt IntKind.i64 (n3 + 1)]) :
    Tr Tryz.prog (loopOf Tryz.f91 0) (slices_IndexFunc_Worker_L0 l0 g1 k2 n3) Ex.normal (slices_IndexFunc_Worker_L0 l0 g1 k2 (n3 + 1)) :=
  .of_loopc (ks := [8, 7, 1, 0]) (bs := []) (ans := [Ans.br true, Ans.el [D.sl 5 l4, D.sl 5 l5, D.sl 5 l6, D.sl 4 l7, D.sl 1 l8, D.sl 1 l9, D.sl 1 l10, D.sl 2 l11], Ans.res [AD.one (B b12)], Ans.br false]) (by kernel_rfl) h

def slices_IndexFunc_Worker_X0v2 : St :=
  { env := envOf 19 [], boxes := [] }

theorem slices_IndexFunc_Worker_L0_x2 (l0 : List (List D)) (g1 : Nat) (k2 : List D) (n3 : Int)
    (h : Obs [decide (n3 < (↑l0.length : Int)) = false]) :
    Tr Tryz.prog (loopOf Tryz.f91 0) (slices_IndexFunc_Worker_L0 l0 g1 k2 n3) (Ex.exit 0) slices_IndexFunc_Worker_X0v2 :=
  .of_loopc (ks := []) (bs := []) (ans := [Ans.br false]) (by kernel_rfl) h

theorem slices_IndexFunc_Worker_p0 (l0 : List (List D)) (g1 : Nat) (k2 : List D) (n3 : Int)
    (h : Obs [LoopOk Tryz.prog (loopOf Tryz.f91 0) (slices_IndexFunc_Worker_L0 l0 g1 k2 0) Ex.ret (slices_IndexFunc_Worker_X0 n3)]) :
    Ret Tryz.prog 91 [AD.one (D.sl 8 l0), AD.one (D.cl g1 k2)] [AD.one (I n3)] :=
  .of [Ans.loop [] [8, 7, 1, 0] [] Ex.ret (slices_IndexFunc_Worker_X0 n3)] _ Tryz.func91 rfl (by kernel_rfl) h

theorem slices_IndexFunc_Worker_p1 (l0 : List (List D)) (g1 : Nat) (k2 : List D)
    (h : Obs [LoopOk Tryz.prog (loopOf Tryz.f91 0) (slices_IndexFunc_Worker_L0 l0 g1 k2 0) (Ex.exit 0) slices_IndexFunc_Worker_X0v2]) :
    Ret Tryz.prog 91 [AD.one (D.sl 8 l0), AD.one (D.cl g1 k2)] [AD.one (I (-1))] :=
  .of [Ans.loop [] [8, 7, 1, 0] [] (Ex.exit 0) slices_IndexFunc_Worker_X0v2] _ Tryz.func91 rfl (by kernel_rfl) h

/- slices.IndexFunc[[]loop.example/g00973/impl.News,loop.example/g00973/impl.News] -/

def slices_IndexFunc_News_L0 (l0 : List (List D)) (g1 : Nat) (k2 : List D) (n3 : Int) : St :=
  { env := envOf 19 [(0, PV.al (AL.one (Leaf.sl Tag.free 3 l0))), (1, PV.al (AL.one (Leaf.fd (D.cl g1 k2)))), (7, PV.al (AL.one (Leaf.v (Value.int IntKind.i64 (↑l0.length : Int))))), (8, PV.al (AL.one (Leaf.v (Value.int IntKind.i64 n3))))], boxes := [] }

def slices_IndexFunc_News_X0 (n0 : Int) : St :=
  { env := envOf 19 [(4, PV.al (AL.one (Leaf.v (Value.int IntKind.i64 n0))))], boxes := [] }

theorem slices_IndexFunc_News_L0_x0 (l0 : List (List D)) (g1 : Nat) (k2 : List D) (n3 : Int) (n4 : Int) (n5 : Int) (b6 : Bool) (b7 : Bool)
    (h : Obs [decide (n3 < (↑l0.length : Int)) = true, 0 ≤ n3, n3 < (↑l0.length : Int), l0[n3.toNat]? = some [I n4, I n5, B b6], canCall Tryz.prog g1 = true, Ret Tryz.prog g1 ([AD.agg [I n4, I n5, B b6]] ++ List.map AD.one k2) [AD.one (B b7)], b7 = true]) :
    Tr Tryz.prog (loopOf Tryz.f93 0) (slices_IndexFunc_News_L0 l0 g1 k2 n3) Ex.ret (slices_IndexFunc_News_X0 n3) :=
  .of_loopc (ks := [4]) (bs := []) (ans := [Ans.br true, Ans.el [I n4, I n5, B b6], Ans.res [AD.one (B b7)], Ans.br true]) (by kernel_rfl) h

theorem slices_IndexFunc_News_L0_s1 (l0 : List (List D)) (g1 : Nat) (k2 : List D) (n3 : Int) (n4 : Int) (n5 : Int) (b6 : Bool) (b7 : Bool)
    (h : Obs [decide (n3 < (↑l0.length : Int)) = true, 0 ≤ n3, n3 < (↑l0.length : Int), l0[n3.toNat]? = some [I n4, I n5, B b6], canCall Tryz.prog g1 = true, Ret Tryz.prog g1 ([AD.agg [I n4, I n5, B b6]] ++ List.map AD.one k2) [AD.one (B b7)], b7 = false, inInt IntKind.i64 (n3 + 1)]) :
    Tr Tryz.prog (loopOf Tryz.f93 0) (slices_IndexFunc_News_L0 l0 g1 k2 n3) Ex.normal (slices_IndexFunc_News_L0 l0 g1 k2 (n3 + 1)) :=
  .of_loopc (ks := [8, 7, 1, 0]) (bs := []) (ans := [Ans.br true, Ans.el [I n4, I n5, B b6], Ans.res [AD.one (B b7)], Ans.br false]) (by kernel_rfl) h

def slices_IndexFunc_News_X0v2 : St :=
  { env := envOf 19 [], boxes := [] }

theorem slices_IndexFunc_News_L0_x2 (l0 : List (List D)) (g1 : Nat) (k2 : List D) (n3 : Int)
    (h : Obs [decide (n3 < (↑l0.length : Int)) = false]) :
    Tr Tryz.prog (loopOf Tryz.f93 0) (slices_IndexFunc_News_L0 l0 g1 k2 n3) (Ex.exit 0) slices_IndexFunc_News_X0v2 :=
  .of_loopc (ks := []) (bs := []) (ans := [Ans.br false]) (by kernel_rfl) h

theorem slices_IndexFunc_News_p0 (l0 : List (List D)) (g1 : Nat) (k2 : List D) (n3 : Int)
    (h : Obs [LoopOk Tryz.prog (loopOf Tryz.f93 0) (slices_IndexFunc_News_L0 l0 g1 k2 0) Ex.ret (slices_IndexFunc_News_X0 n3)]) :
    Ret Tryz.prog 93 [AD.one (D.sl 3 l0), AD.one (D.cl g1 k2)] [AD.one (I n3)] :=
  .of [Ans.loop [] [8, 7, 1, 0] [] Ex.ret (slices_IndexFunc_News_X0 n3)] _ Tryz.func93 rfl (by kernel_rfl) h

theorem slices_IndexFunc_News_p1 (l0 : List (List D)) (g1 : Nat) (k2 : List D)
    (h : Obs [LoopOk Tryz.prog (loopOf Tryz.f93 0) (slices_IndexFunc_News_L0 l0 g1 k2 0) (Ex.exit 0) slices_IndexFunc_News_X0v2]) :
    Ret Tryz.prog 93 [AD.one (D.sl 3 l0), AD.one (D.cl g1 k2)] [AD.one (I (-1))] :=
  .of [Ans.loop [] [8, 7, 1, 0] [] (Ex.exit 0) slices_IndexFunc_News_X0v2] _ Tryz.func93 rfl (by kernel_rfl) h

/- slices.IndexFunc[[]loop.example/g00973/impl.Stamp,loop.example/g00973/impl.Stamp] -/

def slices_IndexFunc_Stamp_L0 (l0 : List (List D)) (g1 : Nat) (k2 : List D) (n3 : Int) : St :=
  { env := envOf 19 [(0, PV.al (AL.one (Leaf.sl Tag.free 2 l0))), (1, PV.al (AL.one (Leaf.fd (D.cl g1 k2)))), (7, PV.al (AL.one (Leaf.v (Value.int IntKind.i64 (↑l0.length : Int))))), (8, PV.al (AL.one (Leaf.v (Value.int IntKind.i64 n3))))], boxes := [] }

def slices_IndexFunc_Stamp_X0 (n0 : Int) : St :=
  { env := envOf 19 [(4, PV.al (AL.one (Leaf.v (Value.int IntKind.i64 n0))))], boxes := [] }

theorem slices_IndexFunc_Stamp_L0_x0 (l0 : List (List D)) (g1 : Nat) (k2 : List D) (n3 : Int) (n4 : Int) (n5 : Int) (b6 : Bool)
    (h : Obs [decide (n3 < (↑l0.length : Int)) = true, 0 ≤ n3, n3 < (↑l0.length : Int), l0[n3.toNat]? = some [I n4, I n5], canCall Tryz.prog g1 = true, Ret Tryz.prog g1 ([AD.agg [I n4, I n5]] ++ List.map AD.one k2) [AD.one (B b6)], b6 = true]) :
    Tr Tryz.prog (loopOf Tryz.f115 0) (slices_IndexFunc_Stamp_L0 l0 g1 k2 n3) Ex.ret (slices_IndexFunc_Stamp_X0 n3) :=
  .of_loopc (ks := [4]) (bs := []) (ans := [Ans.br true, Ans.el [I n4, I n5], Ans.res [AD.one (B b6)], Ans.br true]) (by kernel_rfl) h

theorem slices_IndexFunc_Stamp_L0_s1 (l0 : List (List D)) (g1 : Nat) (k2 : List D) (n3 : Int) (n4 : Int) (n5 : Int) (b6 : Bool)
    (h : Obs [decide (n3 < (↑l0.length : Int)) = true, 0 ≤ n3, n3 < (↑l0.length : Int), l0[n3.toNat]? = some [I n4, I n5], canCall Tryz.prog g1 = true, Ret Tryz.prog g1 ([AD.agg [I n4, I n5]] ++ List.map AD.one k2) [AD.one (B b6)], b6 = false, inInt IntKind.i64 (n3 + 1)]) :
    Tr Tryz.prog (loopOf Tryz.f115 0) (slices_IndexFunc_Stamp_L0 l0 g1 k2 n3) Ex.normal (slices_IndexFunc_Stamp_L0 l0 g1 k2 (n3 + 1)) :=
  .of_loopc (ks := [8, 7, 1, 0]) (bs := []) (ans := [Ans.br true, Ans.el [I n4, I n5], Ans.res [AD.one (B b6)], Ans.br false]) (by kernel_rfl) h

def slices_IndexFunc_Stamp_X0v2 : St :=
  { env := envOf 19 [], boxes := [] }

theorem slices_IndexFunc_Stamp_L0_x2 (l0 : List (List D)) (g1 : Nat) (k2 : List D) (n3 : Int)
    (h : Obs [decide (n3 < (↑l0.length : Int)) = false]) :
    Tr Tryz.prog (loopOf Tryz.f115 0) (slices_IndexFunc_Stamp_L0 l0 g1 k2 n3) (Ex.exit 0) slices_IndexFunc_Stamp_X0v2 :=
  .of_loopc (ks := []) (bs := []) (ans := [Ans.br false]) (by kernel_rfl) h

theorem slices_IndexFunc_Stamp_p0 (l0 : List (List D)) (g1 : Nat) (k2 : List D) (n3 : Int)
    (h : Obs [LoopOk Tryz.prog (loopOf Tryz.f115 0) (slices_IndexFunc_Stamp_L0 l0 g1 k2 0) Ex.ret (slices_IndexFunc_Stamp_X0 n3)]) :
    Ret Tryz.prog 115 [AD.one (D.sl 2 l0), AD.one (D.cl g1 k2)] [AD.one (I n3)] :=
  .of [Ans.loop [] [8, 7, 1, 0] [] Ex.ret (slices_IndexFunc_Stamp_X0 n3)] _ Tryz.func115 rfl (by kernel_rfl) h

theorem slices_IndexFunc_Stamp_p1 (l0 : List (List D)) (g1 : Nat) (k2 : List D)
    (h : Obs [LoopOk Tryz.prog (loopOf Tryz.f115 0) (slices_IndexFunc_Stamp_L0 l0 g1 k2 0) (Ex.exit 0) slices_IndexFunc_Stamp_X0v2]) :
    Ret Tryz.prog 115 [AD.one (D.sl 2 l0), AD.one (D.cl g1 k2)] [AD.one (I (-1))] :=
  .of [Ans.loop [] [8, 7, 1, 0] [] (Ex.exit 0) slices_IndexFunc_Stamp_X0v2] _ Tryz.func115 rfl (by kernel_rfl) h

/- slices.IndexFunc[[]loop.example/g00973/impl.Done,loop.example/g00973/impl.Done] -/

def slices_IndexFunc_Done_L0 (l0 : List (List D)) (g1 : Nat) (k2 : List D) (n3 : Int) : St :=
  { env := envOf 19 [(0, PV.al (AL.one (Leaf.sl Tag.free 2 l0))), (1, PV.al (AL.one (Leaf.fd (D.cl g1 k2)))), (7, PV.al (AL.one (Leaf.v (Value.int IntKind.i64 (↑l0.length : Int))))), (8, PV.al (AL.one (Leaf.v (Value.int IntKind.i64 n3))))], boxes := [] }

def slices_IndexFunc_Done_X0 (n0 : Int) : St :=
  { env := envOf 19 [(4, PV.al (AL.one (Leaf.v (Value.int IntKind.i64 n0))))], boxes := [] }

theorem slices_IndexFunc_Done_L0_x0 (l0 : List (List D)) (g1 : Nat) (k2 : List D) (n3 : Int) (n4 : Int) (b5 : Bool) (b6 : Bool)
    (h : Obs [decide (n3 < (↑l0.length : Int)) = true, 0 ≤ n3, n3 < (↑l0.length : Int), l0[n3.toNat]? = some [I n4, B b5], canCall Tryz.prog g1 = true, Ret Tryz.prog g1 ([AD.agg [I n4, B b5]] ++ List.map AD.one k2) [AD.one (B b6)], b6 = true]) :
    Tr Tryz.prog (loopOf Tryz.f144 0) (slices_IndexFunc_Done_L0 l0 g1 k2 n3) Ex.ret (slices_IndexFunc_Done_X0 n3) :=
  .of_loopc (ks := [4]) (bs := []) (ans := [Ans.br true, Ans.el [I n4, B b5], Ans.res [AD.one (B b6)], Ans.br true]) (by kernel_rfl) h

theorem slices_IndexFunc_Done_L0_s1 (l0 : List (List D)) (g1 : Nat) (k2 : List D) (n3 : Int) (n4 : Int) (b5 : Bool) (b6 : Bool)
    (h : Obs [decide (n3 < (↑l0.length : Int)) = true, 0 ≤ n3, n3 < (↑l0.length : Int), l0[n3.toNat]? = some [I n4, B b5], canCall Tryz.prog g1 = true, Ret Tryz.prog g1 ([AD.agg [I n4, B b5]] ++ List.map AD.one k2) [AD.one (B b6)], b6 = false, inInt IntKind.i64 (n3 + 1)]) :
    Tr Tryz.prog (loopOf Tryz.f144 0) (slices_IndexFunc_Done_L0 l0 g1 k2 n3) Ex.normal (slices_IndexFunc_Done_L0 l0 g1 k2 (n3 + 1)) :=
  .of_loopc (ks := [8, 7, 1, 0]) (bs := []) (ans := [Ans.br true, Ans.el [I n4, B b5], Ans.res [AD.one (B b6)], Ans.br false]) (by kernel_rfl) h

def slices_IndexFunc_Done_X0v2 : St :=
  { env := envOf 19 [], boxes := [] }

theorem slices_IndexFunc_Done_L0_x2 (l0 : List (List D)) (g1 : Nat) (k2 : List D) (n3 : Int)
    (h : Obs [decide (n3 < (↑l0.length : Int)) = false]) :
    Tr Tryz.prog (loopOf Tryz.f144 0) (slices_IndexFunc_Done_L0 l0 g1 k2 n3) (Ex.exit 0) slices_IndexFunc_Done_X0v2 :=
  .of_loopc (ks := []) (bs := []) (ans := [Ans.br false]) (by kernel_rfl) h

theorem slices_IndexFunc_Done_p0 (l0 : List (List D)) (g1 : Nat) (k2 : List D) (n3 : Int)
    (h : Obs [LoopOk Tryz.prog (loopOf Tryz.f144 0) (slices_IndexFunc_Done_L0 l0 g1 k2 0) Ex.ret (slices_IndexFunc_Done_X0 n3)]) :
    Ret Tryz.prog 144 [AD.one (D.sl 2 l0), AD.one (D.cl g1 k2)] [AD.one (I n3)] :=
  .of [Ans.loop [] [8, 7, 1, 0] [] Ex.ret (slices_IndexFunc_Done_X0 n3)] _ Tryz.func144 rfl (by kernel_rfl) h

theorem slices_IndexFunc_Done_p1 (l0 : List (List D)) (g1 : Nat) (k2 : List D)
    (h : Obs [LoopOk Tryz.prog (loopOf Tryz.f144 0) (slices_IndexFunc_Done_L0 l0 g1 k2 0) (Ex.exit 0) slices_IndexFunc_Done_X0v2]) :
    Ret Tryz.prog 144 [AD.one (D.sl 2 l0), AD.one (D.cl g1 k2)] [AD.one (I (-1))] :=
  .of [Ans.loop [] [8, 7, 1, 0] [] (Ex.exit 0) slices_IndexFunc_Done_X0v2] _ Tryz.func144 rfl (by kernel_rfl) h

/- slices.Contains[[]loop.example/g00973/impl.Stamp,loop.example/g00973/impl.Stamp] -/

theorem slices_Contains_Stamp_p0 (l0 : List (List D)) (n1 : Int) (n2 : Int) (n3 : Int)
    (h : Obs [Ret Tryz.prog 116 [AD.one (D.sl 2 l0), AD.agg [I n1, I n2]] [AD.one (I n3)]]) :
    Ret Tryz.prog 88 [AD.one (D.sl 2 l0), AD.agg [I n1, I n2]] [AD.one (B (decide (n3 ≥ 0)))] :=
  .of [Ans.res [AD.one (I n3)]] _ Tryz.func88 rfl (by kernel_rfl) h

/- slices.Index[[]loop.example/g00973/impl.Stamp,loop.example/g00973/impl.Stamp] -/

def slices_Index_Stamp_L0 (l0 : List (List D)) (n1 : Int) (n2 : Int) (n3 : Int) : St :=
  { env := envOf 19 [(0, PV.al (AL.one (Leaf.sl Tag.free 2 l0))), (3, PV.al (AL.one (Leaf.ptr 3 0))), (7, PV.al (AL.one (Leaf.v (Value.int IntKind.i64 (↑l0.length : Int))))), (8, PV.al (AL.one (Leaf.v (Value.int IntKind.i64 n3))))], boxes := [(3, [Leaf.v (Value.int IntKind.i64 n1), Leaf.v (Value.int IntKind.i64 n2)])] }

def slices_Index_Stamp_X0 (n0 : Int) : St :=
  { env := envOf 19 [(4, PV.al (AL.one (Leaf.v (Value.int IntKind.i64 n0))))], boxes := [] }

theorem slices_Index_Stamp_L0_x0 (l0 : List (List D)) (n1 : Int) (n2 : Int) (n3 : Int) (n4 : Int) (n5 : Int)
    (h : Obs [decide (n3 < (↑l0.length : Int)) = true, 0 ≤ n3, n3 < (↑l0.length : Int), l0[n3.toNat]? = some [I n4, I n5], (n1 == n4 && n2 == n5) = true]) :
    Tr Tryz.prog (loopOf Tryz.f116 0) (slices_Index_Stamp_L0 l0 n1 n2 n3) Ex.ret (slices_Index_Stamp_X0 n3) :=
  .of_loopc (ks := [4]) (bs := []) (ans := [Ans.br true, Ans.el [I n4, I n5], Ans.br true]) (by kernel_rfl) h

theorem slices_Index_Stamp_L0_s1 (l0 : List (List D)) (n1 : Int) (n2 : Int) (n3 : Int) (n4 : Int) (n5 : Int)
    (h : Obs [decide (n3 < (↑l0.length : Int)) = true, 0 ≤ n3, n3 < (↑l0.length : Int), l0[n3.toNat]? = some [I n4, I n5], (n1 == n4 && n2 == n5) = false, inInt IntKind.i64 (n3 + 1)]) :
    Tr Tryz.prog (loopOf Tryz.f116 0) (slices_Index_Stamp_L0 l0 n1 n2 n3) Ex.normal (slices_Index_Stamp_L0 l0 n1 n2 (n3 + 1)) :=
  .of_loopc (ks := [8, 7, 3, 0]) (bs := [3]) (ans := [Ans.br true, Ans.el [I n4, I n5], Ans.br false]) (by kernel_rfl) h

def slices_Index_Stamp_X0v2 : St :=
  { env := envOf 19 [], boxes := [] }

theorem slices_Index_Stamp_L0_x2 (l0 : List (List D)) (n1 : Int) (n2 : Int) (n3 : Int)
    (h : Obs [decide (n3 < (↑l0.length : Int)) = false]) :
    Tr Tryz.prog (loopOf Tryz.f116 0) (slices_Index_Stamp_L0 l0 n1 n2 n3) (Ex.exit 0) slices_Index_Stamp_X0v2 :=
  .of_loopc (ks := []) (bs := []) (ans := [Ans.br false]) (by kernel_rfl) h

theorem slices_Index_Stamp_p0 (l0 : List (List D)) (n1 : Int) (n2 : Int) (n3 : Int)
    (h : Obs [LoopOk Tryz.prog (loopOf Tryz.f116 0) (slices_Index_Stamp_L0 l0 n1 n2 0) Ex.ret (slices_Index_Stamp_X0 n3)]) :
    Ret Tryz.prog 116 [AD.one (D.sl 2 l0), AD.agg [I n1, I n2]] [AD.one (I n3)] :=
  .of [Ans.loop [] [8, 7, 3, 0] [3] Ex.ret (slices_Index_Stamp_X0 n3)] _ Tryz.func116 rfl (by kernel_rfl) h

theorem slices_Index_Stamp_p1 (l0 : List (List D)) (n1 : Int) (n2 : Int)
    (h : Obs [LoopOk Tryz.prog (loopOf Tryz.f116 0) (slices_Index_Stamp_L0 l0 n1 n2 0) (Ex.exit 0) slices_Index_Stamp_X0v2]) :
    Ret Tryz.prog 116 [AD.one (D.sl 2 l0), AD.agg [I n1, I n2]] [AD.one (I (-1))] :=
  .of [Ans.loop [] [8, 7, 3, 0] [3] (Ex.exit 0) slices_Index_Stamp_X0v2] _ Tryz.func116 rfl (by kernel_rfl) h

/- loop.example/g00973/impl.FrontAll -/

def impl_FrontAll_L0 (l0 : List (List D)) (n1 : Int) (l2 : List (List D)) : St :=
  { env := envOf 37 [(3, PV.al (AL.one (Leaf.sl (Tag.own 110000) 5 l2))), (12, PV.al (AL.one (Leaf.sl Tag.free 8 l0))), (13, PV.al (AL.one (Leaf.v (Value.int IntKind.i64 (↑l0.length : Int))))), (14, PV.al (AL.one (Leaf.v (Value.int IntKind.i64 n1))))], boxes := [] }

theorem impl_FrontAll_L0_s0 (l3 : List (List D)) (n8 : Int) (l9 : List (List D)) (l10 : List (List D)) (l11 : List (List D)) (l12 : List (List D)) (l13 : List (List D)) (l14 : List (List D)) (l15 : List (List D)) (l16 : List (List D)) (l17 : List (List D))
    (h : Obs [decide (n8 < (↑l3.length : Int)) = true, 0 ≤ n8, n8 < (↑l3.length : Int), l3[n8.toNat]? = some [D.sl 5 l10, D.sl 5 l11, D.sl 5 l12, D.sl 4 l13, D.sl 1 l14, D.sl 1 l15, D.sl 1 l16, D.sl 2 l17], (l9.length + l12.length) * 40 ≤ 140737488355328, l9.length + l12.length ≤ 9223372036854775807, Flat l12, inInt IntKind.i64 (n8 + 1)]) :
    Tr Tryz.prog (loopOf Tryz.f19 0) (impl_FrontAll_L0 l3 n8 l9) Ex.normal (impl_FrontAll_L0 l3 (n8 + 1) (l9 ++ l12)) :=
  .of_loopc (ks := [14, 13, 12, 3]) (bs := []) (ans := [Ans.br true, Ans.el [D.sl 5 l10, D.sl 5 l11, D.sl 5 l12, D.sl 4 l13, D.sl 1 l14, D.sl 1 l15, D.sl 1 l16, D.sl 2 l17]]) (by kernel_rfl) h

def impl_FrontAll_X0 (l0 : List (List D)) : St :=
  { env := envOf 37 [(3, PV.al (AL.one (Leaf.sl (Tag.own 110000) 5 l0)))], boxes := [] }

theorem impl_FrontAll_L0_x1 (l3 : List (List D)) (n8 : Int) (l9 : List (List D))
    (h : Obs [decide (n8 < (↑l3.length : Int)) = false]) :
    Tr Tryz.prog (loopOf Tryz.f19 0) (impl_FrontAll_L0 l3 n8 l9) (Ex.exit 0) (impl_FrontAll_X0 l9) :=
  .of_loopc (ks := [3]) (bs := []) (ans := [Ans.br false]) (by kernel_rfl) h

def impl_FrontAll_L1 (l0 : List (List D)) (n1 : Int) (l2 : List (List D)) : St :=
  { env := envOf 37 [(6, PV.al (AL.one (Leaf.sl (Tag.own 33) 2 l2))), (23, PV.al (AL.one (Leaf.sl (Tag.own 110000) 5 l0))), (24, PV.al (AL.one (Leaf.v (Value.int IntKind.i64 (↑l0.length : Int))))), (25, PV.al (AL.one (Leaf.v (Value.int IntKind.i64 n1))))], boxes := [] }

theorem impl_FrontAll_L1_s0 (l8 : List (List D)) (n9 : Int) (l10 : List (List D)) (n11 : Int) (n12 : Int) (n13 : Int) (n14 : Int) (n15 : Int)
    (h : Obs [decide (n9 < (↑l8.length : Int)) = true, 0 ≤ n9, n9 < (↑l8.length : Int), l8[n9.toNat]? = some [I n11, I n12, I n13, I n14, I n15], (l10.length + [[I n12, I n13]].length) * 16 ≤ 140737488355328, l10.length + [[I n12, I n13]].length ≤ 9223372036854775807, Flat [[I n12, I n13]], inInt IntKind.i64 (n9 + 1)]) :
    Tr Tryz.prog (loopOf Tryz.f19 1) (impl_FrontAll_L1 l8 n9 l10) Ex.normal (impl_FrontAll_L1 l8 (n9 + 1) (l10 ++ [[I n12, I n13]])) :=
  .of_loopc (ks := [25, 24, 23, 6]) (bs := []) (ans := [Ans.br true, Ans.el [I n11, I n12, I n13, I n14, I n15]]) (by kernel_rfl) h

def impl_FrontAll_X1 (l0 : List (List D)) : St :=
  { env := envOf 37 [(6, PV.al (AL.one (Leaf.sl (Tag.own 33) 2 l0)))], boxes := [] }

theorem impl_FrontAll_L1_x1 (l8 : List (List D)) (n9 : Int) (l10 : List (List D))
    (h : Obs [decide (n9 < (↑l8.length : Int)) = false]) :
    Tr Tryz.prog (loopOf Tryz.f19 1) (impl_FrontAll_L1 l8 n9 l10) (Ex.exit 2) (impl_FrontAll_X1 l10) :=
  .of_loopc (ks := [6]) (bs := []) (ans := [Ans.br false]) (by kernel_rfl) h

theorem impl_FrontAll_p0 (l0 : List (List D)) (n1 : Int) (n2 : Int) (l3 : List (List D)) (l4 : List (List D)) (l5 : List (List D)) (l6 : List (List D)) (l7 : List (List D)) (l8 : List (List D)) (l9 : List (List D)) (l10 : List (List D))
    (h : Obs [Ret Tryz.prog 10 [AD.agg [D.sl 4 l0, I n1, I n2, D.sl 8 l3, D.sl 6 l4, D.sl 5 l5, D.sl 3 l6]] [AD.one (D.sl 5 l7)], LoopOk Tryz.prog (loopOf Tryz.f19 0) (impl_FrontAll_L0 l3 0 l7) (Ex.exit 0) (impl_FrontAll_X0 l8), LoopOk Tryz.prog (loopOf Tryz.f19 1) (impl_FrontAll_L1 l8 0 []) (Ex.exit 2) (impl_FrontAll_X1 l9), Ret Tryz.prog 51 [AD.one (D.sl 2 l9)] [AD.one (D.sl 2 l10)]]) :
    Ret Tryz.prog 19 [AD.agg [D.sl 4 l0, I n1, I n2, D.sl 8 l3, D.sl 6 l4, D.sl 5 l5, D.sl 3 l6]] [AD.one (D.sl 2 l10)] :=
  .of [Ans.res [AD.one (D.sl 5 l7)], Ans.loop [] [14, 13, 12, 3] [] (Ex.exit 0) (impl_FrontAll_X0 l8), Ans.loop [(6, 33, 2)] [25, 24, 23, 6] [] (Ex.exit 2) (impl_FrontAll_X1 l9), Ans.res [AD.one (D.sl 2 l10)]] _ Tryz.func19 rfl (by kernel_rfl) h

/- loop.example/g00973/impl.SafeAt -/

theorem impl_SafeAt_p0 (l0 : List (List D)) (n1 : Int) (n2 : Int) (l3 : List (List D)) (l4 : List (List D)) (l5 : List (List D)) (l6 : List (List D)) (n7 : Int) (b8 : Bool) (l9 : List (List D)) (l10 : List (List D))
    (h : Obs [Ret Tryz.prog 55 [AD.one (D.sl 8 l3), AD.one (D.cl 56 [D.ptr [I n7]])] [AD.one (B b8)], b8 = true, Ret Tryz.prog 17 [AD.agg [D.sl 4 l0, I n1, I n2, D.sl 8 l3, D.sl 6 l4, D.sl 5 l5, D.sl 3 l6], AD.one (I n7)] [AD.one (D.sl 5 l9)], ((↑l9.length : Int) == 0) = true, Ret Tryz.prog 60 [AD.agg [D.sl 4 l0, I n1, I n2, D.sl 8 l3, D.sl 6 l4, D.sl 5 l5, D.sl 3 l6], AD.one (I n7)] [AD.one (D.sl 5 l10)]]) :
    Ret Tryz.prog 24 [AD.agg [D.sl 4 l0, I n1, I n2, D.sl 8 l3, D.sl 6 l4, D.sl 5 l5, D.sl 3 l6], AD.one (I n7)] [AD.one (B ((↑l10.length : Int) == 0))] :=
  .of [Ans.res [AD.one (B b8)], Ans.br true, Ans.res [AD.one (D.sl 5 l9)], Ans.br true, Ans.res [AD.one (D.sl 5 l10)]] _ Tryz.func24 rfl (by kernel_rfl) h

theorem impl_SafeAt_p1 (l0 : List (List D)) (n1 : Int) (n2 : Int) (l3 : List (List D)) (l4 : List (List D)) (l5 : List (List D)) (l6 : List (List D)) (n7 : Int) (b8 : Bool) (l9 : List (List D))
    (h : Obs [Ret Tryz.prog 55 [AD.one (D.sl 8 l3), AD.one (D.cl 56 [D.ptr [I n7]])] [AD.one (B b8)], b8 = true, Ret Tryz.prog 17 [AD.agg [D.sl 4 l0, I n1, I n2, D.sl 8 l3, D.sl 6 l4, D.sl 5 l5, D.sl 3 l6], AD.one (I n7)] [AD.one (D.sl 5 l9)], ((↑l9.length : Int) == 0) = false]) :
    Ret Tryz.prog 24 [AD.agg [D.sl 4 l0, I n1, I n2, D.sl 8 l3, D.sl 6 l4, D.sl 5 l5, D.sl 3 l6], AD.one (I n7)] [AD.one (B false)] :=
  .of [Ans.res [AD.one (B b8)], Ans.br true, Ans.res [AD.one (D.sl 5 l9)], Ans.br false] _ Tryz.func24 rfl (by kernel_rfl) h

theorem impl_SafeAt_p2 (l0 : List (List D)) (n1 : Int) (n2 : Int) (l3 : List (List D)) (l4 : List (List D)) (l5 : List (List D)) (l6 : List (List D)) (n7 : Int) (b8 : Bool) (b9 : Bool)
    (h : Obs [Ret Tryz.prog 55 [AD.one (D.sl 8 l3), AD.one (D.cl 56 [D.ptr [I n7]])] [AD.one (B b8)], b8 = false, Ret Tryz.prog 58 [AD.one (D.sl 3 l6), AD.one (D.cl 59 [D.ptr [I n7]])] [AD.one (B b9)], (!b9) = true]) :
    Ret Tryz.prog 24 [AD.agg [D.sl 4 l0, I n1, I n2, D.sl 8 l3, D.sl 6 l4, D.sl 5 l5, D.sl 3 l6], AD.one (I n7)] [AD.one (B true)] :=
  .of [Ans.res [AD.one (B b8)], Ans.br false, Ans.res [AD.one (B b9)], Ans.br true] _ Tryz.func24 rfl (by kernel_rfl) h

theorem impl_SafeAt_p3 (l0 : List (List D)) (n1 : Int) (n2 : Int) (l3 : List (List D)) (l4 : List (List D)) (l5 : List (List D)) (l6 : List (List D)) (n7 : Int) (b8 : Bool) (b9 : Bool) (l10 : List (List D)) (l11 : List (List D))
    (h : Obs [Ret Tryz.prog 55 [AD.one (D.sl 8 l3), AD.one (D.cl 56 [D.ptr [I n7]])] [AD.one (B b8)], b8 = false, Ret Tryz.prog 58 [AD.one (D.sl 3 l6), AD.one (D.cl 59 [D.ptr [I n7]])] [AD.one (B b9)], (!b9) = false, Ret Tryz.prog 17 [AD.agg [D.sl 4 l0, I n1, I n2, D.sl 8 l3, D.sl 6 l4, D.sl 5 l5, D.sl 3 l6], AD.one (I n7)] [AD.one (D.sl 5 l10)], ((↑l10.length : Int) == 0) = true, Ret Tryz.prog 60 [AD.agg [D.sl 4 l0, I n1, I n2, D.sl 8 l3, D.sl 6 l4, D.sl 5 l5, D.sl 3 l6], AD.one (I n7)] [AD.one (D.sl 5 l11)]]) :
    Ret Tryz.prog 24 [AD.agg [D.sl 4 l0, I n1, I n2, D.sl 8 l3, D.sl 6 l4, D.sl 5 l5, D.sl 3 l6], AD.one (I n7)] [AD.one (B ((↑l11.length : Int) == 0))] :=
  .of [Ans.res [AD.one (B b8)], Ans.br false, Ans.res [AD.one (B b9)], Ans.br false, Ans.res [AD.one (D.sl 5 l10)], Ans.br true, Ans.res [AD.one (D.sl 5 l11)]] _ Tryz.func24 rfl (by kernel_rfl) h

theorem impl_SafeAt_p4 (l0 : List (List D)) (n1 : Int) (n2 : Int) (l3 : List (List D)) (l4 : List (List D)) (l5 : List (List D)) (l6 : List (List D)) (n7 : Int) (b8 : Bool) (b9 : Bool) (l10 : List (List D))
    (h : Obs [Ret Tryz.prog 55 [AD.one (D.sl 8 l3), AD.one (D.cl 56 [D.ptr [I n7]])] [AD.one (B b8)], b8 = false, Ret Tryz.prog 58 [AD.one (D.sl 3 l6), AD.one (D.cl 59 [D.ptr [I n7]])] [AD.one (B b9)], (!b9) = false, Ret Tryz.prog 17 [AD.agg [D.sl 4 l0, I n1, I n2, D.sl 8 l3, D.sl 6 l4, D.sl 5 l5, D.sl 3 l6], AD.one (I n7)] [AD.one (D.sl 5 l10)], ((↑l10.length : Int) == 0) = false]) :
    Ret Tryz.prog 24 [AD.agg [D.sl 4 l0, I n1, I n2, D.sl 8 l3, D.sl 6 l4, D.sl 5 l5, D.sl 3 l6], AD.one (I n7)] [AD.one (B false)] :=
  .of [Ans.res [AD.one (B b8)], Ans.br false, Ans.res [AD.one (B b9)], Ans.br false, Ans.res [AD.one (D.sl 5 l10)], Ans.br false] _ Tryz.func24 rfl (by kernel_rfl) h

/- loop.example/g00973/impl.SafeAt$1 -/

theorem impl_SafeAt_1_p0 (l0 : List (List D)) (l1 : List (List D)) (l2 : List (List D)) (l3 : List (List D)) (l4 : List (List D)) (l5 : List (List D)) (l6 : List (List D)) (l7 : List (List D)) (n8 : Int) (b9 : Bool)
    (h : Obs [Ret Tryz.prog 57 [AD.agg [D.sl 5 l0, D.sl 5 l1, D.sl 5 l2, D.sl 4 l3, D.sl 1 l4, D.sl 1 l5, D.sl 1 l6, D.sl 2 l7], AD.one (I n8)] [AD.one (B b9)]]) :
    Ret Tryz.prog 56 [AD.agg [D.sl 5 l0, D.sl 5 l1, D.sl 5 l2, D.sl 4 l3, D.sl 1 l4, D.sl 1 l5, D.sl 1 l6, D.sl 2 l7], AD.one (D.ptr [I n8])] [AD.one (B b9)] :=
  .of [Ans.res [AD.one (B b9)]] _ Tryz.func56 rfl (by kernel_rfl) h

/- loop.example/g00973/impl.SafeAt$2 -/

theorem impl_SafeAt_2_p0 (n0 : Int) (n1 : Int) (b2 : Bool) (n3 : Int)
    (h : Obs []) :
    Ret Tryz.prog 59 [AD.agg [I n0, I n1, B b2], AD.one (D.ptr [I n3])] [AD.one (B (n1 == n3))] :=
  .of [] _ Tryz.func59 rfl (by kernel_rfl) h

/- loop.example/g00973/impl.IsDone -/

theorem impl_IsDone_p0 (l0 : List (List D)) (l1 : List (List D)) (l2 : List (List D)) (l3 : List (List D)) (l4 : List (List D)) (l5 : List (List D)) (l6 : List (List D)) (l7 : List (List D)) (n8 : Int) (b9 : Bool)
    (h : Obs [Ret Tryz.prog 92 [AD.one (D.sl 2 l7), AD.one (I n8)] [AD.one (B b9)]]) :
    Ret Tryz.prog 57 [AD.agg [D.sl 5 l0, D.sl 5 l1, D.sl 5 l2, D.sl 4 l3, D.sl 1 l4, D.sl 1 l5, D.sl 1 l6, D.sl 2 l7], AD.one (I n8)] [AD.one (B b9)] :=
  .of [Ans.res [AD.one (B b9)]] _ Tryz.func57 rfl (by kernel_rfl) h

/- loop.example/g00973/impl.doneAt -/

theorem impl_doneAt_p0 (l0 : List (List D)) (n1 : Int) (b2 : Bool)
    (h : Obs [Ret Tryz.prog 118 [AD.one (D.sl 2 l0), AD.one (D.cl 119 [D.ptr [I n1]])] [AD.one (B b2)]]) :
    Ret Tryz.prog 92 [AD.one (D.sl 2 l0), AD.one (I n1)] [AD.one (B b2)] :=
  .of [Ans.res [AD.one (B b2)]] _ Tryz.func92 rfl (by kernel_rfl) h

/- loop.example/g00973/impl.doneAt$1 -/

theorem impl_doneAt_1_p0 (n0 : Int) (b1 : Bool) (n2 : Int)
    (h : Obs []) :
    Ret Tryz.prog 119 [AD.agg [I n0, B b1], AD.one (D.ptr [I n2])] [AD.one (B (n0 == n2))] :=
  .of [] _ Tryz.func119 rfl (by kernel_rfl) h

/- loop.example/g00973/impl.InputsLeft -/

def impl_InputsLeft_L0 (l0 : List (List D)) (n1 : Int) (n2 : Int) (l3 : List (List D)) : St :=
  { env := envOf 23 [(1, PV.al (AL.one (Leaf.v (Value.int IntKind.i64 n1)))), (5, PV.al (AL.one (Leaf.sl (Tag.own 20) 5 l3))), (9, PV.al (AL.one (Leaf.sl Tag.free 8 l0))), (10, PV.al (AL.one (Leaf.v (Value.int IntKind.i64 (↑l0.length : Int))))), (11, PV.al (AL.one (Leaf.v (Value.int IntKind.i64 n2))))], boxes := [] }

theorem impl_InputsLeft_L0_s0 (l3 : List (List D)) (n7 : Int) (n8 : Int) (l9 : List (List D)) (l10 : List (List D)) (l11 : List (List D)) (l12 : List (List D)) (l13 : List (List D)) (l14 : List (List D)) (l15 : List (List D)) (l16 : List (List D)) (l17 : List (List D)) (l18 : List (List D))
    (h : Obs [decide (n8 < (↑l3.length : Int)) = true, 0 ≤ n8, n8 < (↑l3.length : Int), l3[n8.toNat]? = some [D.sl 5 l10, D.sl 5 l11, D.sl 5 l12, D.sl 4 l13, D.sl 1 l14, D.sl 1 l15, D.sl 1 l16, D.sl 2 l17], Ret Tryz.prog 49 [AD.one (D.sl 5 l12), AD.one (I n7)] [AD.one (D.sl 5 l18)], (l9.length + l18.length) * 40 ≤ 140737488355328, l9.length + l18.length ≤ 9223372036854775807, Flat l18, inInt IntKind.i64 (n8 + 1)]) :
    Tr Tryz.prog (loopOf Tryz.f60 0) (impl_InputsLeft_L0 l3 n7 n8 l9) Ex.normal (impl_InputsLeft_L0 l3 n7 (n8 + 1) (l9 ++ l18)) :=
  .of_loopc (ks := [11, 10, 9, 5, 1]) (bs := []) (ans := [Ans.br true, Ans.el [D.sl 5 l10, D.sl 5 l11, D.sl 5 l12, D.sl 4 l13, D.sl 1 l14, D.sl 1 l15, D.sl 1 l16, D.sl 2 l17], Ans.res [AD.one (D.sl 5 l18)]]) (by kernel_rfl) h

def impl_InputsLeft_X0 (l0 : List (List D)) : St :=
  { env := envOf 23 [(5, PV.al (AL.one (Leaf.sl (Tag.own 20) 5 l0)))], boxes := [] }

theorem impl_InputsLeft_L0_x1 (l3 : List (List D)) (n7 : Int) (n8 : Int) (l9 : List (List D))
    (h : Obs [decide (n8 < (↑l3.length : Int)) = false]) :
    Tr Tryz.prog (loopOf Tryz.f60 0) (impl_InputsLeft_L0 l3 n7 n8 l9) (Ex.exit 0) (impl_InputsLeft_X0 l9) :=
  .of_loopc (ks := [5]) (bs := []) (ans := [Ans.br false]) (by kernel_rfl) h

theorem impl_InputsLeft_p0 (l0 : List (List D)) (n1 : Int) (n2 : Int) (l3 : List (List D)) (l4 : List (List D)) (l5 : List (List D)) (l6 : List (List D)) (n7 : Int) (l8 : List (List D))
    (h : Obs [LoopOk Tryz.prog (loopOf Tryz.f60 0) (impl_InputsLeft_L0 l3 n7 0 []) (Ex.exit 0) (impl_InputsLeft_X0 l8)]) :
    Ret Tryz.prog 60 [AD.agg [D.sl 4 l0, I n1, I n2, D.sl 8 l3, D.sl 6 l4, D.sl 5 l5, D.sl 3 l6], AD.one (I n7)] [AD.one (D.sl 5 l8)] :=
  .of [Ans.loop [(5, 20, 5)] [11, 10, 9, 5, 1] [] (Ex.exit 0) (impl_InputsLeft_X0 l8)] _ Tryz.func60 rfl (by kernel_rfl) h


end Go.Proofs.YtbbjajmimckabaaGreat
