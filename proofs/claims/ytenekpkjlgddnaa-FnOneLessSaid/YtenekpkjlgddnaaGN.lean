import Derived.Test.YtenekpkjlgddnaaRows
import Derived.Test.YtenekpkjlgddnaaR22
import Derived.Test.YtenekpkjlgddnaaR33
set_option linter.unusedVariables false
set_option linter.unusedSimpArgs false
namespace Go.Proofs.Ytenekpkjlgddnaa
open Go.Sx Go.RowKit

/- slices.Index[[]loop.example/g00973/impl.Record,loop.example/g00973/impl.Record] -/

def slices_Index_Record_L0 (l0 : List (List D)) (n1 : Int) (n2 : Int) (n3 : Int) (n4 : Int) (n5 : Int) (n6 : Int) : St :=
  { env := envOf 19 [(0, PV.al (AL.one (Leaf.sl Tag.free 5 l0))), (3, PV.al (AL.one (Leaf.ptr 3 0))), (7, PV.al (AL.one (Leaf.v (Value.int IntKind.i64 (↑l0.length : Int))))), (8, PV.al (AL.one (Leaf.v (Value.int IntKind.i64 n6))))], boxes := [(3, [Leaf.v (Value.int IntKind.i64 n1), Leaf.v (Value.int IntKind.i64 n2), Leaf.v (Value.int IntKind.i64 n3), Leaf.v (Value.int IntKind.i64 n4), Leaf.v (Value.int IntKind.i64 n5)])] }

def slices_Index_Record_X0 (n0 : Int) : St :=
  { env := envOf 19 [(4, PV.al (AL.one (Leaf.v (Value.int IntKind.i64 n0))))], boxes := [] }

theorem slices_Index_Record_L0_x0 (l0 : List (List D)) (n1 : Int) (n2 : Int) (n3 : Int) (n4 : Int) (n5 : Int) (n6 : Int) (n7 : Int) (n8 : Int) (n9 : Int) (n10 : Int) (n11 : Int)
    (h : Obs [decide (n6 < (↑l0.length : Int)) = true, 0 ≤ n6, n6 < (↑l0.length : Int), l0[n6.toNat]? = some [I n7, I n8, I n9, I n10, I n11], (n1 == n7 && (n2 == n8 && n3 == n9 && (n4 == n10 && n5 == n11))) = true]) :
    Tr Try.prog (loopOf Try.f36 0) (slices_Index_Record_L0 l0 n1 n2 n3 n4 n5 n6) Ex.ret (slices_Index_Record_X0 n6) :=
  .of_loopc (ks := [4]) (bs := []) (ans := [Ans.br true, Ans.el [I n7, I n8, I n9, I n10, I n11], Ans.br true]) (by kernel_rfl) h

theorem slices_Index_Record_L0_s1 (l0 : List (List D)) (n1 : Int) (n2 : Int) (n3 : Int) (n4 : Int) (n5 : Int) (n6 : Int) (n7 : Int) (n8 : Int) (n9 : Int) (n10 : Int) (n11 : Int)
    (h : Obs [decide (n6 < (↑l0.length : Int)) = true, 0 ≤ n6, n6 < (↑l0.length : Int), l0[n6.toNat]? = some [I n7, I n8, I n9, I n10, I n11], (n1 == n7 && (n2 == n8 && n3 == n9 && (n4 == n10 && n5 == n11))) = false, inInt IntKind.i64 (n6 + 1)]) :
    Tr Try.prog (loopOf Try.f36 0) (slices_Index_Record_L0 l0 n1 n2 n3 n4 n5 n6) Ex.normal (slices_Index_Record_L0 l0 n1 n2 n3 n4 n5 (n6 + 1)) :=
  .of_loopc (ks := [8, 7, 3, 0]) (bs := [3]) (ans := [Ans.br true, Ans.el [I n7, I n8, I n9, I n10, I n11], Ans.br false]) (by kernel_rfl) h

def slices_Index_Record_X0v2 : St :=
  { env := envOf 19 [], boxes := [] }

theorem slices_Index_Record_L0_x2 (l0 : List (List D)) (n1 : Int) (n2 : Int) (n3 : Int) (n4 : Int) (n5 : Int) (n6 : Int)
    (h : Obs [decide (n6 < (↑l0.length : Int)) = false]) :
    Tr Try.prog (loopOf Try.f36 0) (slices_Index_Record_L0 l0 n1 n2 n3 n4 n5 n6) (Ex.exit 0) slices_Index_Record_X0v2 :=
  .of_loopc (ks := []) (bs := []) (ans := [Ans.br false]) (by kernel_rfl) h

theorem slices_Index_Record_p0 (l0 : List (List D)) (n1 : Int) (n2 : Int) (n3 : Int) (n4 : Int) (n5 : Int) (n6 : Int)
    (h : Obs [LoopOk Try.prog (loopOf Try.f36 0) (slices_Index_Record_L0 l0 n1 n2 n3 n4 n5 0) Ex.ret (slices_Index_Record_X0 n6)]) :
    Ret Try.prog 36 [AD.one (D.sl 5 l0), AD.agg [I n1, I n2, I n3, I n4, I n5]] [AD.one (I n6)] :=
  .of [Ans.loop [] [8, 7, 3, 0] [3] Ex.ret (slices_Index_Record_X0 n6)] _ Try.func36 rfl (by kernel_rfl) h

theorem slices_Index_Record_p1 (l0 : List (List D)) (n1 : Int) (n2 : Int) (n3 : Int) (n4 : Int) (n5 : Int)
    (h : Obs [LoopOk Try.prog (loopOf Try.f36 0) (slices_Index_Record_L0 l0 n1 n2 n3 n4 n5 0) (Ex.exit 0) slices_Index_Record_X0v2]) :
    Ret Try.prog 36 [AD.one (D.sl 5 l0), AD.agg [I n1, I n2, I n3, I n4, I n5]] [AD.one (I (-1))] :=
  .of [Ans.loop [] [8, 7, 3, 0] [3] (Ex.exit 0) slices_Index_Record_X0v2] _ Try.func36 rfl (by kernel_rfl) h

/- loop.example/g00973/impl.WithoutOne -/

theorem impl_WithoutOne_p0 (l0 : List (List D)) (n1 : Int) (n2 : Int) (n3 : Int) (n4 : Int) (n5 : Int) (l6 : List (List D)) (n7 : Int) (l9 : List (List D))
    (h : Obs [Ret Try.prog 35 [AD.one (D.sl 5 l0)] [AD.one (D.sl 5 l6)], Ret Try.prog 36 [AD.one (D.sl 5 l0), AD.agg [I n1, I n2, I n3, I n4, I n5]] [AD.one (I n7)], decide (n7 ≥ 0) = true, inInt IntKind.i64 (n7 + 1), RetG Try.prog 37 [GA.one (GC.gv 5 l6 none), GA.one (GC.ro (I n7)), GA.one (GC.ro (I (n7 + 1)))] [AD.one (D.sl 5 l9)]]) :
    Ret Try.prog 16 [AD.one (D.sl 5 l0), AD.agg [I n1, I n2, I n3, I n4, I n5]] [AD.one (D.sl 5 l9)] :=
  .of [Ans.res [AD.one (D.sl 5 l6)], Ans.res [AD.one (I n7)], Ans.br true, Ans.resG [[some none], [none], [none]] 0 [] [AD.one (D.sl 5 l9)]] _ Try.func16 rfl (by kernel_rfl) h

theorem impl_WithoutOne_p1 (l0 : List (List D)) (n1 : Int) (n2 : Int) (n3 : Int) (n4 : Int) (n5 : Int) (l6 : List (List D)) (n7 : Int)
    (h : Obs [Ret Try.prog 35 [AD.one (D.sl 5 l0)] [AD.one (D.sl 5 l6)], Ret Try.prog 36 [AD.one (D.sl 5 l0), AD.agg [I n1, I n2, I n3, I n4, I n5]] [AD.one (I n7)], decide (n7 ≥ 0) = false]) :
    Ret Try.prog 16 [AD.one (D.sl 5 l0), AD.agg [I n1, I n2, I n3, I n4, I n5]] [AD.one (D.sl 5 l6)] :=
  .of [Ans.res [AD.one (D.sl 5 l6)], Ans.res [AD.one (I n7)], Ans.br false] _ Try.func16 rfl (by kernel_rfl) h

/- loop.example/g00973/impl.copyRecords -/

theorem impl_copyRecords_p0 (l0 : List (List D))
    (h : Obs [(([] : List (List D)).length + l0.length) * 40 ≤ 140737488355328, ([] : List (List D)).length + l0.length ≤ 9223372036854775807, Flat l0]) :
    Ret Try.prog 35 [AD.one (D.sl 5 l0)] [AD.one (D.sl 5 ([] ++ l0))] :=
  .of [] _ Try.func35 rfl (by kernel_rfl) h

/- loop.example/g00973/impl.within -/

/- loop.example/g00973/spec.l01In -/

/- loop.example/g00973/spec.l02Order -/

/- cmp.isNaN[int] -/

theorem cmp_isNaN_int_p0 (n0 : Int)
    (h : Obs []) :
    Ret Try.prog 122 [AD.one (I n0)] [AD.one (B (n0 != n0))] :=
  .of [] _ Try.func122 rfl (by kernel_rfl) h

/- cmp.Compare[int] -/

theorem cmp_Compare_int_p3 (n0 : Int) (n1 : Int) (b2 : Bool) (b3 : Bool)
    (h : Obs [Ret Try.prog 122 [AD.one (I n0)] [AD.one (B b2)], Ret Try.prog 122 [AD.one (I n1)] [AD.one (B b3)], b2 = false, b3 = false, decide (n0 < n1) = true]) :
    Ret Try.prog 118 [AD.one (I n0), AD.one (I n1)] [AD.one (I (-1))] :=
  .of [Ans.res [AD.one (B b2)], Ans.res [AD.one (B b3)], Ans.br false, Ans.br false, Ans.br true] _ Try.func118 rfl (by kernel_rfl) h

theorem cmp_Compare_int_p4 (n0 : Int) (n1 : Int) (b2 : Bool) (b3 : Bool)
    (h : Obs [Ret Try.prog 122 [AD.one (I n0)] [AD.one (B b2)], Ret Try.prog 122 [AD.one (I n1)] [AD.one (B b3)], b2 = false, b3 = false, decide (n0 < n1) = false, decide (n0 > n1) = true]) :
    Ret Try.prog 118 [AD.one (I n0), AD.one (I n1)] [AD.one (I 1)] :=
  .of [Ans.res [AD.one (B b2)], Ans.res [AD.one (B b3)], Ans.br false, Ans.br false, Ans.br false, Ans.br true] _ Try.func118 rfl (by kernel_rfl) h

theorem cmp_Compare_int_p5 (n0 : Int) (n1 : Int) (b2 : Bool) (b3 : Bool)
    (h : Obs [Ret Try.prog 122 [AD.one (I n0)] [AD.one (B b2)], Ret Try.prog 122 [AD.one (I n1)] [AD.one (B b3)], b2 = false, b3 = false, decide (n0 < n1) = false, decide (n0 > n1) = false]) :
    Ret Try.prog 118 [AD.one (I n0), AD.one (I n1)] [AD.one (I 0)] :=
  .of [Ans.res [AD.one (B b2)], Ans.res [AD.one (B b3)], Ans.br false, Ans.br false, Ans.br false, Ans.br false] _ Try.func118 rfl (by kernel_rfl) h

/- slices.Compare[[]int,int] -/

def slices_Compare_int_L0 (l0 : List (List D)) (l1 : List (List D)) (n2 : Int) : St :=
  { env := envOf 36 [(0, PV.al (AL.one (Leaf.sl Tag.free 1 l0))), (1, PV.al (AL.one (Leaf.sl Tag.free 1 l1))), (9, PV.al (AL.one (Leaf.sl Tag.free 1 l0))), (10, PV.al (AL.one (Leaf.v (Value.int IntKind.i64 (↑l0.length : Int))))), (11, PV.al (AL.one (Leaf.v (Value.int IntKind.i64 n2))))], boxes := [] }

def slices_Compare_int_X0 (n0 : Int) : St :=
  { env := envOf 36 [(4, PV.al (AL.one (Leaf.v (Value.int IntKind.i64 n0))))], boxes := [] }

theorem slices_Compare_int_L0_x1 (l0 : List (List D)) (l1 : List (List D)) (n2 : Int) (n3 : Int) (n4 : Int) (n5 : Int)
    (h : Obs [decide (n2 < (↑l0.length : Int)) = true, 0 ≤ n2, n2 < (↑l0.length : Int), l0[n2.toNat]? = some [I n3], decide (n2 ≥ (↑l1.length : Int)) = false, 0 ≤ n2, n2 < (↑l1.length : Int), l1[n2.toNat]? = some [I n4], Ret Try.prog 118 [AD.one (I n3), AD.one (I n4)] [AD.one (I n5)], (n5 != 0) = true]) :
    Tr Try.prog (loopOf Try.f107 0) (slices_Compare_int_L0 l0 l1 n2) Ex.ret (slices_Compare_int_X0 n5) :=
  .of_loopc (ks := [4]) (bs := []) (ans := [Ans.br true, Ans.el [I n3], Ans.br false, Ans.el [I n4], Ans.res [AD.one (I n5)], Ans.br true]) (by kernel_rfl) h

theorem slices_Compare_int_L0_s2 (l0 : List (List D)) (l1 : List (List D)) (n2 : Int) (n3 : Int) (n4 : Int) (n5 : Int)
    (h : Obs [decide (n2 < (↑l0.length : Int)) = true, 0 ≤ n2, n2 < (↑l0.length : Int), l0[n2.toNat]? = some [I n3], decide (n2 ≥ (↑l1.length : Int)) = false, 0 ≤ n2, n2 < (↑l1.length : Int), l1[n2.toNat]? = some [I n4], Ret Try.prog 118 [AD.one (I n3), AD.one (I n4)] [AD.one (I n5)], (n5 != 0) = false, inInt IntKind.i64 (n2 + 1)]) :
    Tr Try.prog (loopOf Try.f107 0) (slices_Compare_int_L0 l0 l1 n2) Ex.normal (slices_Compare_int_L0 l0 l1 (n2 + 1)) :=
  .of_loopc (ks := [11, 10, 9, 1, 0]) (bs := []) (ans := [Ans.br true, Ans.el [I n3], Ans.br false, Ans.el [I n4], Ans.res [AD.one (I n5)], Ans.br false]) (by kernel_rfl) h

def slices_Compare_int_X0v2 (l0 : List (List D)) (l1 : List (List D)) : St :=
  { env := envOf 36 [(0, PV.al (AL.one (Leaf.sl Tag.free 1 l0))), (1, PV.al (AL.one (Leaf.sl Tag.free 1 l1)))], boxes := [] }

theorem slices_Compare_int_L0_x3 (l0 : List (List D)) (l1 : List (List D)) (n2 : Int)
    (h : Obs [decide (n2 < (↑l0.length : Int)) = false]) :
    Tr Try.prog (loopOf Try.f107 0) (slices_Compare_int_L0 l0 l1 n2) (Ex.exit 0) (slices_Compare_int_X0v2 l0 l1) :=
  .of_loopc (ks := [0, 1]) (bs := []) (ans := [Ans.br false]) (by kernel_rfl) h

theorem slices_Compare_int_p0 (l0 : List (List D)) (l1 : List (List D)) (n2 : Int)
    (h : Obs [LoopOk Try.prog (loopOf Try.f107 0) (slices_Compare_int_L0 l0 l1 0) Ex.ret (slices_Compare_int_X0 n2)]) :
    Ret Try.prog 107 [AD.one (D.sl 1 l0), AD.one (D.sl 1 l1)] [AD.one (I n2)] :=
  .of [Ans.loop [] [11, 10, 9, 1, 0] [] Ex.ret (slices_Compare_int_X0 n2)] _ Try.func107 rfl (by kernel_rfl) h

theorem slices_Compare_int_p2 (l0 : List (List D)) (l1 : List (List D))
    (h : Obs [LoopOk Try.prog (loopOf Try.f107 0) (slices_Compare_int_L0 l0 l1 0) (Ex.exit 0) (slices_Compare_int_X0v2 l0 l1), decide ((↑l0.length : Int) < (↑l1.length : Int)) = false]) :
    Ret Try.prog 107 [AD.one (D.sl 1 l0), AD.one (D.sl 1 l1)] [AD.one (I 0)] :=
  .of [Ans.loop [] [11, 10, 9, 1, 0] [] (Ex.exit 0) (slices_Compare_int_X0v2 l0 l1), Ans.br false] _ Try.func107 rfl (by kernel_rfl) h

/- loop.example/g00973/impl.orderOf -/

theorem impl_orderOf_p0 (l0 : List (List D)) (l1 : List (List D)) (n2 : Int)
    (h : Obs [Ret Try.prog 107 [AD.one (D.sl 1 l0), AD.one (D.sl 1 l1)] [AD.one (I n2)]]) :
    Ret Try.prog 85 [AD.one (D.sl 1 l0), AD.one (D.sl 1 l1)] [AD.one (I n2)] :=
  .of [Ans.res [AD.one (I n2)]] _ Try.func85 rfl (by kernel_rfl) h

/- loop.example/g00973/impl.StampOrder -/

theorem impl_StampOrder_p0 (n0 : Int) (n1 : Int) (n2 : Int) (n3 : Int) (n4 : Int)
    (h : Obs [Ret Try.prog 85 [AD.one (D.sl 1 [[I n0], [I n1]]), AD.one (D.sl 1 [[I n2], [I n3]])] [AD.one (I n4)]]) :
    Ret Try.prog 84 [AD.agg [I n0, I n1], AD.agg [I n2, I n3]] [AD.one (I n4)] :=
  .of [Ans.res [AD.one (I n4)]] _ Try.func84 rfl (by kernel_rfl) h

/- loop.example/g00973/impl.RecordOrder -/

theorem impl_RecordOrder_p0 (n0 : Int) (n1 : Int) (n2 : Int) (n3 : Int) (n4 : Int) (n5 : Int) (n6 : Int) (n7 : Int) (n8 : Int) (n9 : Int) (n10 : Int)
    (h : Obs [Ret Try.prog 84 [AD.agg [I n1, I n2], AD.agg [I n6, I n7]] [AD.one (I n10)], (n10 != 0) = true]) :
    Ret Try.prog 62 [AD.agg [I n0, I n1, I n2, I n3, I n4], AD.agg [I n5, I n6, I n7, I n8, I n9]] [AD.one (I n10)] :=
  .of [Ans.res [AD.one (I n10)], Ans.br true] _ Try.func62 rfl (by kernel_rfl) h

theorem impl_RecordOrder_p1 (n0 : Int) (n1 : Int) (n2 : Int) (n3 : Int) (n4 : Int) (n5 : Int) (n6 : Int) (n7 : Int) (n8 : Int) (n9 : Int) (n10 : Int) (n11 : Int)
    (h : Obs [Ret Try.prog 84 [AD.agg [I n1, I n2], AD.agg [I n6, I n7]] [AD.one (I n10)], (n10 != 0) = false, Ret Try.prog 85 [AD.one (D.sl 1 [[I n0], [I n3], [I n4]]), AD.one (D.sl 1 [[I n5], [I n8], [I n9]])] [AD.one (I n11)]]) :
    Ret Try.prog 62 [AD.agg [I n0, I n1, I n2, I n3, I n4], AD.agg [I n5, I n6, I n7, I n8, I n9]] [AD.one (I n11)] :=
  .of [Ans.res [AD.one (I n10)], Ans.br false, Ans.res [AD.one (I n11)]] _ Try.func62 rfl (by kernel_rfl) h

/- loop.example/g00973/impl.SortRecords -/

theorem impl_SortRecords_p0 (l0 : List (List D)) (l1 : List (List D)) (l2 : List (List D))
    (h : Obs [Ret Try.prog 35 [AD.one (D.sl 5 l0)] [AD.one (D.sl 5 l1)], RetG Try.prog 61 [GA.one (GC.gv 5 l1 (some l2)), GA.one (GC.ro (D.cl 62 []))] []]) :
    Ret Try.prog 39 [AD.one (D.sl 5 l0)] [AD.one (D.sl 5 l2)] :=
  .of [Ans.res [AD.one (D.sl 5 l1)], Ans.resG [[some (some l2)], [none]] 0 [] []] _ Try.func39 rfl (by kernel_rfl) h

/- loop.example/g00973/impl.OfEpoch -/

/- slices.IndexFunc[[]loop.example/g00973/impl.Cell,loop.example/g00973/impl.Cell] -/

end Go.Proofs.Ytenekpkjlgddnaa

namespace Go.Proofs.Ytenekpkjlgddnaa
open Go.Sx Go.RowKit

/- loop.example/g00973/impl.copyCells -/

/- loop.example/g00973/impl.HasCell -/

/- loop.example/g00973/impl.CellOrder -/

/- slices.Contains[[]loop.example/g00973/impl.Cell,loop.example/g00973/impl.Cell] -/

/- slices.Index[[]loop.example/g00973/impl.Cell,loop.example/g00973/impl.Cell] -/

/- loop.example/g00973/impl.PutCell -/

/- loop.example/g00973/impl.isNode -/

/- loop.example/g00973/impl.sameSlot -/

/- loop.example/g00973/impl.better$1 -/

/- slices.DeleteFunc[[]loop.example/g00973/impl.Cell,loop.example/g00973/impl.Cell] -/

/- loop.example/g00973/impl.LeastOf -/

/- loop.example/g00973/impl.better -/

/- loop.example/g00973/impl.Recall -/

/- loop.example/g00973/spec.CellOrder -/

/- loop.example/g00973/spec.HasCell -/

/- loop.example/g00973/spec.PutCell -/

/- loop.example/g00973/spec.NodeOf -/

/- loop.example/g00973/spec.LeastOf -/

/- loop.example/g00973/spec.Remembers -/

/- loop.example/g00973/spec.Recall -/

end Go.Proofs.Ytenekpkjlgddnaa
