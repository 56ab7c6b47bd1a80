import Derived.Test.YtbbjajmimckabaaRows
import Derived.Test.YtbbjajmimckabaaR23
set_option linter.unusedVariables false
set_option linter.unusedSimpArgs false
namespace Go.Proofs.Ytbbjajmimckabaa
open Go.Sx Go.RowKit

/- slices.Index[[]loop.example/g00973/impl.Record,loop.example/g00973/impl.Record] -/

def slices_Index_Record_L0 (l0 : List (List D)) (n1 : Int) (n2 : Int) (n3 : Int) (n4 : Int) (n5 : Int) (n6 : Int) : St :=
  { env := envOf 19 [(0, PV.al (AL.one (Leaf.sl Tag.free 5 l0))), (3, PV.al (AL.one (Leaf.ptr 3 0))), (7, PV.al (AL.one (Leaf.v (Value.int IntKind.i64 (↑l0.length : Int))))), (8, PV.al (AL.one (Leaf.v (Value.int IntKind.i64 n6))))], boxes := [(3, [Leaf.v (Value.int IntKind.i64 n1), Leaf.v (Value.int IntKind.i64 n2), Leaf.v (Value.int IntKind.i64 n3), Leaf.v (Value.int IntKind.i64 n4), Leaf.v (Value.int IntKind.i64 n5)])] }

def slices_Index_Record_X0 (n0 : Int) : St :=
  { env := envOf 19 [(4, PV.al (AL.one (Leaf.v (Value.int IntKind.i64 n0))))], boxes := [] }

theorem slices_Index_Record_L0_x0 (l0 : List (List D)) (n1 : Int) (n2 : Int) (n3 : Int) (n4 : Int) (n5 : Int) (n6 : Int) (n7 : Int) (n8 : Int) (n9 : Int) (n10 : Int) (n11 : Int)
    (h : Obs [decide (n6 < (↑l0.length : Int)) = true, 0 ≤ n6, n6 < (↑l0.length : Int), l0[n6.toNat]? = some [I n7, I n8, I n9, I n10, I n11], (n1 == n7 && (n2 == n8 && n3 == n9 && (n4 == n10 && n5 == n11))) = true]) :
    Tr Try.prog (loopOf Try.f51 0) (slices_Index_Record_L0 l0 n1 n2 n3 n4 n5 n6) Ex.ret (slices_Index_Record_X0 n6) :=
  .of_loopc (ks := [4]) (bs := []) (ans := [Ans.br true, Ans.el [I n7, I n8, I n9, I n10, I n11], Ans.br true]) (by kernel_rfl) h

theorem slices_Index_Record_L0_s1 (l0 : List (List D)) (n1 : Int) (n2 : Int) (n3 : Int) (n4 : Int) (n5 : Int) (n6 : Int) (n7 : Int) (n8 : Int) (n9 : Int) (n10 : Int) (n11 : Int)
    (h : Obs [decide (n6 < (↑l0.length : Int)) = true, 0 ≤ n6, n6 < (↑l0.length : Int), l0[n6.toNat]? = some [I n7, I n8, I n9, I n10, I n11], (n1 == n7 && (n2 == n8 && n3 == n9 && (n4 == n10 && n5 == n11))) = false, inInt IntKind.i64 (n6 + 1)]) :
    Tr Try.prog (loopOf Try.f51 0) (slices_Index_Record_L0 l0 n1 n2 n3 n4 n5 n6) Ex.normal (slices_Index_Record_L0 l0 n1 n2 n3 n4 n5 (n6 + 1)) :=
  .of_loopc (ks := [8, 7, 3, 0]) (bs := [3]) (ans := [Ans.br true, Ans.el [I n7, I n8, I n9, I n10, I n11], Ans.br false]) (by kernel_rfl) h

def slices_Index_Record_X0v2 : St :=
  { env := envOf 19 [], boxes := [] }

theorem slices_Index_Record_L0_x2 (l0 : List (List D)) (n1 : Int) (n2 : Int) (n3 : Int) (n4 : Int) (n5 : Int) (n6 : Int)
    (h : Obs [decide (n6 < (↑l0.length : Int)) = false]) :
    Tr Try.prog (loopOf Try.f51 0) (slices_Index_Record_L0 l0 n1 n2 n3 n4 n5 n6) (Ex.exit 0) slices_Index_Record_X0v2 :=
  .of_loopc (ks := []) (bs := []) (ans := [Ans.br false]) (by kernel_rfl) h

theorem slices_Index_Record_p0 (l0 : List (List D)) (n1 : Int) (n2 : Int) (n3 : Int) (n4 : Int) (n5 : Int) (n6 : Int)
    (h : Obs [LoopOk Try.prog (loopOf Try.f51 0) (slices_Index_Record_L0 l0 n1 n2 n3 n4 n5 0) Ex.ret (slices_Index_Record_X0 n6)]) :
    Ret Try.prog 51 [AD.one (D.sl 5 l0), AD.agg [I n1, I n2, I n3, I n4, I n5]] [AD.one (I n6)] :=
  .of [Ans.loop [] [8, 7, 3, 0] [3] Ex.ret (slices_Index_Record_X0 n6)] _ Try.func51 rfl (by kernel_rfl) h

theorem slices_Index_Record_p1 (l0 : List (List D)) (n1 : Int) (n2 : Int) (n3 : Int) (n4 : Int) (n5 : Int)
    (h : Obs [LoopOk Try.prog (loopOf Try.f51 0) (slices_Index_Record_L0 l0 n1 n2 n3 n4 n5 0) (Ex.exit 0) slices_Index_Record_X0v2]) :
    Ret Try.prog 51 [AD.one (D.sl 5 l0), AD.agg [I n1, I n2, I n3, I n4, I n5]] [AD.one (I (-1))] :=
  .of [Ans.loop [] [8, 7, 3, 0] [3] (Ex.exit 0) slices_Index_Record_X0v2] _ Try.func51 rfl (by kernel_rfl) h

/- loop.example/g00973/spec.WithoutOne -/

def spec_WithoutOne_L0 (l0 : List (List D)) (n1 : Int) (n2 : Int) (n3 : Int) (n4 : Int) (n5 : Int) (n6 : Int) : St :=
  { env := envOf 31 [(0, PV.al (AL.one (Leaf.sl Tag.free 5 l0))), (3, PV.al (AL.one (Leaf.ptr 3 0))), (5, PV.al (AL.one (Leaf.v (Value.int IntKind.i64 n6))))], boxes := [(3, [Leaf.v (Value.int IntKind.i64 n1), Leaf.v (Value.int IntKind.i64 n2), Leaf.v (Value.int IntKind.i64 n3), Leaf.v (Value.int IntKind.i64 n4), Leaf.v (Value.int IntKind.i64 n5)])] }

def spec_WithoutOne_X0 (l0 : List (List D)) : St :=
  { env := envOf 31 [(4, PV.al (AL.one (Leaf.sl (Tag.own 18) 5 l0)))], boxes := [] }

theorem spec_WithoutOne_L0_x0 (l0 : List (List D)) (n1 : Int) (n2 : Int) (n3 : Int) (n4 : Int) (n5 : Int) (n6 : Int) (n7 : Int) (n8 : Int) (n9 : Int) (n10 : Int) (n11 : Int)
    (h : Obs [decide (n6 < (↑l0.length : Int)) = true, 0 ≤ n6, n6 < (↑l0.length : Int), l0[n6.toNat]? = some [I n7, I n8, I n9, I n10, I n11], (n7 == n1 && (n8 == n2 && n9 == n3 && (n10 == n4 && n11 == n5))) = true, (0 : Int) ≤ none.getD 0, none.getD 0 ≤ (some n6).getD (↑l0.length : Int), (some n6).getD (↑l0.length : Int) ≤ (↑l0.length : Int), (([] : List (List D)).length + (List.take (((some n6).getD (↑l0.length : Int)).toNat - 0) (List.drop 0 l0)).length) * 40 ≤ 140737488355328, ([] : List (List D)).length + (List.take (((some n6).getD (↑l0.length : Int)).toNat - 0) (List.drop 0 l0)).length ≤ 9223372036854775807, Flat (List.take (((some n6).getD (↑l0.length : Int)).toNat - 0) (List.drop 0 l0)), inInt IntKind.i64 (n6 + 1), 0 ≤ (some (n6 + 1)).getD 0, (some (n6 + 1)).getD 0 ≤ none.getD (↑l0.length : Int), none.getD (↑l0.length : Int) ≤ (↑l0.length : Int), (([] ++ List.take (((some n6).getD (↑l0.length : Int)).toNat - 0) (List.drop 0 l0)).length + (List.take (l0.length - ((some (n6 + 1)).getD 0).toNat) (List.drop ((some (n6 + 1)).getD 0).toNat l0)).length) * 40 ≤ 140737488355328, ([] ++ List.take (((some n6).getD (↑l0.length : Int)).toNat - 0) (List.drop 0 l0)).length + (List.take (l0.length - ((some (n6 + 1)).getD 0).toNat) (List.drop ((some (n6 + 1)).getD 0).toNat l0)).length ≤ 9223372036854775807, Flat (List.take (l0.length - ((some (n6 + 1)).getD 0).toNat) (List.drop ((some (n6 + 1)).getD 0).toNat l0))]) :
    Tr Try.prog (loopOf Try.f12 0) (spec_WithoutOne_L0 l0 n1 n2 n3 n4 n5 n6) Ex.ret (spec_WithoutOne_X0 ([] ++ List.take (((some n6).getD (↑l0.length : Int)).toNat - 0) (List.drop 0 l0) ++ List.take (l0.length - ((some (n6 + 1)).getD 0).toNat) (List.drop ((some (n6 + 1)).getD 0).toNat l0))) :=
  .of_loopc (ks := [4]) (bs := []) (ans := [Ans.br true, Ans.el [I n7, I n8, I n9, I n10, I n11], Ans.br true]) (by kernel_rfl) h

theorem spec_WithoutOne_L0_s1 (l0 : List (List D)) (n1 : Int) (n2 : Int) (n3 : Int) (n4 : Int) (n5 : Int) (n6 : Int) (n7 : Int) (n8 : Int) (n9 : Int) (n10 : Int) (n11 : Int)
    (h : Obs [decide (n6 < (↑l0.length : Int)) = true, 0 ≤ n6, n6 < (↑l0.length : Int), l0[n6.toNat]? = some [I n7, I n8, I n9, I n10, I n11], (n7 == n1 && (n8 == n2 && n9 == n3 && (n10 == n4 && n11 == n5))) = false, inInt IntKind.i64 (n6 + 1)]) :
    Tr Try.prog (loopOf Try.f12 0) (spec_WithoutOne_L0 l0 n1 n2 n3 n4 n5 n6) Ex.normal (spec_WithoutOne_L0 l0 n1 n2 n3 n4 n5 (n6 + 1)) :=
  .of_loopc (ks := [5, 0, 3]) (bs := [3]) (ans := [Ans.br true, Ans.el [I n7, I n8, I n9, I n10, I n11], Ans.br false]) (by kernel_rfl) h

def spec_WithoutOne_X0v2 (l0 : List (List D)) : St :=
  { env := envOf 31 [(0, PV.al (AL.one (Leaf.sl Tag.free 5 l0)))], boxes := [] }

theorem spec_WithoutOne_L0_x2 (l0 : List (List D)) (n1 : Int) (n2 : Int) (n3 : Int) (n4 : Int) (n5 : Int) (n6 : Int)
    (h : Obs [decide (n6 < (↑l0.length : Int)) = false]) :
    Tr Try.prog (loopOf Try.f12 0) (spec_WithoutOne_L0 l0 n1 n2 n3 n4 n5 n6) (Ex.exit 0) (spec_WithoutOne_X0v2 l0) :=
  .of_loopc (ks := [0]) (bs := []) (ans := [Ans.br false]) (by kernel_rfl) h

theorem spec_WithoutOne_p0 (l0 : List (List D)) (n1 : Int) (n2 : Int) (n3 : Int) (n4 : Int) (n5 : Int) (l6 : List (List D))
    (h : Obs [LoopOk Try.prog (loopOf Try.f12 0) (spec_WithoutOne_L0 l0 n1 n2 n3 n4 n5 0) Ex.ret (spec_WithoutOne_X0 l6)]) :
    Ret Try.prog 12 [AD.one (D.sl 5 l0), AD.agg [I n1, I n2, I n3, I n4, I n5]] [AD.one (D.sl 5 l6)] :=
  .of [Ans.loop [] [5, 0, 3] [3] Ex.ret (spec_WithoutOne_X0 l6)] _ Try.func12 rfl (by kernel_rfl) h

theorem spec_WithoutOne_p1 (l0 : List (List D)) (n1 : Int) (n2 : Int) (n3 : Int) (n4 : Int) (n5 : Int)
    (h : Obs [LoopOk Try.prog (loopOf Try.f12 0) (spec_WithoutOne_L0 l0 n1 n2 n3 n4 n5 0) (Ex.exit 0) (spec_WithoutOne_X0v2 l0), (([] : List (List D)).length + l0.length) * 40 ≤ 140737488355328, ([] : List (List D)).length + l0.length ≤ 9223372036854775807, Flat l0]) :
    Ret Try.prog 12 [AD.one (D.sl 5 l0), AD.agg [I n1, I n2, I n3, I n4, I n5]] [AD.one (D.sl 5 ([] ++ l0))] :=
  .of [Ans.loop [] [5, 0, 3] [3] (Ex.exit 0) (spec_WithoutOne_X0v2 l0)] _ Try.func12 rfl (by kernel_rfl) h

/- loop.example/g00973/impl.WithoutOne -/

theorem impl_WithoutOne_p0 (l0 : List (List D)) (n1 : Int) (n2 : Int) (n3 : Int) (n4 : Int) (n5 : Int) (l6 : List (List D)) (n7 : Int) (l9 : List (List D))
    (h : Obs [Ret Try.prog 50 [AD.one (D.sl 5 l0)] [AD.one (D.sl 5 l6)], Ret Try.prog 51 [AD.one (D.sl 5 l0), AD.agg [I n1, I n2, I n3, I n4, I n5]] [AD.one (I n7)], decide (n7 ≥ 0) = true, inInt IntKind.i64 (n7 + 1), RetG Try.prog 52 [GA.one (GC.gv 5 l6 none), GA.one (GC.ro (I n7)), GA.one (GC.ro (I (n7 + 1)))] [AD.one (D.sl 5 l9)]]) :
    Ret Try.prog 15 [AD.one (D.sl 5 l0), AD.agg [I n1, I n2, I n3, I n4, I n5]] [AD.one (D.sl 5 l9)] :=
  .of [Ans.res [AD.one (D.sl 5 l6)], Ans.res [AD.one (I n7)], Ans.br true, Ans.resG [[some none], [none], [none]] 0 [] [AD.one (D.sl 5 l9)]] _ Try.func15 rfl (by kernel_rfl) h

theorem impl_WithoutOne_p1 (l0 : List (List D)) (n1 : Int) (n2 : Int) (n3 : Int) (n4 : Int) (n5 : Int) (l6 : List (List D)) (n7 : Int)
    (h : Obs [Ret Try.prog 50 [AD.one (D.sl 5 l0)] [AD.one (D.sl 5 l6)], Ret Try.prog 51 [AD.one (D.sl 5 l0), AD.agg [I n1, I n2, I n3, I n4, I n5]] [AD.one (I n7)], decide (n7 ≥ 0) = false]) :
    Ret Try.prog 15 [AD.one (D.sl 5 l0), AD.agg [I n1, I n2, I n3, I n4, I n5]] [AD.one (D.sl 5 l6)] :=
  .of [Ans.res [AD.one (D.sl 5 l6)], Ans.res [AD.one (I n7)], Ans.br false] _ Try.func15 rfl (by kernel_rfl) h

/- loop.example/g00973/impl.copyRecords -/

theorem impl_copyRecords_p0 (l0 : List (List D))
    (h : Obs [(([] : List (List D)).length + l0.length) * 40 ≤ 140737488355328, ([] : List (List D)).length + l0.length ≤ 9223372036854775807, Flat l0]) :
    Ret Try.prog 50 [AD.one (D.sl 5 l0)] [AD.one (D.sl 5 ([] ++ l0))] :=
  .of [] _ Try.func50 rfl (by kernel_rfl) h

/- loop.example/g00973/spec.Consumed -/

theorem spec_Consumed_p0 (l0 : List (List D)) (n1 : Int) (n2 : Int) (l3 : List (List D)) (l4 : List (List D)) (l5 : List (List D)) (l6 : List (List D)) (n7 : Int) (n8 : Int) (n9 : Int) (b10 : Bool)
    (h : Obs [inInt IntKind.i64 ((↑l3.length : Int) - 1), Ret Try.prog 57 [AD.one (I n8), AD.one (I 0), AD.one (I ((↑l3.length : Int) - 1))] [AD.one (B b10)], (!b10) = true]) :
    Ret Try.prog 20 [AD.agg [D.sl 4 l0, I n1, I n2, D.sl 8 l3, D.sl 6 l4, D.sl 5 l5, D.sl 3 l6], AD.agg [I n7, I n8, I n9]] [AD.agg [I 0, I 0, I 0, I 0, I 0], AD.one (B false)] :=
  .of [Ans.res [AD.one (B b10)], Ans.br true] _ Try.func20 rfl (by kernel_rfl) h

theorem spec_Consumed_p1 (l0 : List (List D)) (n1 : Int) (n2 : Int) (l3 : List (List D)) (l4 : List (List D)) (l5 : List (List D)) (l6 : List (List D)) (n7 : Int) (n8 : Int) (n9 : Int) (b10 : Bool) (l11 : List (List D)) (l12 : List (List D)) (l13 : List (List D)) (l14 : List (List D)) (l15 : List (List D)) (l16 : List (List D)) (l17 : List (List D)) (l18 : List (List D)) (n19 : Int) (n20 : Int) (n21 : Int) (n22 : Int) (n23 : Int)
    (h : Obs [inInt IntKind.i64 ((↑l3.length : Int) - 1), Ret Try.prog 57 [AD.one (I n8), AD.one (I 0), AD.one (I ((↑l3.length : Int) - 1))] [AD.one (B b10)], (!b10) = false, 0 ≤ n8, n8 < (↑l3.length : Int), l3[n8.toNat]? = some [D.sl 5 l11, D.sl 5 l12, D.sl 5 l13, D.sl 4 l14, D.sl 1 l15, D.sl 1 l16, D.sl 1 l17, D.sl 2 l18], (n7 == 2) = true, decide ((↑l13.length : Int) > 0) = true, (0 : Int) ≤ 0, 0 < (↑l13.length : Int), l13[0]? = some [I n19, I n20, I n21, I n22, I n23]]) :
    Ret Try.prog 20 [AD.agg [D.sl 4 l0, I n1, I n2, D.sl 8 l3, D.sl 6 l4, D.sl 5 l5, D.sl 3 l6], AD.agg [I n7, I n8, I n9]] [AD.agg [I n19, I n20, I n21, I n22, I n23], AD.one (B true)] :=
  .of [Ans.res [AD.one (B b10)], Ans.br false, Ans.el [D.sl 5 l11, D.sl 5 l12, D.sl 5 l13, D.sl 4 l14, D.sl 1 l15, D.sl 1 l16, D.sl 1 l17, D.sl 2 l18], Ans.br true, Ans.br true, Ans.el [I n19, I n20, I n21, I n22, I n23]] _ Try.func20 rfl (by kernel_rfl) h

theorem spec_Consumed_p2 (l0 : List (List D)) (n1 : Int) (n2 : Int) (l3 : List (List D)) (l4 : List (List D)) (l5 : List (List D)) (l6 : List (List D)) (n7 : Int) (n8 : Int) (n9 : Int) (b10 : Bool) (l11 : List (List D)) (l12 : List (List D)) (l13 : List (List D)) (l14 : List (List D)) (l15 : List (List D)) (l16 : List (List D)) (l17 : List (List D)) (l18 : List (List D)) (n19 : Int) (n20 : Int) (n21 : Int) (n22 : Int) (n23 : Int)
    (h : Obs [inInt IntKind.i64 ((↑l3.length : Int) - 1), Ret Try.prog 57 [AD.one (I n8), AD.one (I 0), AD.one (I ((↑l3.length : Int) - 1))] [AD.one (B b10)], (!b10) = false, 0 ≤ n8, n8 < (↑l3.length : Int), l3[n8.toNat]? = some [D.sl 5 l11, D.sl 5 l12, D.sl 5 l13, D.sl 4 l14, D.sl 1 l15, D.sl 1 l16, D.sl 1 l17, D.sl 2 l18], (n7 == 2) = true, decide ((↑l13.length : Int) > 0) = false, (n7 == 1) = true, decide ((↑l11.length : Int) > 0) = true, (0 : Int) ≤ 0, 0 < (↑l11.length : Int), l11[0]? = some [I n19, I n20, I n21, I n22, I n23]]) :
    Ret Try.prog 20 [AD.agg [D.sl 4 l0, I n1, I n2, D.sl 8 l3, D.sl 6 l4, D.sl 5 l5, D.sl 3 l6], AD.agg [I n7, I n8, I n9]] [AD.agg [I n19, I n20, I n21, I n22, I n23], AD.one (B true)] :=
  .of [Ans.res [AD.one (B b10)], Ans.br false, Ans.el [D.sl 5 l11, D.sl 5 l12, D.sl 5 l13, D.sl 4 l14, D.sl 1 l15, D.sl 1 l16, D.sl 1 l17, D.sl 2 l18], Ans.br true, Ans.br false, Ans.br true, Ans.br true, Ans.el [I n19, I n20, I n21, I n22, I n23]] _ Try.func20 rfl (by kernel_rfl) h

theorem spec_Consumed_p3 (l0 : List (List D)) (n1 : Int) (n2 : Int) (l3 : List (List D)) (l4 : List (List D)) (l5 : List (List D)) (l6 : List (List D)) (n7 : Int) (n8 : Int) (n9 : Int) (b10 : Bool) (l11 : List (List D)) (l12 : List (List D)) (l13 : List (List D)) (l14 : List (List D)) (l15 : List (List D)) (l16 : List (List D)) (l17 : List (List D)) (l18 : List (List D))
    (h : Obs [inInt IntKind.i64 ((↑l3.length : Int) - 1), Ret Try.prog 57 [AD.one (I n8), AD.one (I 0), AD.one (I ((↑l3.length : Int) - 1))] [AD.one (B b10)], (!b10) = false, 0 ≤ n8, n8 < (↑l3.length : Int), l3[n8.toNat]? = some [D.sl 5 l11, D.sl 5 l12, D.sl 5 l13, D.sl 4 l14, D.sl 1 l15, D.sl 1 l16, D.sl 1 l17, D.sl 2 l18], (n7 == 2) = true, decide ((↑l13.length : Int) > 0) = false, (n7 == 1) = true, decide ((↑l11.length : Int) > 0) = false]) :
    Ret Try.prog 20 [AD.agg [D.sl 4 l0, I n1, I n2, D.sl 8 l3, D.sl 6 l4, D.sl 5 l5, D.sl 3 l6], AD.agg [I n7, I n8, I n9]] [AD.agg [I 0, I 0, I 0, I 0, I 0], AD.one (B false)] :=
  .of [Ans.res [AD.one (B b10)], Ans.br false, Ans.el [D.sl 5 l11, D.sl 5 l12, D.sl 5 l13, D.sl 4 l14, D.sl 1 l15, D.sl 1 l16, D.sl 1 l17, D.sl 2 l18], Ans.br true, Ans.br false, Ans.br true, Ans.br false] _ Try.func20 rfl (by kernel_rfl) h

theorem spec_Consumed_p4 (l0 : List (List D)) (n1 : Int) (n2 : Int) (l3 : List (List D)) (l4 : List (List D)) (l5 : List (List D)) (l6 : List (List D)) (n7 : Int) (n8 : Int) (n9 : Int) (b10 : Bool) (l11 : List (List D)) (l12 : List (List D)) (l13 : List (List D)) (l14 : List (List D)) (l15 : List (List D)) (l16 : List (List D)) (l17 : List (List D)) (l18 : List (List D))
    (h : Obs [inInt IntKind.i64 ((↑l3.length : Int) - 1), Ret Try.prog 57 [AD.one (I n8), AD.one (I 0), AD.one (I ((↑l3.length : Int) - 1))] [AD.one (B b10)], (!b10) = false, 0 ≤ n8, n8 < (↑l3.length : Int), l3[n8.toNat]? = some [D.sl 5 l11, D.sl 5 l12, D.sl 5 l13, D.sl 4 l14, D.sl 1 l15, D.sl 1 l16, D.sl 1 l17, D.sl 2 l18], (n7 == 2) = true, decide ((↑l13.length : Int) > 0) = false, (n7 == 1) = false]) :
    Ret Try.prog 20 [AD.agg [D.sl 4 l0, I n1, I n2, D.sl 8 l3, D.sl 6 l4, D.sl 5 l5, D.sl 3 l6], AD.agg [I n7, I n8, I n9]] [AD.agg [I 0, I 0, I 0, I 0, I 0], AD.one (B false)] :=
  .of [Ans.res [AD.one (B b10)], Ans.br false, Ans.el [D.sl 5 l11, D.sl 5 l12, D.sl 5 l13, D.sl 4 l14, D.sl 1 l15, D.sl 1 l16, D.sl 1 l17, D.sl 2 l18], Ans.br true, Ans.br false, Ans.br false] _ Try.func20 rfl (by kernel_rfl) h

theorem spec_Consumed_p5 (l0 : List (List D)) (n1 : Int) (n2 : Int) (l3 : List (List D)) (l4 : List (List D)) (l5 : List (List D)) (l6 : List (List D)) (n7 : Int) (n8 : Int) (n9 : Int) (b10 : Bool) (l11 : List (List D)) (l12 : List (List D)) (l13 : List (List D)) (l14 : List (List D)) (l15 : List (List D)) (l16 : List (List D)) (l17 : List (List D)) (l18 : List (List D)) (n19 : Int) (n20 : Int) (n21 : Int) (n22 : Int) (n23 : Int)
    (h : Obs [inInt IntKind.i64 ((↑l3.length : Int) - 1), Ret Try.prog 57 [AD.one (I n8), AD.one (I 0), AD.one (I ((↑l3.length : Int) - 1))] [AD.one (B b10)], (!b10) = false, 0 ≤ n8, n8 < (↑l3.length : Int), l3[n8.toNat]? = some [D.sl 5 l11, D.sl 5 l12, D.sl 5 l13, D.sl 4 l14, D.sl 1 l15, D.sl 1 l16, D.sl 1 l17, D.sl 2 l18], (n7 == 2) = false, (n7 == 1) = true, decide ((↑l11.length : Int) > 0) = true, (0 : Int) ≤ 0, 0 < (↑l11.length : Int), l11[0]? = some [I n19, I n20, I n21, I n22, I n23]]) :
    Ret Try.prog 20 [AD.agg [D.sl 4 l0, I n1, I n2, D.sl 8 l3, D.sl 6 l4, D.sl 5 l5, D.sl 3 l6], AD.agg [I n7, I n8, I n9]] [AD.agg [I n19, I n20, I n21, I n22, I n23], AD.one (B true)] :=
  .of [Ans.res [AD.one (B b10)], Ans.br false, Ans.el [D.sl 5 l11, D.sl 5 l12, D.sl 5 l13, D.sl 4 l14, D.sl 1 l15, D.sl 1 l16, D.sl 1 l17, D.sl 2 l18], Ans.br false, Ans.br true, Ans.br true, Ans.el [I n19, I n20, I n21, I n22, I n23]] _ Try.func20 rfl (by kernel_rfl) h

theorem spec_Consumed_p6 (l0 : List (List D)) (n1 : Int) (n2 : Int) (l3 : List (List D)) (l4 : List (List D)) (l5 : List (List D)) (l6 : List (List D)) (n7 : Int) (n8 : Int) (n9 : Int) (b10 : Bool) (l11 : List (List D)) (l12 : List (List D)) (l13 : List (List D)) (l14 : List (List D)) (l15 : List (List D)) (l16 : List (List D)) (l17 : List (List D)) (l18 : List (List D))
    (h : Obs [inInt IntKind.i64 ((↑l3.length : Int) - 1), Ret Try.prog 57 [AD.one (I n8), AD.one (I 0), AD.one (I ((↑l3.length : Int) - 1))] [AD.one (B b10)], (!b10) = false, 0 ≤ n8, n8 < (↑l3.length : Int), l3[n8.toNat]? = some [D.sl 5 l11, D.sl 5 l12, D.sl 5 l13, D.sl 4 l14, D.sl 1 l15, D.sl 1 l16, D.sl 1 l17, D.sl 2 l18], (n7 == 2) = false, (n7 == 1) = true, decide ((↑l11.length : Int) > 0) = false]) :
    Ret Try.prog 20 [AD.agg [D.sl 4 l0, I n1, I n2, D.sl 8 l3, D.sl 6 l4, D.sl 5 l5, D.sl 3 l6], AD.agg [I n7, I n8, I n9]] [AD.agg [I 0, I 0, I 0, I 0, I 0], AD.one (B false)] :=
  .of [Ans.res [AD.one (B b10)], Ans.br false, Ans.el [D.sl 5 l11, D.sl 5 l12, D.sl 5 l13, D.sl 4 l14, D.sl 1 l15, D.sl 1 l16, D.sl 1 l17, D.sl 2 l18], Ans.br false, Ans.br true, Ans.br false] _ Try.func20 rfl (by kernel_rfl) h

theorem spec_Consumed_p7 (l0 : List (List D)) (n1 : Int) (n2 : Int) (l3 : List (List D)) (l4 : List (List D)) (l5 : List (List D)) (l6 : List (List D)) (n7 : Int) (n8 : Int) (n9 : Int) (b10 : Bool) (l11 : List (List D)) (l12 : List (List D)) (l13 : List (List D)) (l14 : List (List D)) (l15 : List (List D)) (l16 : List (List D)) (l17 : List (List D)) (l18 : List (List D))
    (h : Obs [inInt IntKind.i64 ((↑l3.length : Int) - 1), Ret Try.prog 57 [AD.one (I n8), AD.one (I 0), AD.one (I ((↑l3.length : Int) - 1))] [AD.one (B b10)], (!b10) = false, 0 ≤ n8, n8 < (↑l3.length : Int), l3[n8.toNat]? = some [D.sl 5 l11, D.sl 5 l12, D.sl 5 l13, D.sl 4 l14, D.sl 1 l15, D.sl 1 l16, D.sl 1 l17, D.sl 2 l18], (n7 == 2) = false, (n7 == 1) = false]) :
    Ret Try.prog 20 [AD.agg [D.sl 4 l0, I n1, I n2, D.sl 8 l3, D.sl 6 l4, D.sl 5 l5, D.sl 3 l6], AD.agg [I n7, I n8, I n9]] [AD.agg [I 0, I 0, I 0, I 0, I 0], AD.one (B false)] :=
  .of [Ans.res [AD.one (B b10)], Ans.br false, Ans.el [D.sl 5 l11, D.sl 5 l12, D.sl 5 l13, D.sl 4 l14, D.sl 1 l15, D.sl 1 l16, D.sl 1 l17, D.sl 2 l18], Ans.br false, Ans.br false] _ Try.func20 rfl (by kernel_rfl) h

/- loop.example/g00973/impl.Consumed -/

theorem impl_Consumed_p0 (l0 : List (List D)) (n1 : Int) (n2 : Int) (l3 : List (List D)) (l4 : List (List D)) (l5 : List (List D)) (l6 : List (List D)) (n7 : Int) (n8 : Int) (n9 : Int) (b10 : Bool)
    (h : Obs [inInt IntKind.i64 ((↑l3.length : Int) - 1), Ret Try.prog 62 [AD.one (I n8), AD.one (I 0), AD.one (I ((↑l3.length : Int) - 1))] [AD.one (B b10)], (!b10) = true]) :
    Ret Try.prog 23 [AD.agg [D.sl 4 l0, I n1, I n2, D.sl 8 l3, D.sl 6 l4, D.sl 5 l5, D.sl 3 l6], AD.agg [I n7, I n8, I n9]] [AD.agg [I 0, I 0, I 0, I 0, I 0], AD.one (B false)] :=
  .of [Ans.res [AD.one (B b10)], Ans.br true] _ Try.func23 rfl (by kernel_rfl) h

theorem impl_Consumed_p1 (l0 : List (List D)) (n1 : Int) (n2 : Int) (l3 : List (List D)) (l4 : List (List D)) (l5 : List (List D)) (l6 : List (List D)) (n7 : Int) (n8 : Int) (n9 : Int) (b10 : Bool) (l11 : List (List D)) (l12 : List (List D)) (l13 : List (List D)) (l14 : List (List D)) (l15 : List (List D)) (l16 : List (List D)) (l17 : List (List D)) (l18 : List (List D))
    (h : Obs [inInt IntKind.i64 ((↑l3.length : Int) - 1), Ret Try.prog 62 [AD.one (I n8), AD.one (I 0), AD.one (I ((↑l3.length : Int) - 1))] [AD.one (B b10)], (!b10) = false, (n7 == 2) = true, 0 ≤ n8, n8 < (↑l3.length : Int), l3[n8.toNat]? = some [D.sl 5 l11, D.sl 5 l12, D.sl 5 l13, D.sl 4 l14, D.sl 1 l15, D.sl 1 l16, D.sl 1 l17, D.sl 2 l18], ((↑l13.length : Int) == 0) = true]) :
    Ret Try.prog 23 [AD.agg [D.sl 4 l0, I n1, I n2, D.sl 8 l3, D.sl 6 l4, D.sl 5 l5, D.sl 3 l6], AD.agg [I n7, I n8, I n9]] [AD.agg [I 0, I 0, I 0, I 0, I 0], AD.one (B false)] :=
  .of [Ans.res [AD.one (B b10)], Ans.br false, Ans.br true, Ans.el [D.sl 5 l11, D.sl 5 l12, D.sl 5 l13, D.sl 4 l14, D.sl 1 l15, D.sl 1 l16, D.sl 1 l17, D.sl 2 l18], Ans.br true] _ Try.func23 rfl (by kernel_rfl) h

theorem impl_Consumed_p2 (l0 : List (List D)) (n1 : Int) (n2 : Int) (l3 : List (List D)) (l4 : List (List D)) (l5 : List (List D)) (l6 : List (List D)) (n7 : Int) (n8 : Int) (n9 : Int) (b10 : Bool) (l11 : List (List D)) (l12 : List (List D)) (l13 : List (List D)) (l14 : List (List D)) (l15 : List (List D)) (l16 : List (List D)) (l17 : List (List D)) (l18 : List (List D)) (n19 : Int) (n20 : Int) (n21 : Int) (n22 : Int) (n23 : Int)
    (h : Obs [inInt IntKind.i64 ((↑l3.length : Int) - 1), Ret Try.prog 62 [AD.one (I n8), AD.one (I 0), AD.one (I ((↑l3.length : Int) - 1))] [AD.one (B b10)], (!b10) = false, (n7 == 2) = true, 0 ≤ n8, n8 < (↑l3.length : Int), l3[n8.toNat]? = some [D.sl 5 l11, D.sl 5 l12, D.sl 5 l13, D.sl 4 l14, D.sl 1 l15, D.sl 1 l16, D.sl 1 l17, D.sl 2 l18], ((↑l13.length : Int) == 0) = false, (0 : Int) ≤ 0, 0 < (↑l13.length : Int), l13[0]? = some [I n19, I n20, I n21, I n22, I n23]]) :
    Ret Try.prog 23 [AD.agg [D.sl 4 l0, I n1, I n2, D.sl 8 l3, D.sl 6 l4, D.sl 5 l5, D.sl 3 l6], AD.agg [I n7, I n8, I n9]] [AD.agg [I n19, I n20, I n21, I n22, I n23], AD.one (B true)] :=
  .of [Ans.res [AD.one (B b10)], Ans.br false, Ans.br true, Ans.el [D.sl 5 l11, D.sl 5 l12, D.sl 5 l13, D.sl 4 l14, D.sl 1 l15, D.sl 1 l16, D.sl 1 l17, D.sl 2 l18], Ans.br false, Ans.el [I n19, I n20, I n21, I n22, I n23]] _ Try.func23 rfl (by kernel_rfl) h

theorem impl_Consumed_p3 (l0 : List (List D)) (n1 : Int) (n2 : Int) (l3 : List (List D)) (l4 : List (List D)) (l5 : List (List D)) (l6 : List (List D)) (n7 : Int) (n8 : Int) (n9 : Int) (b10 : Bool) (l11 : List (List D)) (l12 : List (List D)) (l13 : List (List D)) (l14 : List (List D)) (l15 : List (List D)) (l16 : List (List D)) (l17 : List (List D)) (l18 : List (List D))
    (h : Obs [inInt IntKind.i64 ((↑l3.length : Int) - 1), Ret Try.prog 62 [AD.one (I n8), AD.one (I 0), AD.one (I ((↑l3.length : Int) - 1))] [AD.one (B b10)], (!b10) = false, (n7 == 2) = false, (n7 == 1) = true, 0 ≤ n8, n8 < (↑l3.length : Int), l3[n8.toNat]? = some [D.sl 5 l11, D.sl 5 l12, D.sl 5 l13, D.sl 4 l14, D.sl 1 l15, D.sl 1 l16, D.sl 1 l17, D.sl 2 l18], ((↑l11.length : Int) == 0) = true]) :
    Ret Try.prog 23 [AD.agg [D.sl 4 l0, I n1, I n2, D.sl 8 l3, D.sl 6 l4, D.sl 5 l5, D.sl 3 l6], AD.agg [I n7, I n8, I n9]] [AD.agg [I 0, I 0, I 0, I 0, I 0], AD.one (B false)] :=
  .of [Ans.res [AD.one (B b10)], Ans.br false, Ans.br false, Ans.br true, Ans.el [D.sl 5 l11, D.sl 5 l12, D.sl 5 l13, D.sl 4 l14, D.sl 1 l15, D.sl 1 l16, D.sl 1 l17, D.sl 2 l18], Ans.br true] _ Try.func23 rfl (by kernel_rfl) h

theorem impl_Consumed_p4 (l0 : List (List D)) (n1 : Int) (n2 : Int) (l3 : List (List D)) (l4 : List (List D)) (l5 : List (List D)) (l6 : List (List D)) (n7 : Int) (n8 : Int) (n9 : Int) (b10 : Bool) (l11 : List (List D)) (l12 : List (List D)) (l13 : List (List D)) (l14 : List (List D)) (l15 : List (List D)) (l16 : List (List D)) (l17 : List (List D)) (l18 : List (List D)) (n19 : Int) (n20 : Int) (n21 : Int) (n22 : Int) (n23 : Int)
    (h : Obs [inInt IntKind.i64 ((↑l3.length : Int) - 1), Ret Try.prog 62 [AD.one (I n8), AD.one (I 0), AD.one (I ((↑l3.length : Int) - 1))] [AD.one (B b10)], (!b10) = false, (n7 == 2) = false, (n7 == 1) = true, 0 ≤ n8, n8 < (↑l3.length : Int), l3[n8.toNat]? = some [D.sl 5 l11, D.sl 5 l12, D.sl 5 l13, D.sl 4 l14, D.sl 1 l15, D.sl 1 l16, D.sl 1 l17, D.sl 2 l18], ((↑l11.length : Int) == 0) = false, (0 : Int) ≤ 0, 0 < (↑l11.length : Int), l11[0]? = some [I n19, I n20, I n21, I n22, I n23]]) :
    Ret Try.prog 23 [AD.agg [D.sl 4 l0, I n1, I n2, D.sl 8 l3, D.sl 6 l4, D.sl 5 l5, D.sl 3 l6], AD.agg [I n7, I n8, I n9]] [AD.agg [I n19, I n20, I n21, I n22, I n23], AD.one (B true)] :=
  .of [Ans.res [AD.one (B b10)], Ans.br false, Ans.br false, Ans.br true, Ans.el [D.sl 5 l11, D.sl 5 l12, D.sl 5 l13, D.sl 4 l14, D.sl 1 l15, D.sl 1 l16, D.sl 1 l17, D.sl 2 l18], Ans.br false, Ans.el [I n19, I n20, I n21, I n22, I n23]] _ Try.func23 rfl (by kernel_rfl) h

theorem impl_Consumed_p5 (l0 : List (List D)) (n1 : Int) (n2 : Int) (l3 : List (List D)) (l4 : List (List D)) (l5 : List (List D)) (l6 : List (List D)) (n7 : Int) (n8 : Int) (n9 : Int) (b10 : Bool)
    (h : Obs [inInt IntKind.i64 ((↑l3.length : Int) - 1), Ret Try.prog 62 [AD.one (I n8), AD.one (I 0), AD.one (I ((↑l3.length : Int) - 1))] [AD.one (B b10)], (!b10) = false, (n7 == 2) = false, (n7 == 1) = false, true = true]) :
    Ret Try.prog 23 [AD.agg [D.sl 4 l0, I n1, I n2, D.sl 8 l3, D.sl 6 l4, D.sl 5 l5, D.sl 3 l6], AD.agg [I n7, I n8, I n9]] [AD.agg [I 0, I 0, I 0, I 0, I 0], AD.one (B false)] :=
  .of [Ans.res [AD.one (B b10)], Ans.br false, Ans.br false, Ans.br false, Ans.br true] _ Try.func23 rfl (by kernel_rfl) h

/- loop.example/g00973/spec.Brought -/

theorem spec_Brought_p0 (n0 : Int) (n1 : Int) (n2 : Int)
    (h : Obs [decide (n2 < n1) = true]) :
    Ret Try.prog 68 [AD.one (I n0), AD.one (I n1), AD.one (I n2)] [AD.one (I n1)] :=
  .of [Ans.br true] _ Try.func68 rfl (by kernel_rfl) h

theorem spec_Brought_p1 (n0 : Int) (n1 : Int) (n2 : Int)
    (h : Obs [decide (n2 < n1) = false, decide (n0 < n1) = true]) :
    Ret Try.prog 68 [AD.one (I n0), AD.one (I n1), AD.one (I n2)] [AD.one (I n1)] :=
  .of [Ans.br false, Ans.br true] _ Try.func68 rfl (by kernel_rfl) h

theorem spec_Brought_p2 (n0 : Int) (n1 : Int) (n2 : Int)
    (h : Obs [decide (n2 < n1) = false, decide (n0 < n1) = false, decide (n0 > n2) = true]) :
    Ret Try.prog 68 [AD.one (I n0), AD.one (I n1), AD.one (I n2)] [AD.one (I n2)] :=
  .of [Ans.br false, Ans.br false, Ans.br true] _ Try.func68 rfl (by kernel_rfl) h

theorem spec_Brought_p3 (n0 : Int) (n1 : Int) (n2 : Int)
    (h : Obs [decide (n2 < n1) = false, decide (n0 < n1) = false, decide (n0 > n2) = false]) :
    Ret Try.prog 68 [AD.one (I n0), AD.one (I n1), AD.one (I n2)] [AD.one (I n0)] :=
  .of [Ans.br false, Ans.br false, Ans.br false] _ Try.func68 rfl (by kernel_rfl) h

/- loop.example/g00973/impl.Brought -/

theorem impl_Brought_p0 (n0 : Int) (n1 : Int) (n2 : Int)
    (h : Obs [decide (n2 < n1) = true]) :
    Ret Try.prog 69 [AD.one (I n0), AD.one (I n1), AD.one (I n2)] [AD.one (I n1)] :=
  .of [Ans.br true] _ Try.func69 rfl (by kernel_rfl) h

theorem impl_Brought_p1 (n0 : Int) (n1 : Int) (n2 : Int)
    (h : Obs [decide (n2 < n1) = false, decide (n0 < n1) = true]) :
    Ret Try.prog 69 [AD.one (I n0), AD.one (I n1), AD.one (I n2)] [AD.one (I n1)] :=
  .of [Ans.br false, Ans.br true] _ Try.func69 rfl (by kernel_rfl) h

theorem impl_Brought_p2 (n0 : Int) (n1 : Int) (n2 : Int)
    (h : Obs [decide (n2 < n1) = false, decide (n0 < n1) = false]) :
    Ret Try.prog 69 [AD.one (I n0), AD.one (I n1), AD.one (I n2)] [AD.one (I (if n2 < n0 then n2 else n0))] :=
  .of [Ans.br false, Ans.br false] _ Try.func69 rfl (by kernel_rfl) h

/- loop.example/g00973/spec.AllPicks -/

def spec_AllPicks_L0 (n0 : Int) (n1 : Int) (l2 : List (List D)) : St :=
  { env := envOf 62 [(3, PV.al (AL.one (Leaf.sl (Tag.own 9) 3 l2))), (4, PV.al (AL.one (Leaf.v (Value.int IntKind.i64 n0)))), (5, PV.al (AL.one (Leaf.v (Value.int IntKind.i64 n1))))], boxes := [] }

theorem spec_AllPicks_L0_s0 (n7 : Int) (n8 : Int) (l9 : List (List D))
    (h : Obs [decide (n8 < n7) = true, (l9.length + [[I 1, I n8, I 0], [I 3, I n8, I 0], [I 2, I n8, I 0], [I 7, I n8, I 0]].length) * 24 ≤ 140737488355328, l9.length + [[I 1, I n8, I 0], [I 3, I n8, I 0], [I 2, I n8, I 0], [I 7, I n8, I 0]].length ≤ 9223372036854775807, Flat [[I 1, I n8, I 0], [I 3, I n8, I 0], [I 2, I n8, I 0], [I 7, I n8, I 0]], inInt IntKind.i64 (n8 + 1)]) :
    Tr Try.prog (loopOf Try.f26 0) (spec_AllPicks_L0 n7 n8 l9) Ex.normal (spec_AllPicks_L0 n7 (n8 + 1) (l9 ++ [[I 1, I n8, I 0], [I 3, I n8, I 0], [I 2, I n8, I 0], [I 7, I n8, I 0]])) :=
  .of_loopc (ks := [5, 4, 3]) (bs := []) (ans := [Ans.br true]) (by kernel_rfl) h

def spec_AllPicks_X0 (n0 : Int) (l1 : List (List D)) : St :=
  { env := envOf 62 [(3, PV.al (AL.one (Leaf.sl (Tag.own 9) 3 l1))), (4, PV.al (AL.one (Leaf.v (Value.int IntKind.i64 n0))))], boxes := [] }

theorem spec_AllPicks_L0_x1 (n7 : Int) (n8 : Int) (l9 : List (List D))
    (h : Obs [decide (n8 < n7) = false]) :
    Tr Try.prog (loopOf Try.f26 0) (spec_AllPicks_L0 n7 n8 l9) (Ex.exit 0) (spec_AllPicks_X0 n7 l9) :=
  .of_loopc (ks := [4, 3]) (bs := []) (ans := [Ans.br false]) (by kernel_rfl) h

def spec_AllPicks_L1 (n0 : Int) (n1 : Int) (l2 : List (List D)) : St :=
  { env := envOf 62 [(3, PV.al (AL.one (Leaf.sl (Tag.own 9) 3 l2))), (4, PV.al (AL.one (Leaf.v (Value.int IntKind.i64 n0)))), (6, PV.al (AL.one (Leaf.v (Value.int IntKind.i64 n1))))], boxes := [] }

def spec_AllPicks_L2 (n0 : Int) (n1 : Int) (n2 : Int) (l3 : List (List D)) : St :=
  { env := envOf 62 [(3, PV.al (AL.one (Leaf.sl (Tag.own 9) 3 l3))), (4, PV.al (AL.one (Leaf.v (Value.int IntKind.i64 n0)))), (6, PV.al (AL.one (Leaf.v (Value.int IntKind.i64 n1)))), (7, PV.al (AL.one (Leaf.v (Value.int IntKind.i64 n2))))], boxes := [] }

theorem spec_AllPicks_L2_s0 (n7 : Int) (n9 : Int) (n11 : Int) (l12 : List (List D))
    (h : Obs [decide (n11 < n7) = true, (n9 != n11) = true, (l12.length + [[I 4, I n9, I n11], [I 5, I n9, I n11]].length) * 24 ≤ 140737488355328, l12.length + [[I 4, I n9, I n11], [I 5, I n9, I n11]].length ≤ 9223372036854775807, Flat [[I 4, I n9, I n11], [I 5, I n9, I n11]], inInt IntKind.i64 (n11 + 1)]) :
    Tr Try.prog (loopOf Try.f26 2) (spec_AllPicks_L2 n7 n9 n11 l12) Ex.normal (spec_AllPicks_L2 n7 n9 (n11 + 1) (l12 ++ [[I 4, I n9, I n11], [I 5, I n9, I n11]])) :=
  .of_loopc (ks := [7, 4, 6, 3]) (bs := []) (ans := [Ans.br true, Ans.br true]) (by kernel_rfl) h

theorem spec_AllPicks_L2_s1 (n7 : Int) (n9 : Int) (n11 : Int) (l12 : List (List D))
    (h : Obs [decide (n11 < n7) = true, (n9 != n11) = false, inInt IntKind.i64 (n11 + 1)]) :
    Tr Try.prog (loopOf Try.f26 2) (spec_AllPicks_L2 n7 n9 n11 l12) Ex.normal (spec_AllPicks_L2 n7 n9 (n11 + 1) l12) :=
  .of_loopc (ks := [7, 4, 6, 3]) (bs := []) (ans := [Ans.br true, Ans.br false]) (by kernel_rfl) h

def spec_AllPicks_X2 (n0 : Int) (n1 : Int) (l2 : List (List D)) : St :=
  { env := envOf 62 [(3, PV.al (AL.one (Leaf.sl (Tag.own 9) 3 l2))), (4, PV.al (AL.one (Leaf.v (Value.int IntKind.i64 n0)))), (6, PV.al (AL.one (Leaf.v (Value.int IntKind.i64 n1))))], boxes := [] }

theorem spec_AllPicks_L2_x2 (n7 : Int) (n9 : Int) (n11 : Int) (l12 : List (List D))
    (h : Obs [decide (n11 < n7) = false]) :
    Tr Try.prog (loopOf Try.f26 2) (spec_AllPicks_L2 n7 n9 n11 l12) (Ex.exit 4) (spec_AllPicks_X2 n7 n9 l12) :=
  .of_loopc (ks := [6, 4, 3]) (bs := []) (ans := [Ans.br false]) (by kernel_rfl) h

theorem spec_AllPicks_L1_s0 (n7 : Int) (n9 : Int) (l10 : List (List D)) (l11 : List (List D))
    (h : Obs [decide (n9 < n7) = true, LoopOk Try.prog (loopOf Try.f26 2) (spec_AllPicks_L2 n7 n9 0 l10) (Ex.exit 4) (spec_AllPicks_X2 n7 n9 l11), inInt IntKind.i64 (n9 + 1)]) :
    Tr Try.prog (loopOf Try.f26 1) (spec_AllPicks_L1 n7 n9 l10) Ex.normal (spec_AllPicks_L1 n7 (n9 + 1) l11) :=
  .of_loopc (ks := [6, 4, 3]) (bs := []) (ans := [Ans.br true, Ans.loop [] [7, 4, 6, 3] [] (Ex.exit 4) (spec_AllPicks_X2 n7 n9 l11)]) (by kernel_rfl) h

def spec_AllPicks_X1 (l0 : List (List D)) : St :=
  { env := envOf 62 [(3, PV.al (AL.one (Leaf.sl (Tag.own 9) 3 l0)))], boxes := [] }

theorem spec_AllPicks_L1_x1 (n7 : Int) (n9 : Int) (l10 : List (List D))
    (h : Obs [decide (n9 < n7) = false]) :
    Tr Try.prog (loopOf Try.f26 1) (spec_AllPicks_L1 n7 n9 l10) (Ex.exit 2) (spec_AllPicks_X1 l10) :=
  .of_loopc (ks := [3]) (bs := []) (ans := [Ans.br false]) (by kernel_rfl) h

def spec_AllPicks_L3 (n0 : Int) (l1 : List (List D)) : St :=
  { env := envOf 62 [(3, PV.al (AL.one (Leaf.sl (Tag.own 9) 3 l1))), (8, PV.al (AL.one (Leaf.v (Value.int IntKind.i64 n0))))], boxes := [] }

theorem spec_AllPicks_L3_s0 (n10 : Int) (l11 : List (List D))
    (h : Obs [decide (n10 ≤ 3) = true, (l11.length + [[I 6, I n10, I 0]].length) * 24 ≤ 140737488355328, l11.length + [[I 6, I n10, I 0]].length ≤ 9223372036854775807, Flat [[I 6, I n10, I 0]], inInt IntKind.i64 (n10 + 1)]) :
    Tr Try.prog (loopOf Try.f26 3) (spec_AllPicks_L3 n10 l11) Ex.normal (spec_AllPicks_L3 (n10 + 1) (l11 ++ [[I 6, I n10, I 0]])) :=
  .of_loopc (ks := [8, 3]) (bs := []) (ans := [Ans.br true]) (by kernel_rfl) h

def spec_AllPicks_X3 (l0 : List (List D)) : St :=
  { env := envOf 62 [(3, PV.al (AL.one (Leaf.sl (Tag.own 9) 3 l0)))], boxes := [] }

theorem spec_AllPicks_L3_x1 (n10 : Int) (l11 : List (List D))
    (h : Obs [decide (n10 ≤ 3) = false]) :
    Tr Try.prog (loopOf Try.f26 3) (spec_AllPicks_L3 n10 l11) (Ex.exit 6) (spec_AllPicks_X3 l11) :=
  .of_loopc (ks := [3]) (bs := []) (ans := [Ans.br false]) (by kernel_rfl) h

theorem spec_AllPicks_p0 (l0 : List (List D)) (n1 : Int) (n2 : Int) (l3 : List (List D)) (l4 : List (List D)) (l5 : List (List D)) (l6 : List (List D)) (n7 : Int) (l8 : List (List D)) (l9 : List (List D)) (l10 : List (List D))
    (h : Obs [Ret Try.prog 68 [AD.one (I n1), AD.one (I 0), AD.one (I 4)] [AD.one (I n7)], LoopOk Try.prog (loopOf Try.f26 0) (spec_AllPicks_L0 n7 0 []) (Ex.exit 0) (spec_AllPicks_X0 n7 l8), LoopOk Try.prog (loopOf Try.f26 1) (spec_AllPicks_L1 n7 0 l8) (Ex.exit 2) (spec_AllPicks_X1 l9), LoopOk Try.prog (loopOf Try.f26 3) (spec_AllPicks_L3 0 l9) (Ex.exit 6) (spec_AllPicks_X3 l10)]) :
    Ret Try.prog 26 [AD.agg [D.sl 4 l0, I n1, I n2, D.sl 8 l3, D.sl 6 l4, D.sl 5 l5, D.sl 3 l6]] [AD.one (D.sl 3 l10)] :=
  .of [Ans.res [AD.one (I n7)], Ans.loop [] [5, 4, 3] [] (Ex.exit 0) (spec_AllPicks_X0 n7 l8), Ans.loop [] [6, 4, 3] [] (Ex.exit 2) (spec_AllPicks_X1 l9), Ans.loop [] [8, 3] [] (Ex.exit 6) (spec_AllPicks_X3 l10)] _ Try.func26 rfl (by kernel_rfl) h

/- loop.example/g00973/impl.AllPicks -/

def impl_AllPicks_L0 (n0 : Int) (n1 : Int) (l2 : List (List D)) : St :=
  { env := envOf 65 [(3, PV.al (AL.one (Leaf.v (Value.int IntKind.i64 n0)))), (4, PV.al (AL.one (Leaf.sl (Tag.own 31) 3 l2))), (5, PV.al (AL.one (Leaf.v (Value.int IntKind.i64 n1))))], boxes := [] }

def impl_AllPicks_L1 (n0 : Int) (n1 : Int) (n2 : Int) (l3 : List (List D)) : St :=
  { env := envOf 65 [(3, PV.al (AL.one (Leaf.v (Value.int IntKind.i64 n0)))), (4, PV.al (AL.one (Leaf.sl (Tag.own 31) 3 l3))), (5, PV.al (AL.one (Leaf.v (Value.int IntKind.i64 n1)))), (20, PV.al (AL.one (Leaf.sl (Tag.own 20) 1 [[I 1], [I 3], [I 2], [I 7]]))), (21, PV.al (AL.one (Leaf.v (Value.int IntKind.i64 (↑[[I 1], [I 3], [I 2], [I 7]].length : Int))))), (22, PV.al (AL.one (Leaf.v (Value.int IntKind.i64 n2))))], boxes := [] }

theorem impl_AllPicks_L1_s0 (n7 : Int) (n8 : Int) (n10 : Int) (l11 : List (List D)) (n12 : Int)
    (h : Obs [decide (n10 < (↑[[I 1], [I 3], [I 2], [I 7]].length : Int)) = true, 0 ≤ n10, n10 < (↑[[I 1], [I 3], [I 2], [I 7]].length : Int), [[I 1], [I 3], [I 2], [I 7]][n10.toNat]? = some [I n12], (l11.length + [[I n12, I n8, I 0]].length) * 24 ≤ 140737488355328, l11.length + [[I n12, I n8, I 0]].length ≤ 9223372036854775807, Flat [[I n12, I n8, I 0]], inInt IntKind.i64 (n10 + 1)]) :
    Tr Try.prog (loopOf Try.f27 1) (impl_AllPicks_L1 n7 n8 n10 l11) Ex.normal (impl_AllPicks_L1 n7 n8 (n10 + 1) (l11 ++ [[I n12, I n8, I 0]])) :=
  .of_loopc (ks := [22, 21, 20, 4, 5, 3]) (bs := []) (ans := [Ans.br true, Ans.el [I n12]]) (by kernel_rfl) h

def impl_AllPicks_X1 (n0 : Int) (n1 : Int) (l2 : List (List D)) : St :=
  { env := envOf 65 [(3, PV.al (AL.one (Leaf.v (Value.int IntKind.i64 n0)))), (4, PV.al (AL.one (Leaf.sl (Tag.own 31) 3 l2))), (5, PV.al (AL.one (Leaf.v (Value.int IntKind.i64 n1))))], boxes := [] }

theorem impl_AllPicks_L1_x1 (n7 : Int) (n8 : Int) (n10 : Int) (l11 : List (List D))
    (h : Obs [decide (n10 < (↑[[I 1], [I 3], [I 2], [I 7]].length : Int)) = false]) :
    Tr Try.prog (loopOf Try.f27 1) (impl_AllPicks_L1 n7 n8 n10 l11) (Ex.exit 2) (impl_AllPicks_X1 n7 n8 l11) :=
  .of_loopc (ks := [5, 3, 4]) (bs := []) (ans := [Ans.br false]) (by kernel_rfl) h

theorem impl_AllPicks_L0_s0 (n7 : Int) (n8 : Int) (l9 : List (List D)) (l10 : List (List D))
    (h : Obs [decide (n8 < n7) = true, LoopOk Try.prog (loopOf Try.f27 1) (impl_AllPicks_L1 n7 n8 0 l9) (Ex.exit 2) (impl_AllPicks_X1 n7 n8 l10), inInt IntKind.i64 (n8 + 1)]) :
    Tr Try.prog (loopOf Try.f27 0) (impl_AllPicks_L0 n7 n8 l9) Ex.normal (impl_AllPicks_L0 n7 (n8 + 1) l10) :=
  .of_loopc (ks := [5, 3, 4]) (bs := []) (ans := [Ans.br true, Ans.loop [] [22, 21, 20, 4, 5, 3] [] (Ex.exit 2) (impl_AllPicks_X1 n7 n8 l10)]) (by kernel_rfl) h

def impl_AllPicks_X0 (n0 : Int) (l1 : List (List D)) : St :=
  { env := envOf 65 [(3, PV.al (AL.one (Leaf.v (Value.int IntKind.i64 n0)))), (4, PV.al (AL.one (Leaf.sl (Tag.own 31) 3 l1)))], boxes := [] }

theorem impl_AllPicks_L0_x1 (n7 : Int) (n8 : Int) (l9 : List (List D))
    (h : Obs [decide (n8 < n7) = false]) :
    Tr Try.prog (loopOf Try.f27 0) (impl_AllPicks_L0 n7 n8 l9) (Ex.exit 0) (impl_AllPicks_X0 n7 l9) :=
  .of_loopc (ks := [3, 4]) (bs := []) (ans := [Ans.br false]) (by kernel_rfl) h

def impl_AllPicks_L2 (n0 : Int) (n1 : Int) (l2 : List (List D)) : St :=
  { env := envOf 65 [(3, PV.al (AL.one (Leaf.v (Value.int IntKind.i64 n0)))), (4, PV.al (AL.one (Leaf.sl (Tag.own 31) 3 l2))), (8, PV.al (AL.one (Leaf.v (Value.int IntKind.i64 n1))))], boxes := [] }

def impl_AllPicks_L3 (n0 : Int) (n1 : Int) (n2 : Int) (l3 : List (List D)) : St :=
  { env := envOf 65 [(3, PV.al (AL.one (Leaf.v (Value.int IntKind.i64 n0)))), (4, PV.al (AL.one (Leaf.sl (Tag.own 31) 3 l3))), (8, PV.al (AL.one (Leaf.v (Value.int IntKind.i64 n1)))), (9, PV.al (AL.one (Leaf.v (Value.int IntKind.i64 n2))))], boxes := [] }

theorem impl_AllPicks_L3_s0 (n7 : Int) (n9 : Int) (n11 : Int) (l12 : List (List D))
    (h : Obs [decide (n11 < n7) = true, (n9 != n11) = true, (l12.length + [[I 4, I n9, I n11], [I 5, I n9, I n11]].length) * 24 ≤ 140737488355328, l12.length + [[I 4, I n9, I n11], [I 5, I n9, I n11]].length ≤ 9223372036854775807, Flat [[I 4, I n9, I n11], [I 5, I n9, I n11]], inInt IntKind.i64 (n11 + 1)]) :
    Tr Try.prog (loopOf Try.f27 3) (impl_AllPicks_L3 n7 n9 n11 l12) Ex.normal (impl_AllPicks_L3 n7 n9 (n11 + 1) (l12 ++ [[I 4, I n9, I n11], [I 5, I n9, I n11]])) :=
  .of_loopc (ks := [9, 3, 8, 4]) (bs := []) (ans := [Ans.br true, Ans.br true]) (by kernel_rfl) h

theorem impl_AllPicks_L3_s1 (n7 : Int) (n9 : Int) (n11 : Int) (l12 : List (List D))
    (h : Obs [decide (n11 < n7) = true, (n9 != n11) = false, inInt IntKind.i64 (n11 + 1)]) :
    Tr Try.prog (loopOf Try.f27 3) (impl_AllPicks_L3 n7 n9 n11 l12) Ex.normal (impl_AllPicks_L3 n7 n9 (n11 + 1) l12) :=
  .of_loopc (ks := [9, 3, 8, 4]) (bs := []) (ans := [Ans.br true, Ans.br false]) (by kernel_rfl) h

def impl_AllPicks_X3 (n0 : Int) (n1 : Int) (l2 : List (List D)) : St :=
  { env := envOf 65 [(3, PV.al (AL.one (Leaf.v (Value.int IntKind.i64 n0)))), (4, PV.al (AL.one (Leaf.sl (Tag.own 31) 3 l2))), (8, PV.al (AL.one (Leaf.v (Value.int IntKind.i64 n1))))], boxes := [] }

theorem impl_AllPicks_L3_x2 (n7 : Int) (n9 : Int) (n11 : Int) (l12 : List (List D))
    (h : Obs [decide (n11 < n7) = false]) :
    Tr Try.prog (loopOf Try.f27 3) (impl_AllPicks_L3 n7 n9 n11 l12) (Ex.exit 6) (impl_AllPicks_X3 n7 n9 l12) :=
  .of_loopc (ks := [8, 3, 4]) (bs := []) (ans := [Ans.br false]) (by kernel_rfl) h

theorem impl_AllPicks_L2_s0 (n7 : Int) (n9 : Int) (l10 : List (List D)) (l11 : List (List D))
    (h : Obs [decide (n9 < n7) = true, LoopOk Try.prog (loopOf Try.f27 3) (impl_AllPicks_L3 n7 n9 0 l10) (Ex.exit 6) (impl_AllPicks_X3 n7 n9 l11), inInt IntKind.i64 (n9 + 1)]) :
    Tr Try.prog (loopOf Try.f27 2) (impl_AllPicks_L2 n7 n9 l10) Ex.normal (impl_AllPicks_L2 n7 (n9 + 1) l11) :=
  .of_loopc (ks := [8, 3, 4]) (bs := []) (ans := [Ans.br true, Ans.loop [] [9, 3, 8, 4] [] (Ex.exit 6) (impl_AllPicks_X3 n7 n9 l11)]) (by kernel_rfl) h

def impl_AllPicks_X2 (l0 : List (List D)) : St :=
  { env := envOf 65 [(4, PV.al (AL.one (Leaf.sl (Tag.own 31) 3 l0)))], boxes := [] }

theorem impl_AllPicks_L2_x1 (n7 : Int) (n9 : Int) (l10 : List (List D))
    (h : Obs [decide (n9 < n7) = false]) :
    Tr Try.prog (loopOf Try.f27 2) (impl_AllPicks_L2 n7 n9 l10) (Ex.exit 4) (impl_AllPicks_X2 l10) :=
  .of_loopc (ks := [4]) (bs := []) (ans := [Ans.br false]) (by kernel_rfl) h

def impl_AllPicks_L4 (n0 : Int) (l1 : List (List D)) : St :=
  { env := envOf 65 [(4, PV.al (AL.one (Leaf.sl (Tag.own 31) 3 l1))), (10, PV.al (AL.one (Leaf.v (Value.int IntKind.i64 n0))))], boxes := [] }

theorem impl_AllPicks_L4_s0 (n10 : Int) (l11 : List (List D))
    (h : Obs [decide (n10 ≤ 3) = true, (l11.length + [[I 6, I n10, I 0]].length) * 24 ≤ 140737488355328, l11.length + [[I 6, I n10, I 0]].length ≤ 9223372036854775807, Flat [[I 6, I n10, I 0]], inInt IntKind.i64 (n10 + 1)]) :
    Tr Try.prog (loopOf Try.f27 4) (impl_AllPicks_L4 n10 l11) Ex.normal (impl_AllPicks_L4 (n10 + 1) (l11 ++ [[I 6, I n10, I 0]])) :=
  .of_loopc (ks := [10, 4]) (bs := []) (ans := [Ans.br true]) (by kernel_rfl) h

def impl_AllPicks_X4 (l0 : List (List D)) : St :=
  { env := envOf 65 [(4, PV.al (AL.one (Leaf.sl (Tag.own 31) 3 l0)))], boxes := [] }

theorem impl_AllPicks_L4_x1 (n10 : Int) (l11 : List (List D))
    (h : Obs [decide (n10 ≤ 3) = false]) :
    Tr Try.prog (loopOf Try.f27 4) (impl_AllPicks_L4 n10 l11) (Ex.exit 8) (impl_AllPicks_X4 l11) :=
  .of_loopc (ks := [4]) (bs := []) (ans := [Ans.br false]) (by kernel_rfl) h

theorem impl_AllPicks_p0 (l0 : List (List D)) (n1 : Int) (n2 : Int) (l3 : List (List D)) (l4 : List (List D)) (l5 : List (List D)) (l6 : List (List D)) (n7 : Int) (l8 : List (List D)) (l9 : List (List D)) (l10 : List (List D))
    (h : Obs [Ret Try.prog 69 [AD.one (I n1), AD.one (I 0), AD.one (I 4)] [AD.one (I n7)], LoopOk Try.prog (loopOf Try.f27 0) (impl_AllPicks_L0 n7 0 []) (Ex.exit 0) (impl_AllPicks_X0 n7 l8), LoopOk Try.prog (loopOf Try.f27 2) (impl_AllPicks_L2 n7 0 l8) (Ex.exit 4) (impl_AllPicks_X2 l9), LoopOk Try.prog (loopOf Try.f27 4) (impl_AllPicks_L4 0 l9) (Ex.exit 8) (impl_AllPicks_X4 l10)]) :
    Ret Try.prog 27 [AD.agg [D.sl 4 l0, I n1, I n2, D.sl 8 l3, D.sl 6 l4, D.sl 5 l5, D.sl 3 l6]] [AD.one (D.sl 3 l10)] :=
  .of [Ans.res [AD.one (I n7)], Ans.loop [(4, 31, 3)] [5, 3, 4] [] (Ex.exit 0) (impl_AllPicks_X0 n7 l8), Ans.loop [] [8, 3, 4] [] (Ex.exit 4) (impl_AllPicks_X2 l9), Ans.loop [] [10, 4] [] (Ex.exit 8) (impl_AllPicks_X4 l10)] _ Try.func27 rfl (by kernel_rfl) h

/- loop.example/g00973/impl.within -/

theorem impl_within_p0 (n0 : Int) (n1 : Int) (n2 : Int)
    (h : Obs [decide (n0 ≥ n1) = true]) :
    Ret Try.prog 62 [AD.one (I n0), AD.one (I n1), AD.one (I n2)] [AD.one (B (decide (n0 ≤ n2)))] :=
  .of [Ans.br true] _ Try.func62 rfl (by kernel_rfl) h

theorem impl_within_p1 (n0 : Int) (n1 : Int) (n2 : Int)
    (h : Obs [decide (n0 ≥ n1) = false]) :
    Ret Try.prog 62 [AD.one (I n0), AD.one (I n1), AD.one (I n2)] [AD.one (B false)] :=
  .of [Ans.br false] _ Try.func62 rfl (by kernel_rfl) h

/- loop.example/g00973/spec.l01In -/

theorem spec_l01In_p0 (n0 : Int) (n1 : Int) (n2 : Int)
    (h : Obs [decide (n0 ≥ n1) = true]) :
    Ret Try.prog 57 [AD.one (I n0), AD.one (I n1), AD.one (I n2)] [AD.one (B (decide (n0 ≤ n2)))] :=
  .of [Ans.br true] _ Try.func57 rfl (by kernel_rfl) h

theorem spec_l01In_p1 (n0 : Int) (n1 : Int) (n2 : Int)
    (h : Obs [decide (n0 ≥ n1) = false]) :
    Ret Try.prog 57 [AD.one (I n0), AD.one (I n1), AD.one (I n2)] [AD.one (B false)] :=
  .of [Ans.br false] _ Try.func57 rfl (by kernel_rfl) h


end Go.Proofs.Ytbbjajmimckabaa
