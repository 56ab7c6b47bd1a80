import Derived.Test.YtialmplmfcahpaaGreatRows
import Derived.Test.YtialmplmfcahpaaGreatR22
set_option linter.unusedVariables false
set_option linter.unusedSimpArgs false
namespace Go.Proofs.YtialmplmfcahpaaGreat
open Go.Sx Go.RowKit
theorem qs7 (l0 : List (List D)) (n1 n2 : Int) (l3 l4 l5 l6 : List (List D)) (n7 n8 n9 : Int) (b10 : Bool)
  (h : Obs [inInt .i64 ((↑l3.length : Int) - 1), Ret Tryz.prog 138 [.one (I n8), .one (I 0), .one (I ((↑l3.length : Int) - 1))] [.one (B b10)], (!b10) = true]) :
  Ret Tryz.prog 59 [.agg [D.sl 4 l0, I n1, I n2, D.sl 8 l3, D.sl 6 l4, D.sl 5 l5, D.sl 3 l6], .agg [I n7, I n8, I n9]] [.agg [I 0, I 0, I 0, I 0, I 0], .one (B false)] :=
 .of [.res [.one (B b10)], .br true] _ Tryz.func59 rfl (by kernel_rfl) h
theorem qs8 (l0 : List (List D)) (n1 n2 : Int) (l3 l4 l5 l6 : List (List D)) (n7 n8 n9 : Int) (b10 : Bool) (l11 l12 l13 l14 l15 l16 l17 l18 : List (List D)) (n19 n20 n21 n22 n23 : Int)
  (h : Obs [inInt .i64 ((↑l3.length : Int) - 1), Ret Tryz.prog 138 [.one (I n8), .one (I 0), .one (I ((↑l3.length : Int) - 1))] [.one (B b10)], (!b10) = false, 0 ≤ n8, n8 < (↑l3.length : Int), l3[n8.toNat]? = some [D.sl 5 l11, D.sl 5 l12, D.sl 5 l13, D.sl 4 l14, D.sl 1 l15, D.sl 1 l16, D.sl 1 l17, D.sl 2 l18], (n7 == 2) = true, decide ((↑l13.length : Int) > 0) = true, (0 : Int) ≤ 0, 0 < (↑l13.length : Int), l13[0]? = some [I n19, I n20, I n21, I n22, I n23]]) :
  Ret Tryz.prog 59 [.agg [D.sl 4 l0, I n1, I n2, D.sl 8 l3, D.sl 6 l4, D.sl 5 l5, D.sl 3 l6], .agg [I n7, I n8, I n9]] [.agg [I n19, I n20, I n21, I n22, I n23], .one (B true)] :=
 .of [.res [.one (B b10)], .br false, .el [D.sl 5 l11, D.sl 5 l12, D.sl 5 l13, D.sl 4 l14, D.sl 1 l15, D.sl 1 l16, D.sl 1 l17, D.sl 2 l18], .br true, .br true, .el [I n19, I n20, I n21, I n22, I n23]] _ Tryz.func59 rfl (by kernel_rfl) h
theorem qs9 (l0 : List (List D)) (n1 n2 : Int) (l3 l4 l5 l6 : List (List D)) (n7 n8 n9 : Int) (b10 : Bool) (l11 l12 l13 l14 l15 l16 l17 l18 : List (List D))
  (h : Obs [inInt .i64 ((↑l3.length : Int) - 1), Ret Tryz.prog 138 [.one (I n8), .one (I 0), .one (I ((↑l3.length : Int) - 1))] [.one (B b10)], (!b10) = false, 0 ≤ n8, n8 < (↑l3.length : Int), l3[n8.toNat]? = some [D.sl 5 l11, D.sl 5 l12, D.sl 5 l13, D.sl 4 l14, D.sl 1 l15, D.sl 1 l16, D.sl 1 l17, D.sl 2 l18], (n7 == 2) = true, decide ((↑l13.length : Int) > 0) = false, (n7 == 1) = false]) :
  Ret Tryz.prog 59 [.agg [D.sl 4 l0, I n1, I n2, D.sl 8 l3, D.sl 6 l4, D.sl 5 l5, D.sl 3 l6], .agg [I n7, I n8, I n9]] [.agg [I 0, I 0, I 0, I 0, I 0], .one (B false)] :=
 .of [.res [.one (B b10)], .br false, .el [D.sl 5 l11, D.sl 5 l12, D.sl 5 l13, D.sl 4 l14, D.sl 1 l15, D.sl 1 l16, D.sl 1 l17, D.sl 2 l18], .br true, .br false, .br false] _ Tryz.func59 rfl (by kernel_rfl) h
theorem qta (l0 : List (List D)) (n1 n2 : Int) (l3 l4 l5 l6 : List (List D)) (n7 n8 n9 : Int) (b10 : Bool) (l11 l12 l13 l14 l15 l16 l17 l18 : List (List D)) (n19 n20 n21 n22 n23 : Int)
  (h : Obs [inInt .i64 ((↑l3.length : Int) - 1), Ret Tryz.prog 138 [.one (I n8), .one (I 0), .one (I ((↑l3.length : Int) - 1))] [.one (B b10)], (!b10) = false, 0 ≤ n8, n8 < (↑l3.length : Int), l3[n8.toNat]? = some [D.sl 5 l11, D.sl 5 l12, D.sl 5 l13, D.sl 4 l14, D.sl 1 l15, D.sl 1 l16, D.sl 1 l17, D.sl 2 l18], (n7 == 2) = false, (n7 == 1) = true, decide ((↑l11.length : Int) > 0) = true, (0 : Int) ≤ 0, 0 < (↑l11.length : Int), l11[0]? = some [I n19, I n20, I n21, I n22, I n23]]) :
  Ret Tryz.prog 59 [.agg [D.sl 4 l0, I n1, I n2, D.sl 8 l3, D.sl 6 l4, D.sl 5 l5, D.sl 3 l6], .agg [I n7, I n8, I n9]] [.agg [I n19, I n20, I n21, I n22, I n23], .one (B true)] :=
 .of [.res [.one (B b10)], .br false, .el [D.sl 5 l11, D.sl 5 l12, D.sl 5 l13, D.sl 4 l14, D.sl 1 l15, D.sl 1 l16, D.sl 1 l17, D.sl 2 l18], .br false, .br true, .br true, .el [I n19, I n20, I n21, I n22, I n23]] _ Tryz.func59 rfl (by kernel_rfl) h
theorem qtb (l0 : List (List D)) (n1 n2 : Int) (l3 l4 l5 l6 : List (List D)) (n7 n8 n9 : Int) (b10 : Bool) (l11 l12 l13 l14 l15 l16 l17 l18 : List (List D))
  (h : Obs [inInt .i64 ((↑l3.length : Int) - 1), Ret Tryz.prog 138 [.one (I n8), .one (I 0), .one (I ((↑l3.length : Int) - 1))] [.one (B b10)], (!b10) = false, 0 ≤ n8, n8 < (↑l3.length : Int), l3[n8.toNat]? = some [D.sl 5 l11, D.sl 5 l12, D.sl 5 l13, D.sl 4 l14, D.sl 1 l15, D.sl 1 l16, D.sl 1 l17, D.sl 2 l18], (n7 == 2) = false, (n7 == 1) = true, decide ((↑l11.length : Int) > 0) = false]) :
  Ret Tryz.prog 59 [.agg [D.sl 4 l0, I n1, I n2, D.sl 8 l3, D.sl 6 l4, D.sl 5 l5, D.sl 3 l6], .agg [I n7, I n8, I n9]] [.agg [I 0, I 0, I 0, I 0, I 0], .one (B false)] :=
 .of [.res [.one (B b10)], .br false, .el [D.sl 5 l11, D.sl 5 l12, D.sl 5 l13, D.sl 4 l14, D.sl 1 l15, D.sl 1 l16, D.sl 1 l17, D.sl 2 l18], .br false, .br true, .br false] _ Tryz.func59 rfl (by kernel_rfl) h
theorem qtc (l0 : List (List D)) (n1 n2 : Int) (l3 l4 l5 l6 : List (List D)) (n7 n8 n9 : Int) (b10 : Bool) (l11 l12 l13 l14 l15 l16 l17 l18 : List (List D))
  (h : Obs [inInt .i64 ((↑l3.length : Int) - 1), Ret Tryz.prog 138 [.one (I n8), .one (I 0), .one (I ((↑l3.length : Int) - 1))] [.one (B b10)], (!b10) = false, 0 ≤ n8, n8 < (↑l3.length : Int), l3[n8.toNat]? = some [D.sl 5 l11, D.sl 5 l12, D.sl 5 l13, D.sl 4 l14, D.sl 1 l15, D.sl 1 l16, D.sl 1 l17, D.sl 2 l18], (n7 == 2) = false, (n7 == 1) = false]) :
  Ret Tryz.prog 59 [.agg [D.sl 4 l0, I n1, I n2, D.sl 8 l3, D.sl 6 l4, D.sl 5 l5, D.sl 3 l6], .agg [I n7, I n8, I n9]] [.agg [I 0, I 0, I 0, I 0, I 0], .one (B false)] :=
 .of [.res [.one (B b10)], .br false, .el [D.sl 5 l11, D.sl 5 l12, D.sl 5 l13, D.sl 4 l14, D.sl 1 l15, D.sl 1 l16, D.sl 1 l17, D.sl 2 l18], .br false, .br false] _ Tryz.func59 rfl (by kernel_rfl) h
theorem qtd (l0 : List (List D)) (n1 n2 : Int) (l3 l4 l5 l6 : List (List D)) (n7 n8 n9 : Int) (b10 : Bool)
  (h : Obs [inInt .i64 ((↑l3.length : Int) - 1), Ret Tryz.prog 119 [.one (I n8), .one (I 0), .one (I ((↑l3.length : Int) - 1))] [.one (B b10)], (!b10) = true]) :
  Ret Tryz.prog 66 [.agg [D.sl 4 l0, I n1, I n2, D.sl 8 l3, D.sl 6 l4, D.sl 5 l5, D.sl 3 l6], .agg [I n7, I n8, I n9]] [.agg [I 0, I 0, I 0, I 0, I 0], .one (B false)] :=
 .of [.res [.one (B b10)], .br true] _ Tryz.func66 rfl (by kernel_rfl) h
theorem qte (l0 : List (List D)) (n1 n2 : Int) (l3 l4 l5 l6 : List (List D)) (n7 n8 n9 : Int) (b10 : Bool) (l11 l12 l13 l14 l15 l16 l17 l18 : List (List D))
  (h : Obs [inInt .i64 ((↑l3.length : Int) - 1), Ret Tryz.prog 119 [.one (I n8), .one (I 0), .one (I ((↑l3.length : Int) - 1))] [.one (B b10)], (!b10) = false, (n7 == 2) = true, 0 ≤ n8, n8 < (↑l3.length : Int), l3[n8.toNat]? = some [D.sl 5 l11, D.sl 5 l12, D.sl 5 l13, D.sl 4 l14, D.sl 1 l15, D.sl 1 l16, D.sl 1 l17, D.sl 2 l18], ((↑l13.length : Int) == 0) = true]) :
  Ret Tryz.prog 66 [.agg [D.sl 4 l0, I n1, I n2, D.sl 8 l3, D.sl 6 l4, D.sl 5 l5, D.sl 3 l6], .agg [I n7, I n8, I n9]] [.agg [I 0, I 0, I 0, I 0, I 0], .one (B false)] :=
 .of [.res [.one (B b10)], .br false, .br true, .el [D.sl 5 l11, D.sl 5 l12, D.sl 5 l13, D.sl 4 l14, D.sl 1 l15, D.sl 1 l16, D.sl 1 l17, D.sl 2 l18], .br true] _ Tryz.func66 rfl (by kernel_rfl) h
theorem qtf (l0 : List (List D)) (n1 n2 : Int) (l3 l4 l5 l6 : List (List D)) (n7 n8 n9 : Int) (b10 : Bool) (l11 l12 l13 l14 l15 l16 l17 l18 : List (List D)) (n19 n20 n21 n22 n23 : Int)
  (h : Obs [inInt .i64 ((↑l3.length : Int) - 1), Ret Tryz.prog 119 [.one (I n8), .one (I 0), .one (I ((↑l3.length : Int) - 1))] [.one (B b10)], (!b10) = false, (n7 == 2) = true, 0 ≤ n8, n8 < (↑l3.length : Int), l3[n8.toNat]? = some [D.sl 5 l11, D.sl 5 l12, D.sl 5 l13, D.sl 4 l14, D.sl 1 l15, D.sl 1 l16, D.sl 1 l17, D.sl 2 l18], ((↑l13.length : Int) == 0) = false, (0 : Int) ≤ 0, 0 < (↑l13.length : Int), l13[0]? = some [I n19, I n20, I n21, I n22, I n23]]) :
  Ret Tryz.prog 66 [.agg [D.sl 4 l0, I n1, I n2, D.sl 8 l3, D.sl 6 l4, D.sl 5 l5, D.sl 3 l6], .agg [I n7, I n8, I n9]] [.agg [I n19, I n20, I n21, I n22, I n23], .one (B true)] :=
 .of [.res [.one (B b10)], .br false, .br true, .el [D.sl 5 l11, D.sl 5 l12, D.sl 5 l13, D.sl 4 l14, D.sl 1 l15, D.sl 1 l16, D.sl 1 l17, D.sl 2 l18], .br false, .el [I n19, I n20, I n21, I n22, I n23]] _ Tryz.func66 rfl (by kernel_rfl) h
theorem qtg (l0 : List (List D)) (n1 n2 : Int) (l3 l4 l5 l6 : List (List D)) (n7 n8 n9 : Int) (b10 : Bool) (l11 l12 l13 l14 l15 l16 l17 l18 : List (List D))
  (h : Obs [inInt .i64 ((↑l3.length : Int) - 1), Ret Tryz.prog 119 [.one (I n8), .one (I 0), .one (I ((↑l3.length : Int) - 1))] [.one (B b10)], (!b10) = false, (n7 == 2) = false, (n7 == 1) = true, 0 ≤ n8, n8 < (↑l3.length : Int), l3[n8.toNat]? = some [D.sl 5 l11, D.sl 5 l12, D.sl 5 l13, D.sl 4 l14, D.sl 1 l15, D.sl 1 l16, D.sl 1 l17, D.sl 2 l18], ((↑l11.length : Int) == 0) = true]) :
  Ret Tryz.prog 66 [.agg [D.sl 4 l0, I n1, I n2, D.sl 8 l3, D.sl 6 l4, D.sl 5 l5, D.sl 3 l6], .agg [I n7, I n8, I n9]] [.agg [I 0, I 0, I 0, I 0, I 0], .one (B false)] :=
 .of [.res [.one (B b10)], .br false, .br false, .br true, .el [D.sl 5 l11, D.sl 5 l12, D.sl 5 l13, D.sl 4 l14, D.sl 1 l15, D.sl 1 l16, D.sl 1 l17, D.sl 2 l18], .br true] _ Tryz.func66 rfl (by kernel_rfl) h
theorem qth (l0 : List (List D)) (n1 n2 : Int) (l3 l4 l5 l6 : List (List D)) (n7 n8 n9 : Int) (b10 : Bool) (l11 l12 l13 l14 l15 l16 l17 l18 : List (List D)) (n19 n20 n21 n22 n23 : Int)
  (h : Obs [inInt .i64 ((↑l3.length : Int) - 1), Ret Tryz.prog 119 [.one (I n8), .one (I 0), .one (I ((↑l3.length : Int) - 1))] [.one (B b10)], (!b10) = false, (n7 == 2) = false, (n7 == 1) = true, 0 ≤ n8, n8 < (↑l3.length : Int), l3[n8.toNat]? = some [D.sl 5 l11, D.sl 5 l12, D.sl 5 l13, D.sl 4 l14, D.sl 1 l15, D.sl 1 l16, D.sl 1 l17, D.sl 2 l18], ((↑l11.length : Int) == 0) = false, (0 : Int) ≤ 0, 0 < (↑l11.length : Int), l11[0]? = some [I n19, I n20, I n21, I n22, I n23]]) :
  Ret Tryz.prog 66 [.agg [D.sl 4 l0, I n1, I n2, D.sl 8 l3, D.sl 6 l4, D.sl 5 l5, D.sl 3 l6], .agg [I n7, I n8, I n9]] [.agg [I n19, I n20, I n21, I n22, I n23], .one (B true)] :=
 .of [.res [.one (B b10)], .br false, .br false, .br true, .el [D.sl 5 l11, D.sl 5 l12, D.sl 5 l13, D.sl 4 l14, D.sl 1 l15, D.sl 1 l16, D.sl 1 l17, D.sl 2 l18], .br false, .el [I n19, I n20, I n21, I n22, I n23]] _ Tryz.func66 rfl (by kernel_rfl) h
theorem qti (l0 : List (List D)) (n1 n2 : Int) (l3 l4 l5 l6 : List (List D)) (n7 n8 n9 : Int) (b10 : Bool)
  (h : Obs [inInt .i64 ((↑l3.length : Int) - 1), Ret Tryz.prog 119 [.one (I n8), .one (I 0), .one (I ((↑l3.length : Int) - 1))] [.one (B b10)], (!b10) = false, (n7 == 2) = false, (n7 == 1) = false, true = true]) :
  Ret Tryz.prog 66 [.agg [D.sl 4 l0, I n1, I n2, D.sl 8 l3, D.sl 6 l4, D.sl 5 l5, D.sl 3 l6], .agg [I n7, I n8, I n9]] [.agg [I 0, I 0, I 0, I 0, I 0], .one (B false)] :=
 .of [.res [.one (B b10)], .br false, .br false, .br false, .br true] _ Tryz.func66 rfl (by kernel_rfl) h
theorem qtj (n0 n1 n2 : Int)
  (h : Obs [decide (n0 ≥ n1) = true]) :
  Ret Tryz.prog 119 [.one (I n0), .one (I n1), .one (I n2)] [.one (B (decide (n0 ≤ n2)))] :=
 .of [.br true] _ Tryz.func119 rfl (by kernel_rfl) h
theorem qtk (n0 n1 n2 : Int)
  (h : Obs [decide (n0 ≥ n1) = false]) :
  Ret Tryz.prog 119 [.one (I n0), .one (I n1), .one (I n2)] [.one (B false)] :=
 .of [.br false] _ Tryz.func119 rfl (by kernel_rfl) h
theorem qtl (n0 n1 n2 : Int)
  (h : Obs [decide (n0 ≥ n1) = true]) :
  Ret Tryz.prog 138 [.one (I n0), .one (I n1), .one (I n2)] [.one (B (decide (n0 ≤ n2)))] :=
 .of [.br true] _ Tryz.func138 rfl (by kernel_rfl) h
theorem qtm (n0 n1 n2 : Int)
  (h : Obs [decide (n0 ≥ n1) = false]) :
  Ret Tryz.prog 138 [.one (I n0), .one (I n1), .one (I n2)] [.one (B false)] :=
 .of [.br false] _ Tryz.func138 rfl (by kernel_rfl) h
theorem qtn (n0 n1 : Int)
  (h : Obs [decide (n0 < n1) = true]) :
  Ret Tryz.prog 305 [.one (I n0), .one (I n1)] [.one (I (-1))] :=
 .of [.br true] _ Tryz.func305 rfl (by kernel_rfl) h
theorem qto (n0 n1 : Int)
  (h : Obs [decide (n0 < n1) = false, decide (n0 > n1) = true]) :
  Ret Tryz.prog 305 [.one (I n0), .one (I n1)] [.one (I 1)] :=
 .of [.br false, .br true] _ Tryz.func305 rfl (by kernel_rfl) h
theorem qtp (n0 n1 : Int)
  (h : Obs [decide (n0 < n1) = false, decide (n0 > n1) = false]) :
  Ret Tryz.prog 305 [.one (I n0), .one (I n1)] [.one (I 0)] :=
 .of [.br false, .br false] _ Tryz.func305 rfl (by kernel_rfl) h
theorem qtq (n0 : Int)
  (h : Obs []) :
  Ret Tryz.prog 336 [.one (I n0)] [.one (B (n0 != n0))] :=
 .of [] _ Tryz.func336 rfl (by kernel_rfl) h
theorem qtr (n0 n1 : Int) (b2 b3 : Bool)
  (h : Obs [Ret Tryz.prog 336 [.one (I n0)] [.one (B b2)], Ret Tryz.prog 336 [.one (I n1)] [.one (B b3)], b2 = false, b3 = false, decide (n0 < n1) = true]) :
  Ret Tryz.prog 333 [.one (I n0), .one (I n1)] [.one (I (-1))] :=
 .of [.res [.one (B b2)], .res [.one (B b3)], .br false, .br false, .br true] _ Tryz.func333 rfl (by kernel_rfl) h
theorem qts (n0 n1 : Int) (b2 b3 : Bool)
  (h : Obs [Ret Tryz.prog 336 [.one (I n0)] [.one (B b2)], Ret Tryz.prog 336 [.one (I n1)] [.one (B b3)], b2 = false, b3 = false, decide (n0 < n1) = false, decide (n0 > n1) = true]) :
  Ret Tryz.prog 333 [.one (I n0), .one (I n1)] [.one (I 1)] :=
 .of [.res [.one (B b2)], .res [.one (B b3)], .br false, .br false, .br false, .br true] _ Tryz.func333 rfl (by kernel_rfl) h
theorem qtt (n0 n1 : Int) (b2 b3 : Bool)
  (h : Obs [Ret Tryz.prog 336 [.one (I n0)] [.one (B b2)], Ret Tryz.prog 336 [.one (I n1)] [.one (B b3)], b2 = false, b3 = false, decide (n0 < n1) = false, decide (n0 > n1) = false]) :
  Ret Tryz.prog 333 [.one (I n0), .one (I n1)] [.one (I 0)] :=
 .of [.res [.one (B b2)], .res [.one (B b3)], .br false, .br false, .br false, .br false] _ Tryz.func333 rfl (by kernel_rfl) h
def qdL (l0 l1 : List (List D)) (n2 : Int) : St :=
 { env := envOf 36 [(0, .al (.one (.sl .free 1 l0))), (1, .al (.one (.sl .free 1 l1))), (9, .al (.one (.sl .free 1 l0))), (10, .al (.one (.v (.int .i64 (↑l0.length : Int))))), (11, .al (.one (.v (.int .i64 n2))))], boxes := [] }
def qgn (n0 : Int) : St :=
 { env := envOf 36 [(4, .al (.one (.v (.int .i64 n0))))], boxes := [] }
theorem qtu (l0 l1 : List (List D)) (n2 n3 n4 n5 : Int)
  (h : Obs [decide (n2 < (↑l0.length : Int)) = true, 0 ≤ n2, n2 < (↑l0.length : Int), l0[n2.toNat]? = some [I n3], decide (n2 ≥ (↑l1.length : Int)) = false, 0 ≤ n2, n2 < (↑l1.length : Int), l1[n2.toNat]? = some [I n4], Ret Tryz.prog 333 [.one (I n3), .one (I n4)] [.one (I n5)], (n5 != 0) = true]) :
  Tr Tryz.prog (qaa Tryz.f326 0) (qdL l0 l1 n2) .ret (qgn n5) :=
 .of_loopc (ks := [4]) (bs := []) (ans := [.br true, .el [I n3], .br false, .el [I n4], .res [.one (I n5)], .br true]) (by kernel_rfl) h
theorem qtv (l0 l1 : List (List D)) (n2 n3 n4 n5 : Int)
  (h : Obs [decide (n2 < (↑l0.length : Int)) = true, 0 ≤ n2, n2 < (↑l0.length : Int), l0[n2.toNat]? = some [I n3], decide (n2 ≥ (↑l1.length : Int)) = false, 0 ≤ n2, n2 < (↑l1.length : Int), l1[n2.toNat]? = some [I n4], Ret Tryz.prog 333 [.one (I n3), .one (I n4)] [.one (I n5)], (n5 != 0) = false, inInt .i64 (n2 + 1)]) :
  Tr Tryz.prog (qaa Tryz.f326 0) (qdL l0 l1 n2) .normal (qdL l0 l1 (n2 + 1)) :=
 .of_loopc (ks := [11, 10, 9, 1, 0]) (bs := []) (ans := [.br true, .el [I n3], .br false, .el [I n4], .res [.one (I n5)], .br false]) (by kernel_rfl) h
def qiX (l0 l1 : List (List D)) : St :=
 { env := envOf 36 [(0, .al (.one (.sl .free 1 l0))), (1, .al (.one (.sl .free 1 l1)))], boxes := [] }
theorem qtw (l0 l1 : List (List D)) (n2 : Int)
  (h : Obs [decide (n2 < (↑l0.length : Int)) = false]) :
  Tr Tryz.prog (qaa Tryz.f326 0) (qdL l0 l1 n2) (.exit 0) (qiX l0 l1) :=
 .of_loopc (ks := [0, 1]) (bs := []) (ans := [.br false]) (by kernel_rfl) h
theorem qtx (l0 l1 : List (List D)) (n2 : Int)
  (h : Obs [qac Tryz.prog (qaa Tryz.f326 0) (qdL l0 l1 0) .ret (qgn n2)]) :
  Ret Tryz.prog 326 [.one (.sl 1 l0), .one (.sl 1 l1)] [.one (I n2)] :=
 .of [.loop [] [11, 10, 9, 1, 0] [] .ret (qgn n2)] _ Tryz.func326 rfl (by kernel_rfl) h
theorem qty (l0 l1 : List (List D))
  (h : Obs [qac Tryz.prog (qaa Tryz.f326 0) (qdL l0 l1 0) (.exit 0) (qiX l0 l1), decide ((↑l0.length : Int) < (↑l1.length : Int)) = false]) :
  Ret Tryz.prog 326 [.one (.sl 1 l0), .one (.sl 1 l1)] [.one (I 0)] :=
 .of [.loop [] [11, 10, 9, 1, 0] [] (.exit 0) (qiX l0 l1), .br false] _ Tryz.func326 rfl (by kernel_rfl) h
theorem qtz (l0 l1 : List (List D)) (n2 : Int)
  (h : Obs [Ret Tryz.prog 326 [.one (.sl 1 l0), .one (.sl 1 l1)] [.one (I n2)]]) :
  Ret Tryz.prog 309 [.one (.sl 1 l0), .one (.sl 1 l1)] [.one (I n2)] :=
 .of [.res [.one (I n2)]] _ Tryz.func309 rfl (by kernel_rfl) h
def qdO (l0 : List (List D)) (g1 : Nat) (k2 : List D) (n3 : Int) : St :=
 { env := envOf 19 [(0, .al (.one (.sl .free 4 l0))), (1, .al (.one (.fd (D.cl g1 k2)))), (7, .al (.one (.v (.int .i64 (↑l0.length : Int))))), (8, .al (.one (.v (.int .i64 n3))))], boxes := [] }
def qgp (n0 : Int) : St :=
 { env := envOf 19 [(4, .al (.one (.v (.int .i64 n0))))], boxes := [] }
theorem qt4 (l0 : List (List D)) (g1 : Nat) (k2 : List D) (n3 n4 n5 n6 n7 : Int) (b8 : Bool)
  (h : Obs [decide (n3 < (↑l0.length : Int)) = true, 0 ≤ n3, n3 < (↑l0.length : Int), l0[n3.toNat]? = some [I n4, I n5, I n6, I n7], qbk Tryz.prog g1 = true, Ret Tryz.prog g1 ([.agg [I n4, I n5, I n6, I n7]] ++ List.map .one k2) [.one (B b8)], b8 = true]) :
  Tr Tryz.prog (qaa Tryz.f312 0) (qdO l0 g1 k2 n3) .ret (qgp n3) :=
 .of_loopc (ks := [4]) (bs := []) (ans := [.br true, .el [I n4, I n5, I n6, I n7], .res [.one (B b8)], .br true]) (by kernel_rfl) h
theorem qt5 (l0 : List (List D)) (g1 : Nat) (k2 : List D) (n3 n4 n5 n6 n7 : Int) (b8 : Bool)
  (h : Obs [decide (n3 < (↑l0.length : Int)) = true, 0 ≤ n3, n3 < (↑l0.length : Int), l0[n3.toNat]? = some [I n4, I n5, I n6, I n7], qbk Tryz.prog g1 = true, Ret Tryz.prog g1 ([.agg [I n4, I n5, I n6, I n7]] ++ List.map .one k2) [.one (B b8)], b8 = false, inInt .i64 (n3 + 1)]) :
  Tr Tryz.prog (qaa Tryz.f312 0) (qdO l0 g1 k2 n3) .normal (qdO l0 g1 k2 (n3 + 1)) :=
 .of_loopc (ks := [8, 7, 1, 0]) (bs := []) (ans := [.br true, .el [I n4, I n5, I n6, I n7], .res [.one (B b8)], .br false]) (by kernel_rfl) h
def qi4 : St :=
 { env := envOf 19 [], boxes := [] }
theorem qt6 (l0 : List (List D)) (g1 : Nat) (k2 : List D) (n3 : Int)
  (h : Obs [decide (n3 < (↑l0.length : Int)) = false]) :
  Tr Tryz.prog (qaa Tryz.f312 0) (qdO l0 g1 k2 n3) (.exit 0) qi4 :=
 .of_loopc (ks := []) (bs := []) (ans := [.br false]) (by kernel_rfl) h
theorem qt7 (l0 : List (List D)) (g1 : Nat) (k2 : List D) (n3 : Int)
  (h : Obs [qac Tryz.prog (qaa Tryz.f312 0) (qdO l0 g1 k2 0) .ret (qgp n3)]) :
  Ret Tryz.prog 312 [.one (.sl 4 l0), .one (.cl g1 k2)] [.one (I n3)] :=
 .of [.loop [] [8, 7, 1, 0] [] .ret (qgp n3)] _ Tryz.func312 rfl (by kernel_rfl) h
theorem qt8 (l0 : List (List D)) (g1 : Nat) (k2 : List D)
  (h : Obs [qac Tryz.prog (qaa Tryz.f312 0) (qdO l0 g1 k2 0) (.exit 0) qi4]) :
  Ret Tryz.prog 312 [.one (.sl 4 l0), .one (.cl g1 k2)] [.one (I (-1))] :=
 .of [.loop [] [8, 7, 1, 0] [] (.exit 0) qi4] _ Tryz.func312 rfl (by kernel_rfl) h
end Go.Proofs.YtialmplmfcahpaaGreat
