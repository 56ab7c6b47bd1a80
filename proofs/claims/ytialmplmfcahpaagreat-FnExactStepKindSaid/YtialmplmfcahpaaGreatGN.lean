import Derived.Test.YtialmplmfcahpaaGreatRows
import Derived.Test.YtialmplmfcahpaaGreatR22
set_option linter.unusedVariables false
set_option linter.unusedSimpArgs false
namespace Go.Proofs.YtialmplmfcahpaaGreat
open Go.Sx Go.RowKit Go.Proofs.Tryz
def qdJ (l0 : List (List D)) (n1 n2 n3 n4 n5 n6 : Int) : St :=
 { env := envOf 19 [(0, .al (.one (.sl .free 5 l0))), (3, .al (.one (.ptr 3 0))), (7, .al (.one (.v (.int .i64 (l0.length : Int))))), (8, .al (.one (.v (.int .i64 n6))))], boxes := [(3, [.v (.int .i64 n1), .v (.int .i64 n2), .v (.int .i64 n3), .v (.int .i64 n4), .v (.int .i64 n5)])] }
def qgm (n0 : Int) : St :=
 { env := envOf 19 [(4, .al (.one (.v (.int .i64 n0))))], boxes := [] }
theorem qsU (l0 : List (List D)) (n1 n2 n3 n4 n5 n6 n7 n8 n9 n10 n11 : Int)
  (h : Obs [decide (n6 < (l0.length : Int)) = true, 0 ≤ n6, n6 < (l0.length : Int), l0[n6.toNat]? = some [I n7, I n8, I n9, I n10, I n11], (n1 == n7 && (n2 == n8 && n3 == n9 && (n4 == n10 && n5 == n11))) = true]) :
  Tr prog (qaa f171 0) (qdJ l0 n1 n2 n3 n4 n5 n6) .ret (qgm n6) :=
 .of_loopc (ks := [4]) (bs := []) (ans := [.br true, .el [I n7, I n8, I n9, I n10, I n11], .br true]) (by kernel_rfl) h
theorem qsV (l0 : List (List D)) (n1 n2 n3 n4 n5 n6 n7 n8 n9 n10 n11 : Int)
  (h : Obs [decide (n6 < (l0.length : Int)) = true, 0 ≤ n6, n6 < (l0.length : Int), l0[n6.toNat]? = some [I n7, I n8, I n9, I n10, I n11], (n1 == n7 && (n2 == n8 && n3 == n9 && (n4 == n10 && n5 == n11))) = false, inInt .i64 (n6 + 1)]) :
  Tr prog (qaa f171 0) (qdJ l0 n1 n2 n3 n4 n5 n6) .normal (qdJ l0 n1 n2 n3 n4 n5 (n6 + 1)) :=
 .of_loopc (ks := [8, 7, 3, 0]) (bs := [3]) (ans := [.br true, .el [I n7, I n8, I n9, I n10, I n11], .br false]) (by kernel_rfl) h
def qiV : St :=
 { env := envOf 19 [], boxes := [] }
theorem qsW (l0 : List (List D)) (n1 n2 n3 n4 n5 n6 : Int)
  (h : Obs [decide (n6 < (l0.length : Int)) = false]) :
  Tr prog (qaa f171 0) (qdJ l0 n1 n2 n3 n4 n5 n6) (.exit 0) qiV :=
 .of_loopc (ks := []) (bs := []) (ans := [.br false]) (by kernel_rfl) h
theorem qsX (l0 : List (List D)) (n1 n2 n3 n4 n5 n6 : Int)
  (h : Obs [qac prog (qaa f171 0) (qdJ l0 n1 n2 n3 n4 n5 0) .ret (qgm n6)]) :
  Ret prog 171 [.one (.sl 5 l0), .agg [I n1, I n2, I n3, I n4, I n5]] [.one (I n6)] :=
 .of [.loop [] [8, 7, 3, 0] [3] .ret (qgm n6)] _ func171 rfl (by kernel_rfl) h
theorem qsY (l0 : List (List D)) (n1 n2 n3 n4 n5 : Int)
  (h : Obs [qac prog (qaa f171 0) (qdJ l0 n1 n2 n3 n4 n5 0) (.exit 0) qiV]) :
  Ret prog 171 [.one (.sl 5 l0), .agg [I n1, I n2, I n3, I n4, I n5]] [.one (I (-1))] :=
 .of [.loop [] [8, 7, 3, 0] [3] (.exit 0) qiV] _ func171 rfl (by kernel_rfl) h
def qdK (l0 : List (List D)) (n1 n2 n3 n4 n5 n6 : Int) : St :=
 { env := envOf 31 [(0, .al (.one (.sl .free 5 l0))), (3, .al (.one (.ptr 3 0))), (5, .al (.one (.v (.int .i64 n6))))], boxes := [(3, [.v (.int .i64 n1), .v (.int .i64 n2), .v (.int .i64 n3), .v (.int .i64 n4), .v (.int .i64 n5)])] }
def qfi (l0 : List (List D)) : St :=
 { env := envOf 31 [(4, .al (.one (.sl (.own 18) 5 l0)))], boxes := [] }
theorem qsZ (l0 : List (List D)) (n1 n2 n3 n4 n5 n6 n7 n8 n9 n10 n11 : Int)
  (h : Obs [decide (n6 < (l0.length : Int)) = true, 0 ≤ n6, n6 < (l0.length : Int), l0[n6.toNat]? = some [I n7, I n8, I n9, I n10, I n11], (n7 == n1 && (n8 == n2 && n9 == n3 && (n10 == n4 && n11 == n5))) = true, (0 : Int) ≤ none.getD 0, none.getD 0 ≤ (some n6).getD (l0.length : Int), (some n6).getD (l0.length : Int) ≤ (l0.length : Int), (([] : List (List D)).length + (List.take (((some n6).getD (l0.length : Int)).toNat - 0) (List.drop 0 l0)).length) * 40 ≤ 140737488355328, ([] : List (List D)).length + (List.take (((some n6).getD (l0.length : Int)).toNat - 0) (List.drop 0 l0)).length ≤ 9223372036854775807, Flat (List.take (((some n6).getD (l0.length : Int)).toNat - 0) (List.drop 0 l0)), inInt .i64 (n6 + 1), 0 ≤ (some (n6 + 1)).getD 0, (some (n6 + 1)).getD 0 ≤ none.getD (l0.length : Int), none.getD (l0.length : Int) ≤ (l0.length : Int), (([] ++ List.take (((some n6).getD (l0.length : Int)).toNat - 0) (List.drop 0 l0)).length + (List.take (l0.length - ((some (n6 + 1)).getD 0).toNat) (List.drop ((some (n6 + 1)).getD 0).toNat l0)).length) * 40 ≤ 140737488355328, ([] ++ List.take (((some n6).getD (l0.length : Int)).toNat - 0) (List.drop 0 l0)).length + (List.take (l0.length - ((some (n6 + 1)).getD 0).toNat) (List.drop ((some (n6 + 1)).getD 0).toNat l0)).length ≤ 9223372036854775807, Flat (List.take (l0.length - ((some (n6 + 1)).getD 0).toNat) (List.drop ((some (n6 + 1)).getD 0).toNat l0))]) :
  Tr prog (qaa f83 0) (qdK l0 n1 n2 n3 n4 n5 n6) .ret (qfi ([] ++ List.take (((some n6).getD (l0.length : Int)).toNat - 0) (List.drop 0 l0) ++ List.take (l0.length - ((some (n6 + 1)).getD 0).toNat) (List.drop ((some (n6 + 1)).getD 0).toNat l0))) :=
 .of_loopc (ks := [4]) (bs := []) (ans := [.br true, .el [I n7, I n8, I n9, I n10, I n11], .br true]) (by kernel_rfl) h
theorem qs0 (l0 : List (List D)) (n1 n2 n3 n4 n5 n6 n7 n8 n9 n10 n11 : Int)
  (h : Obs [decide (n6 < (l0.length : Int)) = true, 0 ≤ n6, n6 < (l0.length : Int), l0[n6.toNat]? = some [I n7, I n8, I n9, I n10, I n11], (n7 == n1 && (n8 == n2 && n9 == n3 && (n10 == n4 && n11 == n5))) = false, inInt .i64 (n6 + 1)]) :
  Tr prog (qaa f83 0) (qdK l0 n1 n2 n3 n4 n5 n6) .normal (qdK l0 n1 n2 n3 n4 n5 (n6 + 1)) :=
 .of_loopc (ks := [5, 0, 3]) (bs := [3]) (ans := [.br true, .el [I n7, I n8, I n9, I n10, I n11], .br false]) (by kernel_rfl) h
def qiW (l0 : List (List D)) : St :=
 { env := envOf 31 [(0, .al (.one (.sl .free 5 l0)))], boxes := [] }
theorem qs1 (l0 : List (List D)) (n1 n2 n3 n4 n5 n6 : Int)
  (h : Obs [decide (n6 < (l0.length : Int)) = false]) :
  Tr prog (qaa f83 0) (qdK l0 n1 n2 n3 n4 n5 n6) (.exit 0) (qiW l0) :=
 .of_loopc (ks := [0]) (bs := []) (ans := [.br false]) (by kernel_rfl) h
theorem qs2 (l0 : List (List D)) (n1 n2 n3 n4 n5 : Int) (l6 : List (List D))
  (h : Obs [qac prog (qaa f83 0) (qdK l0 n1 n2 n3 n4 n5 0) .ret (qfi l6)]) :
  Ret prog 83 [.one (.sl 5 l0), .agg [I n1, I n2, I n3, I n4, I n5]] [.one (.sl 5 l6)] :=
 .of [.loop [] [5, 0, 3] [3] .ret (qfi l6)] _ func83 rfl (by kernel_rfl) h
theorem qs3 (l0 : List (List D)) (n1 n2 n3 n4 n5 : Int)
  (h : Obs [qac prog (qaa f83 0) (qdK l0 n1 n2 n3 n4 n5 0) (.exit 0) (qiW l0), (([] : List (List D)).length + l0.length) * 40 ≤ 140737488355328, ([] : List (List D)).length + l0.length ≤ 9223372036854775807, Flat l0]) :
  Ret prog 83 [.one (.sl 5 l0), .agg [I n1, I n2, I n3, I n4, I n5]] [.one (.sl 5 ([] ++ l0))] :=
 .of [.loop [] [5, 0, 3] [3] (.exit 0) (qiW l0)] _ func83 rfl (by kernel_rfl) h
theorem qs4 (l0 : List (List D)) (n1 n2 n3 n4 n5 : Int) (l6 : List (List D)) (n7 : Int) (l9 : List (List D))
  (h : Obs [Ret prog 170 [.one (.sl 5 l0)] [.one (.sl 5 l6)], Ret prog 171 [.one (.sl 5 l0), .agg [I n1, I n2, I n3, I n4, I n5]] [.one (I n7)], decide (n7 ≥ 0) = true, inInt .i64 (n7 + 1), RetG prog 172 [GA.one (GC.gv 5 l6 none), GA.one (GC.ro (I n7)), GA.one (GC.ro (I (n7 + 1)))] [.one (.sl 5 l9)]]) :
  Ret prog 88 [.one (.sl 5 l0), .agg [I n1, I n2, I n3, I n4, I n5]] [.one (.sl 5 l9)] :=
 .of [.res [.one (.sl 5 l6)], .res [.one (I n7)], .br true, .resG [[some none], [none], [none]] 0 [] [.one (.sl 5 l9)]] _ func88 rfl (by kernel_rfl) h
theorem qs5 (l0 : List (List D)) (n1 n2 n3 n4 n5 : Int) (l6 : List (List D)) (n7 : Int)
  (h : Obs [Ret prog 170 [.one (.sl 5 l0)] [.one (.sl 5 l6)], Ret prog 171 [.one (.sl 5 l0), .agg [I n1, I n2, I n3, I n4, I n5]] [.one (I n7)], decide (n7 ≥ 0) = false]) :
  Ret prog 88 [.one (.sl 5 l0), .agg [I n1, I n2, I n3, I n4, I n5]] [.one (.sl 5 l6)] :=
 .of [.res [.one (.sl 5 l6)], .res [.one (I n7)], .br false] _ func88 rfl (by kernel_rfl) h
theorem qs6 (l0 : List (List D))
  (h : Obs [(([] : List (List D)).length + l0.length) * 40 ≤ 140737488355328, ([] : List (List D)).length + l0.length ≤ 9223372036854775807, Flat l0]) :
  Ret prog 170 [.one (.sl 5 l0)] [.one (.sl 5 ([] ++ l0))] :=
 .of [] _ func170 rfl (by kernel_rfl) h
theorem qs7 (l0 : List (List D)) (n1 n2 : Int) (l3 l4 l5 l6 : List (List D)) (n7 n8 n9 : Int) (b10 : Bool)
  (h : Obs [inInt .i64 ((l3.length : Int) - 1), Ret prog 138 [.one (I n8), .one (I 0), .one (I ((l3.length : Int) - 1))] [.one (B b10)], (!b10) = true]) :
  Ret prog 59 [.agg [D.sl 4 l0, I n1, I n2, D.sl 8 l3, D.sl 6 l4, D.sl 5 l5, D.sl 3 l6], .agg [I n7, I n8, I n9]] [.agg [I 0, I 0, I 0, I 0, I 0], .one (B false)] :=
 .of [.res [.one (B b10)], .br true] _ func59 rfl (by kernel_rfl) h
theorem qs8 (l0 : List (List D)) (n1 n2 : Int) (l3 l4 l5 l6 : List (List D)) (n7 n8 n9 : Int) (b10 : Bool) (l11 l12 l13 l14 l15 l16 l17 l18 : List (List D)) (n19 n20 n21 n22 n23 : Int)
  (h : Obs [inInt .i64 ((l3.length : Int) - 1), Ret prog 138 [.one (I n8), .one (I 0), .one (I ((l3.length : Int) - 1))] [.one (B b10)], (!b10) = false, 0 ≤ n8, n8 < (l3.length : Int), l3[n8.toNat]? = some [D.sl 5 l11, D.sl 5 l12, D.sl 5 l13, D.sl 4 l14, D.sl 1 l15, D.sl 1 l16, D.sl 1 l17, D.sl 2 l18], (n7 == 2) = true, decide ((l13.length : Int) > 0) = true, (0 : Int) ≤ 0, 0 < (l13.length : Int), l13[0]? = some [I n19, I n20, I n21, I n22, I n23]]) :
  Ret prog 59 [.agg [D.sl 4 l0, I n1, I n2, D.sl 8 l3, D.sl 6 l4, D.sl 5 l5, D.sl 3 l6], .agg [I n7, I n8, I n9]] [.agg [I n19, I n20, I n21, I n22, I n23], .one (B true)] :=
 .of [.res [.one (B b10)], .br false, .el [D.sl 5 l11, D.sl 5 l12, D.sl 5 l13, D.sl 4 l14, D.sl 1 l15, D.sl 1 l16, D.sl 1 l17, D.sl 2 l18], .br true, .br true, .el [I n19, I n20, I n21, I n22, I n23]] _ func59 rfl (by kernel_rfl) h
theorem qs9 (l0 : List (List D)) (n1 n2 : Int) (l3 l4 l5 l6 : List (List D)) (n7 n8 n9 : Int) (b10 : Bool) (l11 l12 l13 l14 l15 l16 l17 l18 : List (List D))
  (h : Obs [inInt .i64 ((l3.length : Int) - 1), Ret prog 138 [.one (I n8), .one (I 0), .one (I ((l3.length : Int) - 1))] [.one (B b10)], (!b10) = false, 0 ≤ n8, n8 < (l3.length : Int), l3[n8.toNat]? = some [D.sl 5 l11, D.sl 5 l12, D.sl 5 l13, D.sl 4 l14, D.sl 1 l15, D.sl 1 l16, D.sl 1 l17, D.sl 2 l18], (n7 == 2) = true, decide ((l13.length : Int) > 0) = false, (n7 == 1) = false]) :
  Ret prog 59 [.agg [D.sl 4 l0, I n1, I n2, D.sl 8 l3, D.sl 6 l4, D.sl 5 l5, D.sl 3 l6], .agg [I n7, I n8, I n9]] [.agg [I 0, I 0, I 0, I 0, I 0], .one (B false)] :=
 .of [.res [.one (B b10)], .br false, .el [D.sl 5 l11, D.sl 5 l12, D.sl 5 l13, D.sl 4 l14, D.sl 1 l15, D.sl 1 l16, D.sl 1 l17, D.sl 2 l18], .br true, .br false, .br false] _ func59 rfl (by kernel_rfl) h
theorem qta (l0 : List (List D)) (n1 n2 : Int) (l3 l4 l5 l6 : List (List D)) (n7 n8 n9 : Int) (b10 : Bool) (l11 l12 l13 l14 l15 l16 l17 l18 : List (List D)) (n19 n20 n21 n22 n23 : Int)
  (h : Obs [inInt .i64 ((l3.length : Int) - 1), Ret prog 138 [.one (I n8), .one (I 0), .one (I ((l3.length : Int) - 1))] [.one (B b10)], (!b10) = false, 0 ≤ n8, n8 < (l3.length : Int), l3[n8.toNat]? = some [D.sl 5 l11, D.sl 5 l12, D.sl 5 l13, D.sl 4 l14, D.sl 1 l15, D.sl 1 l16, D.sl 1 l17, D.sl 2 l18], (n7 == 2) = false, (n7 == 1) = true, decide ((l11.length : Int) > 0) = true, (0 : Int) ≤ 0, 0 < (l11.length : Int), l11[0]? = some [I n19, I n20, I n21, I n22, I n23]]) :
  Ret prog 59 [.agg [D.sl 4 l0, I n1, I n2, D.sl 8 l3, D.sl 6 l4, D.sl 5 l5, D.sl 3 l6], .agg [I n7, I n8, I n9]] [.agg [I n19, I n20, I n21, I n22, I n23], .one (B true)] :=
 .of [.res [.one (B b10)], .br false, .el [D.sl 5 l11, D.sl 5 l12, D.sl 5 l13, D.sl 4 l14, D.sl 1 l15, D.sl 1 l16, D.sl 1 l17, D.sl 2 l18], .br false, .br true, .br true, .el [I n19, I n20, I n21, I n22, I n23]] _ func59 rfl (by kernel_rfl) h
theorem qtb (l0 : List (List D)) (n1 n2 : Int) (l3 l4 l5 l6 : List (List D)) (n7 n8 n9 : Int) (b10 : Bool) (l11 l12 l13 l14 l15 l16 l17 l18 : List (List D))
  (h : Obs [inInt .i64 ((l3.length : Int) - 1), Ret prog 138 [.one (I n8), .one (I 0), .one (I ((l3.length : Int) - 1))] [.one (B b10)], (!b10) = false, 0 ≤ n8, n8 < (l3.length : Int), l3[n8.toNat]? = some [D.sl 5 l11, D.sl 5 l12, D.sl 5 l13, D.sl 4 l14, D.sl 1 l15, D.sl 1 l16, D.sl 1 l17, D.sl 2 l18], (n7 == 2) = false, (n7 == 1) = true, decide ((l11.length : Int) > 0) = false]) :
  Ret prog 59 [.agg [D.sl 4 l0, I n1, I n2, D.sl 8 l3, D.sl 6 l4, D.sl 5 l5, D.sl 3 l6], .agg [I n7, I n8, I n9]] [.agg [I 0, I 0, I 0, I 0, I 0], .one (B false)] :=
 .of [.res [.one (B b10)], .br false, .el [D.sl 5 l11, D.sl 5 l12, D.sl 5 l13, D.sl 4 l14, D.sl 1 l15, D.sl 1 l16, D.sl 1 l17, D.sl 2 l18], .br false, .br true, .br false] _ func59 rfl (by kernel_rfl) h
theorem qtc (l0 : List (List D)) (n1 n2 : Int) (l3 l4 l5 l6 : List (List D)) (n7 n8 n9 : Int) (b10 : Bool) (l11 l12 l13 l14 l15 l16 l17 l18 : List (List D))
  (h : Obs [inInt .i64 ((l3.length : Int) - 1), Ret prog 138 [.one (I n8), .one (I 0), .one (I ((l3.length : Int) - 1))] [.one (B b10)], (!b10) = false, 0 ≤ n8, n8 < (l3.length : Int), l3[n8.toNat]? = some [D.sl 5 l11, D.sl 5 l12, D.sl 5 l13, D.sl 4 l14, D.sl 1 l15, D.sl 1 l16, D.sl 1 l17, D.sl 2 l18], (n7 == 2) = false, (n7 == 1) = false]) :
  Ret prog 59 [.agg [D.sl 4 l0, I n1, I n2, D.sl 8 l3, D.sl 6 l4, D.sl 5 l5, D.sl 3 l6], .agg [I n7, I n8, I n9]] [.agg [I 0, I 0, I 0, I 0, I 0], .one (B false)] :=
 .of [.res [.one (B b10)], .br false, .el [D.sl 5 l11, D.sl 5 l12, D.sl 5 l13, D.sl 4 l14, D.sl 1 l15, D.sl 1 l16, D.sl 1 l17, D.sl 2 l18], .br false, .br false] _ func59 rfl (by kernel_rfl) h
theorem qtd (l0 : List (List D)) (n1 n2 : Int) (l3 l4 l5 l6 : List (List D)) (n7 n8 n9 : Int) (b10 : Bool)
  (h : Obs [inInt .i64 ((l3.length : Int) - 1), Ret prog 119 [.one (I n8), .one (I 0), .one (I ((l3.length : Int) - 1))] [.one (B b10)], (!b10) = true]) :
  Ret prog 66 [.agg [D.sl 4 l0, I n1, I n2, D.sl 8 l3, D.sl 6 l4, D.sl 5 l5, D.sl 3 l6], .agg [I n7, I n8, I n9]] [.agg [I 0, I 0, I 0, I 0, I 0], .one (B false)] :=
 .of [.res [.one (B b10)], .br true] _ func66 rfl (by kernel_rfl) h
theorem qte (l0 : List (List D)) (n1 n2 : Int) (l3 l4 l5 l6 : List (List D)) (n7 n8 n9 : Int) (b10 : Bool) (l11 l12 l13 l14 l15 l16 l17 l18 : List (List D))
  (h : Obs [inInt .i64 ((l3.length : Int) - 1), Ret prog 119 [.one (I n8), .one (I 0), .one (I ((l3.length : Int) - 1))] [.one (B b10)], (!b10) = false, (n7 == 2) = true, 0 ≤ n8, n8 < (l3.length : Int), l3[n8.toNat]? = some [D.sl 5 l11, D.sl 5 l12, D.sl 5 l13, D.sl 4 l14, D.sl 1 l15, D.sl 1 l16, D.sl 1 l17, D.sl 2 l18], ((l13.length : Int) == 0) = true]) :
  Ret prog 66 [.agg [D.sl 4 l0, I n1, I n2, D.sl 8 l3, D.sl 6 l4, D.sl 5 l5, D.sl 3 l6], .agg [I n7, I n8, I n9]] [.agg [I 0, I 0, I 0, I 0, I 0], .one (B false)] :=
 .of [.res [.one (B b10)], .br false, .br true, .el [D.sl 5 l11, D.sl 5 l12, D.sl 5 l13, D.sl 4 l14, D.sl 1 l15, D.sl 1 l16, D.sl 1 l17, D.sl 2 l18], .br true] _ func66 rfl (by kernel_rfl) h
theorem qtf (l0 : List (List D)) (n1 n2 : Int) (l3 l4 l5 l6 : List (List D)) (n7 n8 n9 : Int) (b10 : Bool) (l11 l12 l13 l14 l15 l16 l17 l18 : List (List D)) (n19 n20 n21 n22 n23 : Int)
  (h : Obs [inInt .i64 ((l3.length : Int) - 1), Ret prog 119 [.one (I n8), .one (I 0), .one (I ((l3.length : Int) - 1))] [.one (B b10)], (!b10) = false, (n7 == 2) = true, 0 ≤ n8, n8 < (l3.length : Int), l3[n8.toNat]? = some [D.sl 5 l11, D.sl 5 l12, D.sl 5 l13, D.sl 4 l14, D.sl 1 l15, D.sl 1 l16, D.sl 1 l17, D.sl 2 l18], ((l13.length : Int) == 0) = false, (0 : Int) ≤ 0, 0 < (l13.length : Int), l13[0]? = some [I n19, I n20, I n21, I n22, I n23]]) :
  Ret prog 66 [.agg [D.sl 4 l0, I n1, I n2, D.sl 8 l3, D.sl 6 l4, D.sl 5 l5, D.sl 3 l6], .agg [I n7, I n8, I n9]] [.agg [I n19, I n20, I n21, I n22, I n23], .one (B true)] :=
 .of [.res [.one (B b10)], .br false, .br true, .el [D.sl 5 l11, D.sl 5 l12, D.sl 5 l13, D.sl 4 l14, D.sl 1 l15, D.sl 1 l16, D.sl 1 l17, D.sl 2 l18], .br false, .el [I n19, I n20, I n21, I n22, I n23]] _ func66 rfl (by kernel_rfl) h
theorem qtg (l0 : List (List D)) (n1 n2 : Int) (l3 l4 l5 l6 : List (List D)) (n7 n8 n9 : Int) (b10 : Bool) (l11 l12 l13 l14 l15 l16 l17 l18 : List (List D))
  (h : Obs [inInt .i64 ((l3.length : Int) - 1), Ret prog 119 [.one (I n8), .one (I 0), .one (I ((l3.length : Int) - 1))] [.one (B b10)], (!b10) = false, (n7 == 2) = false, (n7 == 1) = true, 0 ≤ n8, n8 < (l3.length : Int), l3[n8.toNat]? = some [D.sl 5 l11, D.sl 5 l12, D.sl 5 l13, D.sl 4 l14, D.sl 1 l15, D.sl 1 l16, D.sl 1 l17, D.sl 2 l18], ((l11.length : Int) == 0) = true]) :
  Ret prog 66 [.agg [D.sl 4 l0, I n1, I n2, D.sl 8 l3, D.sl 6 l4, D.sl 5 l5, D.sl 3 l6], .agg [I n7, I n8, I n9]] [.agg [I 0, I 0, I 0, I 0, I 0], .one (B false)] :=
 .of [.res [.one (B b10)], .br false, .br false, .br true, .el [D.sl 5 l11, D.sl 5 l12, D.sl 5 l13, D.sl 4 l14, D.sl 1 l15, D.sl 1 l16, D.sl 1 l17, D.sl 2 l18], .br true] _ func66 rfl (by kernel_rfl) h
theorem qth (l0 : List (List D)) (n1 n2 : Int) (l3 l4 l5 l6 : List (List D)) (n7 n8 n9 : Int) (b10 : Bool) (l11 l12 l13 l14 l15 l16 l17 l18 : List (List D)) (n19 n20 n21 n22 n23 : Int)
  (h : Obs [inInt .i64 ((l3.length : Int) - 1), Ret prog 119 [.one (I n8), .one (I 0), .one (I ((l3.length : Int) - 1))] [.one (B b10)], (!b10) = false, (n7 == 2) = false, (n7 == 1) = true, 0 ≤ n8, n8 < (l3.length : Int), l3[n8.toNat]? = some [D.sl 5 l11, D.sl 5 l12, D.sl 5 l13, D.sl 4 l14, D.sl 1 l15, D.sl 1 l16, D.sl 1 l17, D.sl 2 l18], ((l11.length : Int) == 0) = false, (0 : Int) ≤ 0, 0 < (l11.length : Int), l11[0]? = some [I n19, I n20, I n21, I n22, I n23]]) :
  Ret prog 66 [.agg [D.sl 4 l0, I n1, I n2, D.sl 8 l3, D.sl 6 l4, D.sl 5 l5, D.sl 3 l6], .agg [I n7, I n8, I n9]] [.agg [I n19, I n20, I n21, I n22, I n23], .one (B true)] :=
 .of [.res [.one (B b10)], .br false, .br false, .br true, .el [D.sl 5 l11, D.sl 5 l12, D.sl 5 l13, D.sl 4 l14, D.sl 1 l15, D.sl 1 l16, D.sl 1 l17, D.sl 2 l18], .br false, .el [I n19, I n20, I n21, I n22, I n23]] _ func66 rfl (by kernel_rfl) h
theorem qti (l0 : List (List D)) (n1 n2 : Int) (l3 l4 l5 l6 : List (List D)) (n7 n8 n9 : Int) (b10 : Bool)
  (h : Obs [inInt .i64 ((l3.length : Int) - 1), Ret prog 119 [.one (I n8), .one (I 0), .one (I ((l3.length : Int) - 1))] [.one (B b10)], (!b10) = false, (n7 == 2) = false, (n7 == 1) = false, true = true]) :
  Ret prog 66 [.agg [D.sl 4 l0, I n1, I n2, D.sl 8 l3, D.sl 6 l4, D.sl 5 l5, D.sl 3 l6], .agg [I n7, I n8, I n9]] [.agg [I 0, I 0, I 0, I 0, I 0], .one (B false)] :=
 .of [.res [.one (B b10)], .br false, .br false, .br false, .br true] _ func66 rfl (by kernel_rfl) h
theorem qtj (n0 n1 n2 : Int)
  (h : Obs [decide (n0 ≥ n1) = true]) :
  Ret prog 119 [.one (I n0), .one (I n1), .one (I n2)] [.one (B (decide (n0 ≤ n2)))] :=
 .of [.br true] _ func119 rfl (by kernel_rfl) h
theorem qtk (n0 n1 n2 : Int)
  (h : Obs [decide (n0 ≥ n1) = false]) :
  Ret prog 119 [.one (I n0), .one (I n1), .one (I n2)] [.one (B false)] :=
 .of [.br false] _ func119 rfl (by kernel_rfl) h
theorem qtl (n0 n1 n2 : Int)
  (h : Obs [decide (n0 ≥ n1) = true]) :
  Ret prog 138 [.one (I n0), .one (I n1), .one (I n2)] [.one (B (decide (n0 ≤ n2)))] :=
 .of [.br true] _ func138 rfl (by kernel_rfl) h
theorem qtm (n0 n1 n2 : Int)
  (h : Obs [decide (n0 ≥ n1) = false]) :
  Ret prog 138 [.one (I n0), .one (I n1), .one (I n2)] [.one (B false)] :=
 .of [.br false] _ func138 rfl (by kernel_rfl) h
theorem qtn (n0 n1 : Int)
  (h : Obs [decide (n0 < n1) = true]) :
  Ret prog 305 [.one (I n0), .one (I n1)] [.one (I (-1))] :=
 .of [.br true] _ func305 rfl (by kernel_rfl) h
theorem qto (n0 n1 : Int)
  (h : Obs [decide (n0 < n1) = false, decide (n0 > n1) = true]) :
  Ret prog 305 [.one (I n0), .one (I n1)] [.one (I 1)] :=
 .of [.br false, .br true] _ func305 rfl (by kernel_rfl) h
theorem qtp (n0 n1 : Int)
  (h : Obs [decide (n0 < n1) = false, decide (n0 > n1) = false]) :
  Ret prog 305 [.one (I n0), .one (I n1)] [.one (I 0)] :=
 .of [.br false, .br false] _ func305 rfl (by kernel_rfl) h
theorem qtq (n0 : Int)
  (h : Obs []) :
  Ret prog 336 [.one (I n0)] [.one (B (n0 != n0))] :=
 .of [] _ func336 rfl (by kernel_rfl) h
theorem qtr (n0 n1 : Int) (b2 b3 : Bool)
  (h : Obs [Ret prog 336 [.one (I n0)] [.one (B b2)], Ret prog 336 [.one (I n1)] [.one (B b3)], b2 = false, b3 = false, decide (n0 < n1) = true]) :
  Ret prog 333 [.one (I n0), .one (I n1)] [.one (I (-1))] :=
 .of [.res [.one (B b2)], .res [.one (B b3)], .br false, .br false, .br true] _ func333 rfl (by kernel_rfl) h
theorem qts (n0 n1 : Int) (b2 b3 : Bool)
  (h : Obs [Ret prog 336 [.one (I n0)] [.one (B b2)], Ret prog 336 [.one (I n1)] [.one (B b3)], b2 = false, b3 = false, decide (n0 < n1) = false, decide (n0 > n1) = true]) :
  Ret prog 333 [.one (I n0), .one (I n1)] [.one (I 1)] :=
 .of [.res [.one (B b2)], .res [.one (B b3)], .br false, .br false, .br false, .br true] _ func333 rfl (by kernel_rfl) h
theorem qtt (n0 n1 : Int) (b2 b3 : Bool)
  (h : Obs [Ret prog 336 [.one (I n0)] [.one (B b2)], Ret prog 336 [.one (I n1)] [.one (B b3)], b2 = false, b3 = false, decide (n0 < n1) = false, decide (n0 > n1) = false]) :
  Ret prog 333 [.one (I n0), .one (I n1)] [.one (I 0)] :=
 .of [.res [.one (B b2)], .res [.one (B b3)], .br false, .br false, .br false, .br false] _ func333 rfl (by kernel_rfl) h
def qdL (l0 l1 : List (List D)) (n2 : Int) : St :=
 { env := envOf 36 [(0, .al (.one (.sl .free 1 l0))), (1, .al (.one (.sl .free 1 l1))), (9, .al (.one (.sl .free 1 l0))), (10, .al (.one (.v (.int .i64 (l0.length : Int))))), (11, .al (.one (.v (.int .i64 n2))))], boxes := [] }
def qgn (n0 : Int) : St :=
 { env := envOf 36 [(4, .al (.one (.v (.int .i64 n0))))], boxes := [] }
theorem qtu (l0 l1 : List (List D)) (n2 n3 n4 n5 : Int)
  (h : Obs [decide (n2 < (l0.length : Int)) = true, 0 ≤ n2, n2 < (l0.length : Int), l0[n2.toNat]? = some [I n3], decide (n2 ≥ (l1.length : Int)) = false, 0 ≤ n2, n2 < (l1.length : Int), l1[n2.toNat]? = some [I n4], Ret prog 333 [.one (I n3), .one (I n4)] [.one (I n5)], (n5 != 0) = true]) :
  Tr prog (qaa f326 0) (qdL l0 l1 n2) .ret (qgn n5) :=
 .of_loopc (ks := [4]) (bs := []) (ans := [.br true, .el [I n3], .br false, .el [I n4], .res [.one (I n5)], .br true]) (by kernel_rfl) h
theorem qtv (l0 l1 : List (List D)) (n2 n3 n4 n5 : Int)
  (h : Obs [decide (n2 < (l0.length : Int)) = true, 0 ≤ n2, n2 < (l0.length : Int), l0[n2.toNat]? = some [I n3], decide (n2 ≥ (l1.length : Int)) = false, 0 ≤ n2, n2 < (l1.length : Int), l1[n2.toNat]? = some [I n4], Ret prog 333 [.one (I n3), .one (I n4)] [.one (I n5)], (n5 != 0) = false, inInt .i64 (n2 + 1)]) :
  Tr prog (qaa f326 0) (qdL l0 l1 n2) .normal (qdL l0 l1 (n2 + 1)) :=
 .of_loopc (ks := [11, 10, 9, 1, 0]) (bs := []) (ans := [.br true, .el [I n3], .br false, .el [I n4], .res [.one (I n5)], .br false]) (by kernel_rfl) h
def qiX (l0 l1 : List (List D)) : St :=
 { env := envOf 36 [(0, .al (.one (.sl .free 1 l0))), (1, .al (.one (.sl .free 1 l1)))], boxes := [] }
theorem qtw (l0 l1 : List (List D)) (n2 : Int)
  (h : Obs [decide (n2 < (l0.length : Int)) = false]) :
  Tr prog (qaa f326 0) (qdL l0 l1 n2) (.exit 0) (qiX l0 l1) :=
 .of_loopc (ks := [0, 1]) (bs := []) (ans := [.br false]) (by kernel_rfl) h
theorem qtx (l0 l1 : List (List D)) (n2 : Int)
  (h : Obs [qac prog (qaa f326 0) (qdL l0 l1 0) .ret (qgn n2)]) :
  Ret prog 326 [.one (.sl 1 l0), .one (.sl 1 l1)] [.one (I n2)] :=
 .of [.loop [] [11, 10, 9, 1, 0] [] .ret (qgn n2)] _ func326 rfl (by kernel_rfl) h
theorem qty (l0 l1 : List (List D))
  (h : Obs [qac prog (qaa f326 0) (qdL l0 l1 0) (.exit 0) (qiX l0 l1), decide ((l0.length : Int) < (l1.length : Int)) = false]) :
  Ret prog 326 [.one (.sl 1 l0), .one (.sl 1 l1)] [.one (I 0)] :=
 .of [.loop [] [11, 10, 9, 1, 0] [] (.exit 0) (qiX l0 l1), .br false] _ func326 rfl (by kernel_rfl) h
theorem qtz (l0 l1 : List (List D)) (n2 : Int)
  (h : Obs [Ret prog 326 [.one (.sl 1 l0), .one (.sl 1 l1)] [.one (I n2)]]) :
  Ret prog 309 [.one (.sl 1 l0), .one (.sl 1 l1)] [.one (I n2)] :=
 .of [.res [.one (I n2)]] _ func309 rfl (by kernel_rfl) h
theorem qtA (n0 n1 n2 n3 n4 : Int)
  (h : Obs [Ret prog 305 [.one (I n0), .one (I n2)] [.one (I n4)], (n4 != 0) = true]) :
  Ret prog 304 [.agg [I n0, I n1], .agg [I n2, I n3]] [.one (I n4)] :=
 .of [.res [.one (I n4)], .br true] _ func304 rfl (by kernel_rfl) h
theorem qtB (n0 n1 n2 n3 n4 n5 : Int)
  (h : Obs [Ret prog 305 [.one (I n0), .one (I n2)] [.one (I n4)], (n4 != 0) = false, Ret prog 305 [.one (I n1), .one (I n3)] [.one (I n5)]]) :
  Ret prog 304 [.agg [I n0, I n1], .agg [I n2, I n3]] [.one (I n5)] :=
 .of [.res [.one (I n4)], .br false, .res [.one (I n5)]] _ func304 rfl (by kernel_rfl) h
theorem qtC (n0 n1 n2 n3 n4 : Int)
  (h : Obs [Ret prog 309 [.one (.sl 1 [[I n0], [I n1]]), .one (.sl 1 [[I n2], [I n3]])] [.one (I n4)]]) :
  Ret prog 308 [.agg [I n0, I n1], .agg [I n2, I n3]] [.one (I n4)] :=
 .of [.res [.one (I n4)]] _ func308 rfl (by kernel_rfl) h
def qdM (n0 n1 n2 n3 n4 : Int) : St :=
 { env := envOf 41 [(5, .al (.one (.sl (.own 27) 1 [[I n0], [I n1], [I n2], [I n3]]))), (6, .al (.one (.v (.int .i64 n4))))], boxes := [] }
def qgo (n0 : Int) : St :=
 { env := envOf 41 [(4, .al (.one (.v (.int .i64 n0))))], boxes := [] }
theorem qtD (n10 n11 n12 n13 n14 n15 n16 : Int)
  (h : Obs [decide (n14 < 4) = true, 0 ≤ n14, n14 < (↑[[I n10], [I n11], [I n12], [I n13]].length : Int), [[I n10], [I n11], [I n12], [I n13]][n14.toNat]? = some [I n15], (n15 != 0) = true, 0 ≤ n14, n14 < (↑[[I n10], [I n11], [I n12], [I n13]].length : Int), [[I n10], [I n11], [I n12], [I n13]][n14.toNat]? = some [I n16]]) :
  Tr prog (qaa f261 0) (qdM n10 n11 n12 n13 n14) .ret (qgo n16) :=
 .of_loopc (ks := [4]) (bs := []) (ans := [.br true, .el [I n15], .br true, .el [I n16]]) (by kernel_rfl) h
theorem qtE (n10 n11 n12 n13 n14 n15 : Int)
  (h : Obs [decide (n14 < 4) = true, 0 ≤ n14, n14 < (↑[[I n10], [I n11], [I n12], [I n13]].length : Int), [[I n10], [I n11], [I n12], [I n13]][n14.toNat]? = some [I n15], (n15 != 0) = false, inInt .i64 (n14 + 1)]) :
  Tr prog (qaa f261 0) (qdM n10 n11 n12 n13 n14) .normal (qdM n10 n11 n12 n13 (n14 + 1)) :=
 .of_loopc (ks := [6, 5]) (bs := []) (ans := [.br true, .el [I n15], .br false]) (by kernel_rfl) h
def qiY : St :=
 { env := envOf 41 [], boxes := [] }
theorem qtF (n10 n11 n12 n13 n14 : Int)
  (h : Obs [decide (n14 < 4) = false]) :
  Tr prog (qaa f261 0) (qdM n10 n11 n12 n13 n14) (.exit 0) qiY :=
 .of_loopc (ks := []) (bs := []) (ans := [.br false]) (by kernel_rfl) h
theorem qtG (n0 n1 n2 n3 n4 n5 n6 n7 n8 n9 n10 n11 n12 n13 n14 : Int)
  (h : Obs [Ret prog 304 [.agg [I n1, I n2], .agg [I n6, I n7]] [.one (I n10)], Ret prog 305 [.one (I n0), .one (I n5)] [.one (I n11)], Ret prog 305 [.one (I n3), .one (I n8)] [.one (I n12)], Ret prog 305 [.one (I n4), .one (I n9)] [.one (I n13)], qac prog (qaa f261 0) (qdM n10 n11 n12 n13 0) .ret (qgo n14)]) :
  Ret prog 261 [.agg [I n0, I n1, I n2, I n3, I n4], .agg [I n5, I n6, I n7, I n8, I n9]] [.one (I n14)] :=
 .of [.res [.one (I n10)], .res [.one (I n11)], .res [.one (I n12)], .res [.one (I n13)], .loop [] [6, 5] [] .ret (qgo n14)] _ func261 rfl (by kernel_rfl) h
theorem qtH (n0 n1 n2 n3 n4 n5 n6 n7 n8 n9 n10 n11 n12 n13 : Int)
  (h : Obs [Ret prog 304 [.agg [I n1, I n2], .agg [I n6, I n7]] [.one (I n10)], Ret prog 305 [.one (I n0), .one (I n5)] [.one (I n11)], Ret prog 305 [.one (I n3), .one (I n8)] [.one (I n12)], Ret prog 305 [.one (I n4), .one (I n9)] [.one (I n13)], qac prog (qaa f261 0) (qdM n10 n11 n12 n13 0) (.exit 0) qiY]) :
  Ret prog 261 [.agg [I n0, I n1, I n2, I n3, I n4], .agg [I n5, I n6, I n7, I n8, I n9]] [.one (I 0)] :=
 .of [.res [.one (I n10)], .res [.one (I n11)], .res [.one (I n12)], .res [.one (I n13)], .loop [] [6, 5] [] (.exit 0) qiY] _ func261 rfl (by kernel_rfl) h
theorem qtI (n0 n1 n2 n3 n4 n5 n6 n7 n8 n9 n10 : Int)
  (h : Obs [Ret prog 308 [.agg [I n1, I n2], .agg [I n6, I n7]] [.one (I n10)], (n10 != 0) = true]) :
  Ret prog 263 [.agg [I n0, I n1, I n2, I n3, I n4], .agg [I n5, I n6, I n7, I n8, I n9]] [.one (I n10)] :=
 .of [.res [.one (I n10)], .br true] _ func263 rfl (by kernel_rfl) h
theorem qtJ (n0 n1 n2 n3 n4 n5 n6 n7 n8 n9 n10 n11 : Int)
  (h : Obs [Ret prog 308 [.agg [I n1, I n2], .agg [I n6, I n7]] [.one (I n10)], (n10 != 0) = false, Ret prog 309 [.one (.sl 1 [[I n0], [I n3], [I n4]]), .one (.sl 1 [[I n5], [I n8], [I n9]])] [.one (I n11)]]) :
  Ret prog 263 [.agg [I n0, I n1, I n2, I n3, I n4], .agg [I n5, I n6, I n7, I n8, I n9]] [.one (I n11)] :=
 .of [.res [.one (I n10)], .br false, .res [.one (I n11)]] _ func263 rfl (by kernel_rfl) h
def qbR (n0 : Int) (l1 : List (List D)) : St :=
 { env := envOf 48 [(3, .al (.one (.sl (.own 7) 5 l1))), (4, .al (.one (.v (.int .i64 n0))))], boxes := [] }
def qda (n0 n1 : Int) (l2 : List (List D)) (n3 n4 n5 n6 n7 : Int) : St :=
 { env := envOf 48 [(3, .al (.one (.sl (.own 7) 5 l2))), (4, .al (.one (.v (.int .i64 n0)))), (5, .al (.one (.ptr 5 0))), (6, .al (.one (.v (.int .i64 n1))))], boxes := [(5, [.v (.int .i64 n3), .v (.int .i64 n4), .v (.int .i64 n5), .v (.int .i64 n6), .v (.int .i64 n7)])] }
theorem qtK (n1 n8 : Int) (l9 : List (List D)) (n10 n11 n12 n13 n14 n15 n16 n17 n18 n19 n20 n21 n22 n23 n24 n25 : Int) (d26 d27 d28 d29 d30 : D)
  (h : Obs [decide (n8 > 0) = true, inInt .i64 (n8 - 1), 0 ≤ n8 - 1, n8 - 1 < (l9.length : Int), l9[(n8 - 1).toNat]? = some [I n15, I n16, I n17, I n18, I n19], Ret prog 261 [.agg [I n10, I n11, I n12, I n13, I n14], .agg [I n15, I n16, I n17, I n18, I n19]] [.one (I n20)], decide (n20 < 0) = true, inInt .i64 (n8 - 1), 0 ≤ n8 - 1, n8 - 1 < (l9.length : Int), l9[(n8 - 1).toNat]? = some [I n21, I n22, I n23, I n24, I n25], 0 ≤ n8, n8 < (l9.length : Int), l9[n8.toNat]? = some [d26, d27, d28, d29, d30], inInt .i64 (n8 - 1)]) :
  Tr prog (qaa f168 1) (qda n1 n8 l9 n10 n11 n12 n13 n14) .normal (qda n1 (n8 - 1) (l9.set n8.toNat [I n21, I n22, I n23, I n24, I n25]) n10 n11 n12 n13 n14) :=
 .of_loopc (ks := [6, 5, 3, 4]) (bs := [5]) (ans := [.br true, .el [I n15, I n16, I n17, I n18, I n19], .res [.one (I n20)], .br true, .el [I n21, I n22, I n23, I n24, I n25], .el [d26, d27, d28, d29, d30]]) (by kernel_rfl) h
def qfj (n0 : Int) (l1 : List (List D)) (n2 n3 n4 n5 n6 n7 : Int) : St :=
 { env := envOf 48 [(3, .al (.one (.sl (.own 7) 5 l1))), (4, .al (.one (.v (.int .i64 n0)))), (5, .al (.one (.ptr 5 0))), (6, .al (.one (.v (.int .i64 n2))))], boxes := [(5, [.v (.int .i64 n3), .v (.int .i64 n4), .v (.int .i64 n5), .v (.int .i64 n6), .v (.int .i64 n7)])] }
theorem qtL (n1 n8 : Int) (l9 : List (List D)) (n10 n11 n12 n13 n14 n15 n16 n17 n18 n19 n20 : Int)
  (h : Obs [decide (n8 > 0) = true, inInt .i64 (n8 - 1), 0 ≤ n8 - 1, n8 - 1 < (l9.length : Int), l9[(n8 - 1).toNat]? = some [I n15, I n16, I n17, I n18, I n19], Ret prog 261 [.agg [I n10, I n11, I n12, I n13, I n14], .agg [I n15, I n16, I n17, I n18, I n19]] [.one (I n20)], decide (n20 < 0) = false]) :
  Tr prog (qaa f168 1) (qda n1 n8 l9 n10 n11 n12 n13 n14) (.exit 2) (qfj n1 l9 n8 n10 n11 n12 n13 n14) :=
 .of_loopc (ks := [3, 6, 5, 4]) (bs := [5]) (ans := [.br true, .el [I n15, I n16, I n17, I n18, I n19], .res [.one (I n20)], .br false]) (by kernel_rfl) h
theorem qtM (n1 n8 : Int) (l9 : List (List D)) (n10 n11 n12 n13 n14 : Int)
  (h : Obs [decide (n8 > 0) = false]) :
  Tr prog (qaa f168 1) (qda n1 n8 l9 n10 n11 n12 n13 n14) (.exit 2) (qfj n1 l9 n8 n10 n11 n12 n13 n14) :=
 .of_loopc (ks := [3, 6, 5, 4]) (bs := [5]) (ans := [.br false]) (by kernel_rfl) h
theorem qtN (n1 : Int) (l2 : List (List D)) (n3 n4 n5 n6 n7 : Int) (l8 : List (List D)) (n9 n10 n11 n12 n13 n14 : Int) (d15 d16 d17 d18 d19 : D)
  (h : Obs [decide (n1 < (l2.length : Int)) = true, 0 ≤ n1, n1 < (l2.length : Int), l2[n1.toNat]? = some [I n3, I n4, I n5, I n6, I n7], qac prog (qaa f168 1) (qda n1 n1 l2 n3 n4 n5 n6 n7) (.exit 2) (qfj n1 l8 n9 n10 n11 n12 n13 n14), 0 ≤ n9, n9 < (l8.length : Int), l8[n9.toNat]? = some [d15, d16, d17, d18, d19], inInt .i64 (n1 + 1)]) :
  Tr prog (qaa f168 0) (qbR n1 l2) .normal (qbR (n1 + 1) (l8.set n9.toNat [I n10, I n11, I n12, I n13, I n14])) :=
 .of_loopc (ks := [4, 3]) (bs := []) (ans := [.br true, .el [I n3, I n4, I n5, I n6, I n7], .loop [] [6, 5, 3, 4] [5] (.exit 2) (qfj n1 l8 n9 n10 n11 n12 n13 n14), .el [d15, d16, d17, d18, d19]]) (by kernel_rfl) h
def qfk (l0 : List (List D)) : St :=
 { env := envOf 48 [(3, .al (.one (.sl (.own 7) 5 l0)))], boxes := [] }
theorem qlE (n1 : Int) (l2 : List (List D))
  (h : Obs [decide (n1 < (l2.length : Int)) = false]) :
  Tr prog (qaa f168 0) (qbR n1 l2) (.exit 0) (qfk l2) :=
 .of_loopc (ks := [3]) (bs := []) (ans := [.br false]) (by kernel_rfl) h
theorem qtO (l0 l1 : List (List D))
  (h : Obs [(([] : List (List D)).length + l0.length) * 40 ≤ 140737488355328, ([] : List (List D)).length + l0.length ≤ 9223372036854775807, Flat l0, qac prog (qaa f168 0) (qbR 1 ([] ++ l0)) (.exit 0) (qfk l1)]) :
  Ret prog 168 [.one (.sl 5 l0)] [.one (.sl 5 l1)] :=
 .of [.loop [] [4, 3] [] (.exit 0) (qfk l1)] _ func168 rfl (by kernel_rfl) h
theorem qtP (l0 l1 l2 : List (List D))
  (h : Obs [Ret prog 170 [.one (.sl 5 l0)] [.one (.sl 5 l1)], RetG prog 262 [GA.one (GC.gv 5 l1 (some l2)), GA.one (GC.ro (D.cl 263 []))] []]) :
  Ret prog 169 [.one (.sl 5 l0)] [.one (.sl 5 l2)] :=
 .of [.res [.one (.sl 5 l1)], .resG [[some (some l2)], [none]] 0 [] []] _ func169 rfl (by kernel_rfl) h
def qeF (l0 : List (List D)) (n1 n2 : Int) (l3 l4 l5 l6 : List (List D)) (n7 : Int) (l8 : List (List D)) : St :=
 { env := envOf 46 [(1, .al (.one (.ptr 1 0))), (3, .al (.one (.sl (.own 6) 5 l8))), (4, .al (.one (.v (.int .i64 n7))))], boxes := [(1, [.sl .free 4 l0, .v (.int .i64 n1), .v (.int .i64 n2), .sl .free 8 l3, .sl .free 6 l4, .sl .free 5 l5, .sl .free 3 l6])] }
theorem qtQ (l0 : List (List D)) (n1 n2 : Int) (l3 l4 l5 l6 : List (List D)) (n7 : Int) (l8 l9 l10 l11 l12 l13 l14 l15 l16 l17 l18 l19 l20 l21 l22 l23 l24 : List (List D))
  (h : Obs [decide (n7 < (l3.length : Int)) = true, 0 ≤ n7, n7 < (l3.length : Int), l3[n7.toNat]? = some [D.sl 5 l9, D.sl 5 l10, D.sl 5 l11, D.sl 4 l12, D.sl 1 l13, D.sl 1 l14, D.sl 1 l15, D.sl 2 l16], (l8.length + l9.length) * 40 ≤ 140737488355328, l8.length + l9.length ≤ 9223372036854775807, Flat l9, 0 ≤ n7, n7 < (l3.length : Int), l3[n7.toNat]? = some [D.sl 5 l17, D.sl 5 l18, D.sl 5 l19, D.sl 4 l20, D.sl 1 l21, D.sl 1 l22, D.sl 1 l23, D.sl 2 l24], ((l8 ++ l9).length + l18.length) * 40 ≤ 140737488355328, (l8 ++ l9).length + l18.length ≤ 9223372036854775807, Flat l18, inInt .i64 (n7 + 1)]) :
  Tr prog (qaa f79 0) (qeF l0 n1 n2 l3 l4 l5 l6 n7 l8) .normal (qeF l0 n1 n2 l3 l4 l5 l6 (n7 + 1) (l8 ++ l9 ++ l18)) :=
 .of_loopc (ks := [4, 1, 3]) (bs := [1]) (ans := [.br true, .el [D.sl 5 l9, D.sl 5 l10, D.sl 5 l11, D.sl 4 l12, D.sl 1 l13, D.sl 1 l14, D.sl 1 l15, D.sl 2 l16], .el [D.sl 5 l17, D.sl 5 l18, D.sl 5 l19, D.sl 4 l20, D.sl 1 l21, D.sl 1 l22, D.sl 1 l23, D.sl 2 l24]]) (by kernel_rfl) h
def qiZ (l0 : List (List D)) (n1 n2 : Int) (l3 l4 l5 l6 l7 : List (List D)) : St :=
 { env := envOf 46 [(1, .al (.one (.ptr 1 0))), (3, .al (.one (.sl (.own 6) 5 l7)))], boxes := [(1, [.sl .free 4 l0, .v (.int .i64 n1), .v (.int .i64 n2), .sl .free 8 l3, .sl .free 6 l4, .sl .free 5 l5, .sl .free 3 l6])] }
theorem qtR (l0 : List (List D)) (n1 n2 : Int) (l3 l4 l5 l6 : List (List D)) (n7 : Int) (l8 : List (List D))
  (h : Obs [decide (n7 < (l3.length : Int)) = false]) :
  Tr prog (qaa f79 0) (qeF l0 n1 n2 l3 l4 l5 l6 n7 l8) (.exit 0) (qiZ l0 n1 n2 l3 l4 l5 l6 l8) :=
 .of_loopc (ks := [1, 3]) (bs := [1]) (ans := [.br false]) (by kernel_rfl) h
def qeG (l0 : List (List D)) (n1 n2 : Int) (l3 l4 l5 l6 : List (List D)) (n7 : Int) (l8 : List (List D)) : St :=
 { env := envOf 46 [(1, .al (.one (.ptr 1 0))), (3, .al (.one (.sl (.own 6) 5 l8))), (5, .al (.one (.v (.int .i64 n7))))], boxes := [(1, [.sl .free 4 l0, .v (.int .i64 n1), .v (.int .i64 n2), .sl .free 8 l3, .sl .free 6 l4, .sl .free 5 l5, .sl .free 3 l6])] }
theorem qtS (l0 : List (List D)) (n1 n2 : Int) (l3 l4 l5 l6 : List (List D)) (n8 : Int) (l9 : List (List D)) (n10 : Int) (l11 : List (List D)) (n12 n13 n14 n15 : Int)
  (h : Obs [decide (n8 < (l4.length : Int)) = true, 0 ≤ n8, n8 < (l4.length : Int), l4[n8.toNat]? = some [I n10, D.sl 5 l11, I n12, I n13, I n14, I n15], (l9.length + l11.length) * 40 ≤ 140737488355328, l9.length + l11.length ≤ 9223372036854775807, Flat l11, inInt .i64 (n8 + 1)]) :
  Tr prog (qaa f79 1) (qeG l0 n1 n2 l3 l4 l5 l6 n8 l9) .normal (qeG l0 n1 n2 l3 l4 l5 l6 (n8 + 1) (l9 ++ l11)) :=
 .of_loopc (ks := [5, 1, 3]) (bs := [1]) (ans := [.br true, .el [I n10, D.sl 5 l11, I n12, I n13, I n14, I n15]]) (by kernel_rfl) h
def qi0 (l0 : List (List D)) : St :=
 { env := envOf 46 [(3, .al (.one (.sl (.own 6) 5 l0)))], boxes := [] }
theorem qtT (l0 : List (List D)) (n1 n2 : Int) (l3 l4 l5 l6 : List (List D)) (n8 : Int) (l9 : List (List D))
  (h : Obs [decide (n8 < (l4.length : Int)) = false]) :
  Tr prog (qaa f79 1) (qeG l0 n1 n2 l3 l4 l5 l6 n8 l9) (.exit 2) (qi0 l9) :=
 .of_loopc (ks := [3]) (bs := []) (ans := [.br false]) (by kernel_rfl) h
theorem qtU (l0 : List (List D)) (n1 n2 : Int) (l3 l4 l5 l6 l7 l8 l9 : List (List D))
  (h : Obs [qac prog (qaa f79 0) (qeF l0 n1 n2 l3 l4 l5 l6 0 []) (.exit 0) (qiZ l0 n1 n2 l3 l4 l5 l6 l7), qac prog (qaa f79 1) (qeG l0 n1 n2 l3 l4 l5 l6 0 l7) (.exit 2) (qi0 l8), Ret prog 168 [.one (.sl 5 l8)] [.one (.sl 5 l9)]]) :
  Ret prog 79 [.agg [D.sl 4 l0, I n1, I n2, D.sl 8 l3, D.sl 6 l4, D.sl 5 l5, D.sl 3 l6]] [.one (.sl 5 l9)] :=
 .of [.loop [] [4, 1, 3] [1] (.exit 0) (qiZ l0 n1 n2 l3 l4 l5 l6 l7), .loop [] [5, 1, 3] [1] (.exit 2) (qi0 l8), .res [.one (.sl 5 l9)]] _ func79 rfl (by kernel_rfl) h
def qeH (l0 : List (List D)) (n1 : Int) (l2 l3 : List (List D)) (n4 n5 : Int) (l6 l7 l8 l9 : List (List D)) : St :=
 { env := envOf 37 [(1, .al (.one (.ptr 1 0))), (3, .al (.one (.sl (.own 18) 5 l2))), (9, .al (.one (.sl .free 8 l0))), (10, .al (.one (.v (.int .i64 (l0.length : Int))))), (11, .al (.one (.v (.int .i64 n1))))], boxes := [(1, [.sl .free 4 l3, .v (.int .i64 n4), .v (.int .i64 n5), .sl .free 8 l6, .sl .free 6 l7, .sl .free 5 l8, .sl .free 3 l9])] }
theorem qtV (l3 : List (List D)) (n7 : Int) (l8 l9 : List (List D)) (n10 n11 : Int) (l12 l13 l14 l15 l16 l17 l18 l19 l20 l21 l22 l23 : List (List D))
  (h : Obs [decide (n7 < (l3.length : Int)) = true, 0 ≤ n7, n7 < (l3.length : Int), l3[n7.toNat]? = some [D.sl 5 l16, D.sl 5 l17, D.sl 5 l18, D.sl 4 l19, D.sl 1 l20, D.sl 1 l21, D.sl 1 l22, D.sl 2 l23], (l8.length + l16.length) * 40 ≤ 140737488355328, l8.length + l16.length ≤ 9223372036854775807, Flat l16, ((l8 ++ l16).length + l17.length) * 40 ≤ 140737488355328, (l8 ++ l16).length + l17.length ≤ 9223372036854775807, Flat l17, inInt .i64 (n7 + 1)]) :
  Tr prog (qaa f84 0) (qeH l3 n7 l8 l9 n10 n11 l12 l13 l14 l15) .normal (qeH l3 (n7 + 1) (l8 ++ l16 ++ l17) l9 n10 n11 l12 l13 l14 l15) :=
 .of_loopc (ks := [11, 10, 9, 3, 1]) (bs := [1]) (ans := [.br true, .el [D.sl 5 l16, D.sl 5 l17, D.sl 5 l18, D.sl 4 l19, D.sl 1 l20, D.sl 1 l21, D.sl 1 l22, D.sl 2 l23]]) (by kernel_rfl) h
def qi1 (l0 l1 : List (List D)) (n2 n3 : Int) (l4 l5 l6 l7 : List (List D)) : St :=
 { env := envOf 37 [(1, .al (.one (.ptr 1 0))), (3, .al (.one (.sl (.own 18) 5 l0)))], boxes := [(1, [.sl .free 4 l1, .v (.int .i64 n2), .v (.int .i64 n3), .sl .free 8 l4, .sl .free 6 l5, .sl .free 5 l6, .sl .free 3 l7])] }
theorem qtW (l3 : List (List D)) (n7 : Int) (l8 l9 : List (List D)) (n10 n11 : Int) (l12 l13 l14 l15 : List (List D))
  (h : Obs [decide (n7 < (l3.length : Int)) = false]) :
  Tr prog (qaa f84 0) (qeH l3 n7 l8 l9 n10 n11 l12 l13 l14 l15) (.exit 0) (qi1 l8 l9 n10 n11 l12 l13 l14 l15) :=
 .of_loopc (ks := [1, 3]) (bs := [1]) (ans := [.br false]) (by kernel_rfl) h
def qeI (l0 : List (List D)) (n1 : Int) (l2 : List (List D)) : St :=
 { env := envOf 37 [(3, .al (.one (.sl (.own 18) 5 l2))), (24, .al (.one (.sl .free 6 l0))), (25, .al (.one (.v (.int .i64 (l0.length : Int))))), (26, .al (.one (.v (.int .i64 n1))))], boxes := [] }
theorem qtX (l12 : List (List D)) (n15 : Int) (l16 : List (List D)) (n17 : Int) (l18 : List (List D)) (n19 n20 n21 n22 : Int)
  (h : Obs [decide (n15 < (l12.length : Int)) = true, 0 ≤ n15, n15 < (l12.length : Int), l12[n15.toNat]? = some [I n17, D.sl 5 l18, I n19, I n20, I n21, I n22], (l16.length + l18.length) * 40 ≤ 140737488355328, l16.length + l18.length ≤ 9223372036854775807, Flat l18, inInt .i64 (n15 + 1)]) :
  Tr prog (qaa f84 1) (qeI l12 n15 l16) .normal (qeI l12 (n15 + 1) (l16 ++ l18)) :=
 .of_loopc (ks := [26, 25, 24, 3]) (bs := []) (ans := [.br true, .el [I n17, D.sl 5 l18, I n19, I n20, I n21, I n22]]) (by kernel_rfl) h
def qi2 (l0 : List (List D)) : St :=
 { env := envOf 37 [(3, .al (.one (.sl (.own 18) 5 l0)))], boxes := [] }
theorem qtY (l12 : List (List D)) (n15 : Int) (l16 : List (List D))
  (h : Obs [decide (n15 < (l12.length : Int)) = false]) :
  Tr prog (qaa f84 1) (qeI l12 n15 l16) (.exit 2) (qi2 l16) :=
 .of_loopc (ks := [3]) (bs := []) (ans := [.br false]) (by kernel_rfl) h
theorem qtZ (l0 : List (List D)) (n1 n2 : Int) (l3 l4 l5 l6 l7 l8 : List (List D)) (n9 n10 : Int) (l11 l12 l13 l14 l15 l16 : List (List D))
  (h : Obs [qac prog (qaa f84 0) (qeH l3 0 [] l0 n1 n2 l3 l4 l5 l6) (.exit 0) (qi1 l7 l8 n9 n10 l11 l12 l13 l14), qac prog (qaa f84 1) (qeI l12 0 l7) (.exit 2) (qi2 l15), Ret prog 169 [.one (.sl 5 l15)] [.one (.sl 5 l16)]]) :
  Ret prog 84 [.agg [D.sl 4 l0, I n1, I n2, D.sl 8 l3, D.sl 6 l4, D.sl 5 l5, D.sl 3 l6]] [.one (.sl 5 l16)] :=
 .of [.loop [(3, 18, 5)] [11, 10, 9, 3, 1] [1] (.exit 0) (qi1 l7 l8 n9 n10 l11 l12 l13 l14), .loop [] [26, 25, 24, 3] [] (.exit 2) (qi2 l15), .res [.one (.sl 5 l16)]] _ func84 rfl (by kernel_rfl) h
def qdO (l0 : List (List D)) (g1 : Nat) (k2 : List D) (n3 : Int) : St :=
 { env := envOf 19 [(0, .al (.one (.sl .free 4 l0))), (1, .al (.one (.fd (D.cl g1 k2)))), (7, .al (.one (.v (.int .i64 (l0.length : Int))))), (8, .al (.one (.v (.int .i64 n3))))], boxes := [] }
def qgp (n0 : Int) : St :=
 { env := envOf 19 [(4, .al (.one (.v (.int .i64 n0))))], boxes := [] }
theorem qt4 (l0 : List (List D)) (g1 : Nat) (k2 : List D) (n3 n4 n5 n6 n7 : Int) (b8 : Bool)
  (h : Obs [decide (n3 < (l0.length : Int)) = true, 0 ≤ n3, n3 < (l0.length : Int), l0[n3.toNat]? = some [I n4, I n5, I n6, I n7], qbk prog g1 = true, Ret prog g1 ([.agg [I n4, I n5, I n6, I n7]] ++ List.map .one k2) [.one (B b8)], b8 = true]) :
  Tr prog (qaa f312 0) (qdO l0 g1 k2 n3) .ret (qgp n3) :=
 .of_loopc (ks := [4]) (bs := []) (ans := [.br true, .el [I n4, I n5, I n6, I n7], .res [.one (B b8)], .br true]) (by kernel_rfl) h
theorem qt5 (l0 : List (List D)) (g1 : Nat) (k2 : List D) (n3 n4 n5 n6 n7 : Int) (b8 : Bool)
  (h : Obs [decide (n3 < (l0.length : Int)) = true, 0 ≤ n3, n3 < (l0.length : Int), l0[n3.toNat]? = some [I n4, I n5, I n6, I n7], qbk prog g1 = true, Ret prog g1 ([.agg [I n4, I n5, I n6, I n7]] ++ List.map .one k2) [.one (B b8)], b8 = false, inInt .i64 (n3 + 1)]) :
  Tr prog (qaa f312 0) (qdO l0 g1 k2 n3) .normal (qdO l0 g1 k2 (n3 + 1)) :=
 .of_loopc (ks := [8, 7, 1, 0]) (bs := []) (ans := [.br true, .el [I n4, I n5, I n6, I n7], .res [.one (B b8)], .br false]) (by kernel_rfl) h
def qi4 : St :=
 { env := envOf 19 [], boxes := [] }
theorem qt6 (l0 : List (List D)) (g1 : Nat) (k2 : List D) (n3 : Int)
  (h : Obs [decide (n3 < (l0.length : Int)) = false]) :
  Tr prog (qaa f312 0) (qdO l0 g1 k2 n3) (.exit 0) qi4 :=
 .of_loopc (ks := []) (bs := []) (ans := [.br false]) (by kernel_rfl) h
theorem qt7 (l0 : List (List D)) (g1 : Nat) (k2 : List D) (n3 : Int)
  (h : Obs [qac prog (qaa f312 0) (qdO l0 g1 k2 0) .ret (qgp n3)]) :
  Ret prog 312 [.one (.sl 4 l0), .one (.cl g1 k2)] [.one (I n3)] :=
 .of [.loop [] [8, 7, 1, 0] [] .ret (qgp n3)] _ func312 rfl (by kernel_rfl) h
theorem qt8 (l0 : List (List D)) (g1 : Nat) (k2 : List D)
  (h : Obs [qac prog (qaa f312 0) (qdO l0 g1 k2 0) (.exit 0) qi4]) :
  Ret prog 312 [.one (.sl 4 l0), .one (.cl g1 k2)] [.one (I (-1))] :=
 .of [.loop [] [8, 7, 1, 0] [] (.exit 0) qi4] _ func312 rfl (by kernel_rfl) h
end Go.Proofs.YtialmplmfcahpaaGreat
