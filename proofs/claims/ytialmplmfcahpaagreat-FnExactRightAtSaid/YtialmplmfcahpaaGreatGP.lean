import Derived.Test.YtialmplmfcahpaaGreatRows
import Derived.Test.YtialmplmfcahpaaGreatR22
set_option linter.unusedVariables false
set_option linter.unusedSimpArgs false
namespace Go.Proofs.YtialmplmfcahpaaGreat
open Go.Sx Go.RowKit
theorem qua (l0 : List (List D))
  (h : Obs [(([] : List (List D)).length + l0.length) * 32 ≤ 140737488355328, ([] : List (List D)).length + l0.length ≤ 9223372036854775807, Flat l0]) :
  Ret Tryz.prog 154 [.one (.sl 4 l0)] [.one (.sl 4 ([] ++ l0))] :=
 .of [] _ Tryz.func154 rfl (by kernel_rfl) h
theorem qub (l0 : List (List D)) (n1 n2 n3 n4 : Int) (b5 : Bool)
  (h : Obs [Ret Tryz.prog 301 [.one (.sl 4 l0), .agg [I n1, I n2, I n3, I n4]] [.one (B b5)]]) :
  Ret Tryz.prog 256 [.one (.sl 4 l0), .agg [I n1, I n2, I n3, I n4]] [.one (B b5)] :=
 .of [.res [.one (B b5)]] _ Tryz.func256 rfl (by kernel_rfl) h
theorem quc (n0 n1 n2 n3 n4 n5 n6 n7 n8 : Int)
  (h : Obs [Ret Tryz.prog 309 [.one (.sl 1 [[I n1], [I n0], [I n2], [I n3]]), .one (.sl 1 [[I n5], [I n4], [I n6], [I n7]])] [.one (I n8)]]) :
  Ret Tryz.prog 299 [.agg [I n0, I n1, I n2, I n3], .agg [I n4, I n5, I n6, I n7]] [.one (I n8)] :=
 .of [.res [.one (I n8)]] _ Tryz.func299 rfl (by kernel_rfl) h
theorem qud (l0 : List (List D)) (n1 n2 n3 n4 n5 : Int)
  (h : Obs [Ret Tryz.prog 315 [.one (.sl 4 l0), .agg [I n1, I n2, I n3, I n4]] [.one (I n5)]]) :
  Ret Tryz.prog 301 [.one (.sl 4 l0), .agg [I n1, I n2, I n3, I n4]] [.one (B (decide (n5 ≥ 0)))] :=
 .of [.res [.one (I n5)]] _ Tryz.func301 rfl (by kernel_rfl) h
def qdQ (l0 : List (List D)) (n1 n2 n3 n4 n5 : Int) : St :=
 { env := envOf 19 [(0, .al (.one (.sl .free 4 l0))), (3, .al (.one (.ptr 3 0))), (7, .al (.one (.v (.int .i64 (↑l0.length : Int))))), (8, .al (.one (.v (.int .i64 n5))))], boxes := [(3, [.v (.int .i64 n1), .v (.int .i64 n2), .v (.int .i64 n3), .v (.int .i64 n4)])] }
def qgs (n0 : Int) : St :=
 { env := envOf 19 [(4, .al (.one (.v (.int .i64 n0))))], boxes := [] }
theorem que (l0 : List (List D)) (n1 n2 n3 n4 n5 n6 n7 n8 n9 : Int)
  (h : Obs [decide (n5 < (↑l0.length : Int)) = true, 0 ≤ n5, n5 < (↑l0.length : Int), l0[n5.toNat]? = some [I n6, I n7, I n8, I n9], (n1 == n6 && (n2 == n7 && (n3 == n8 && n4 == n9))) = true]) :
  Tr Tryz.prog (qaa Tryz.f315 0) (qdQ l0 n1 n2 n3 n4 n5) .ret (qgs n5) :=
 .of_loopc (ks := [4]) (bs := []) (ans := [.br true, .el [I n6, I n7, I n8, I n9], .br true]) (by kernel_rfl) h
theorem quf (l0 : List (List D)) (n1 n2 n3 n4 n5 n6 n7 n8 n9 : Int)
  (h : Obs [decide (n5 < (↑l0.length : Int)) = true, 0 ≤ n5, n5 < (↑l0.length : Int), l0[n5.toNat]? = some [I n6, I n7, I n8, I n9], (n1 == n6 && (n2 == n7 && (n3 == n8 && n4 == n9))) = false, inInt .i64 (n5 + 1)]) :
  Tr Tryz.prog (qaa Tryz.f315 0) (qdQ l0 n1 n2 n3 n4 n5) .normal (qdQ l0 n1 n2 n3 n4 (n5 + 1)) :=
 .of_loopc (ks := [8, 7, 3, 0]) (bs := [3]) (ans := [.br true, .el [I n6, I n7, I n8, I n9], .br false]) (by kernel_rfl) h
def qi5 : St :=
 { env := envOf 19 [], boxes := [] }
theorem qug (l0 : List (List D)) (n1 n2 n3 n4 n5 : Int)
  (h : Obs [decide (n5 < (↑l0.length : Int)) = false]) :
  Tr Tryz.prog (qaa Tryz.f315 0) (qdQ l0 n1 n2 n3 n4 n5) (.exit 0) qi5 :=
 .of_loopc (ks := []) (bs := []) (ans := [.br false]) (by kernel_rfl) h
theorem quh (l0 : List (List D)) (n1 n2 n3 n4 n5 : Int)
  (h : Obs [qac Tryz.prog (qaa Tryz.f315 0) (qdQ l0 n1 n2 n3 n4 0) .ret (qgs n5)]) :
  Ret Tryz.prog 315 [.one (.sl 4 l0), .agg [I n1, I n2, I n3, I n4]] [.one (I n5)] :=
 .of [.loop [] [8, 7, 3, 0] [3] .ret (qgs n5)] _ Tryz.func315 rfl (by kernel_rfl) h
theorem qui (l0 : List (List D)) (n1 n2 n3 n4 : Int)
  (h : Obs [qac Tryz.prog (qaa Tryz.f315 0) (qdQ l0 n1 n2 n3 n4 0) (.exit 0) qi5]) :
  Ret Tryz.prog 315 [.one (.sl 4 l0), .agg [I n1, I n2, I n3, I n4]] [.one (I (-1))] :=
 .of [.loop [] [8, 7, 3, 0] [3] (.exit 0) qi5] _ Tryz.func315 rfl (by kernel_rfl) h
theorem quj (l0 : List (List D)) (n1 n2 n3 n4 : Int) (l5 : List (List D)) (b6 : Bool)
  (h : Obs [Ret Tryz.prog 154 [.one (.sl 4 l0)] [.one (.sl 4 l5)], Ret Tryz.prog 256 [.one (.sl 4 l0), .agg [I n1, I n2, I n3, I n4]] [.one (B b6)], b6 = true]) :
  Ret Tryz.prog 255 [.one (.sl 4 l0), .agg [I n1, I n2, I n3, I n4]] [.one (.sl 4 l5)] :=
 .of [.res [.one (.sl 4 l5)], .res [.one (B b6)], .br true] _ Tryz.func255 rfl (by kernel_rfl) h
def qdR (l0 : List (List D)) (n1 n2 n3 n4 : Int) (l5 : List (List D)) (n6 : Int) : St :=
 { env := envOf 33 [(0, .al (.one (.sl .free 4 l0))), (3, .al (.one (.ptr 3 0))), (5, .al (.one (.sl (.own 90000) 4 l5))), (6, .al (.one (.v (.int .i64 n6))))], boxes := [(3, [.v (.int .i64 n1), .v (.int .i64 n2), .v (.int .i64 n3), .v (.int .i64 n4)])] }
theorem quk (l0 : List (List D)) (n1 n2 n3 n4 : Int) (l5 : List (List D)) (n7 n8 n9 n10 n11 n12 : Int)
  (h : Obs [decide (n7 < (↑l0.length : Int)) = true, 0 ≤ n7, n7 < (↑l0.length : Int), l0[n7.toNat]? = some [I n8, I n9, I n10, I n11], Ret Tryz.prog 299 [.agg [I n8, I n9, I n10, I n11], .agg [I n1, I n2, I n3, I n4]] [.one (I n12)], decide (n12 < 0) = true, inInt .i64 (n7 + 1)]) :
  Tr Tryz.prog (qaa Tryz.f255 0) (qdR l0 n1 n2 n3 n4 l5 n7) .normal (qdR l0 n1 n2 n3 n4 l5 (n7 + 1)) :=
 .of_loopc (ks := [6, 0, 3, 5]) (bs := [3]) (ans := [.br true, .el [I n8, I n9, I n10, I n11], .res [.one (I n12)], .br true]) (by kernel_rfl) h
def qeJ (n0 n1 n2 n3 : Int) (l4 : List (List D)) (n5 : Int) : St :=
 { env := envOf 33 [(3, .al (.one (.ptr 3 0))), (5, .al (.one (.sl (.own 90000) 4 l4))), (6, .al (.one (.v (.int .i64 n5))))], boxes := [(3, [.v (.int .i64 n0), .v (.int .i64 n1), .v (.int .i64 n2), .v (.int .i64 n3)])] }
theorem qul (l0 : List (List D)) (n1 n2 n3 n4 : Int) (l5 : List (List D)) (n7 n8 n9 n10 n11 n12 : Int)
  (h : Obs [decide (n7 < (↑l0.length : Int)) = true, 0 ≤ n7, n7 < (↑l0.length : Int), l0[n7.toNat]? = some [I n8, I n9, I n10, I n11], Ret Tryz.prog 299 [.agg [I n8, I n9, I n10, I n11], .agg [I n1, I n2, I n3, I n4]] [.one (I n12)], decide (n12 < 0) = false]) :
  Tr Tryz.prog (qaa Tryz.f255 0) (qdR l0 n1 n2 n3 n4 l5 n7) (.exit 0) (qeJ n1 n2 n3 n4 l5 n7) :=
 .of_loopc (ks := [5, 6, 3]) (bs := [3]) (ans := [.br true, .el [I n8, I n9, I n10, I n11], .res [.one (I n12)], .br false]) (by kernel_rfl) h
theorem qum (l0 : List (List D)) (n1 n2 n3 n4 : Int) (l5 : List (List D)) (n7 : Int)
  (h : Obs [decide (n7 < (↑l0.length : Int)) = false]) :
  Tr Tryz.prog (qaa Tryz.f255 0) (qdR l0 n1 n2 n3 n4 l5 n7) (.exit 0) (qeJ n1 n2 n3 n4 l5 n7) :=
 .of_loopc (ks := [5, 6, 3]) (bs := [3]) (ans := [.br false]) (by kernel_rfl) h
theorem qun (l0 : List (List D)) (n1 n2 n3 n4 : Int) (l5 : List (List D)) (b6 : Bool) (n7 : Int) (l10 : List (List D))
  (h : Obs [Ret Tryz.prog 154 [.one (.sl 4 l0)] [.one (.sl 4 l5)], Ret Tryz.prog 256 [.one (.sl 4 l0), .agg [I n1, I n2, I n3, I n4]] [.one (B b6)], b6 = false, qac Tryz.prog (qaa Tryz.f255 0) (qdR l0 n1 n2 n3 n4 l5 0) (.exit 0) (qeJ n1 n2 n3 n4 l5 n7), RetG Tryz.prog 300 [GA.one (GC.gv 4 l5 none), GA.one (GC.ro (I n7)), GA.one (GC.gv 4 [[I n1, I n2, I n3, I n4]] none)] [.one (.sl 4 l10)]]) :
  Ret Tryz.prog 255 [.one (.sl 4 l0), .agg [I n1, I n2, I n3, I n4]] [.one (.sl 4 l10)] :=
 .of [.res [.one (.sl 4 l5)], .res [.one (B b6)], .br false, .loop [] [6, 0, 3, 5] [3] (.exit 0) (qeJ n1 n2 n3 n4 l5 n7), .resG [[some none], [none], [some none]] 0 [] [.one (.sl 4 l10)]] _ Tryz.func255 rfl (by kernel_rfl) h
theorem qlH (l0 : List (List D)) (n1 n2 n3 : Int) (b4 : Bool)
  (h : Obs [inInt .i64 ((↑l0.length : Int) - 1), Ret Tryz.prog 119 [.one (I n3), .one (I 0), .one (I ((↑l0.length : Int) - 1))] [.one (B b4)]]) :
  Ret Tryz.prog 153 [.agg [D.sl 4 l0, I n1, I n2], .one (I n3)] [.one (B b4)] :=
 .of [.res [.one (B b4)]] _ Tryz.func153 rfl (by kernel_rfl) h
def qcT (l0 : List (List D)) (n1 : Int) (l2 l3 : List (List D)) (n4 n5 : Int) : St :=
 { env := envOf 34 [(2, .al (.one (.ptr 2 0))), (5, .al (.one (.sl (.own 31) 4 l2))), (8, .al (.one (.sl .free 4 l0))), (9, .al (.one (.v (.int .i64 (↑l0.length : Int))))), (10, .al (.one (.v (.int .i64 n1))))], boxes := [(2, [.sl .free 4 l3, .v (.int .i64 n4), .v (.int .i64 n5)])] }
theorem qup (l3 : List (List D)) (n4 : Int) (l5 l6 : List (List D)) (n7 n8 n9 n10 n11 n12 : Int) (b13 : Bool) (n14 n15 n16 : Int) (l17 : List (List D))
  (h : Obs [decide (n4 < (↑l3.length : Int)) = true, 0 ≤ n4, n4 < (↑l3.length : Int), l3[n4.toNat]? = some [I n9, I n10, I n11, I n12], Ret Tryz.prog 153 [.agg [D.sl 4 l6, I n7, I n8], .one (I n9)] [.one (B b13)], b13 = true, 0 ≤ n9, n9 < (↑l6.length : Int), l6[n9.toNat]? = some [I n14, I n15, I n16, D.sl 1 l17], (n14 == 8) = true, (l5.length + [[I n9, I n10, I n11, I n12]].length) * 32 ≤ 140737488355328, l5.length + [[I n9, I n10, I n11, I n12]].length ≤ 9223372036854775807, Flat [[I n9, I n10, I n11, I n12]], inInt .i64 (n4 + 1)]) :
  Tr Tryz.prog (qaa Tryz.f199 0) (qcT l3 n4 l5 l6 n7 n8) .normal (qcT l3 (n4 + 1) (l5 ++ [[I n9, I n10, I n11, I n12]]) l6 n7 n8) :=
 .of_loopc (ks := [10, 9, 8, 2, 5]) (bs := [2]) (ans := [.br true, .el [I n9, I n10, I n11, I n12], .res [.one (B b13)], .br true, .el [I n14, I n15, I n16, D.sl 1 l17], .br true]) (by kernel_rfl) h
theorem quq (l3 : List (List D)) (n4 : Int) (l5 l6 : List (List D)) (n7 n8 n9 n10 n11 n12 : Int) (b13 : Bool) (n14 n15 n16 : Int) (l17 : List (List D))
  (h : Obs [decide (n4 < (↑l3.length : Int)) = true, 0 ≤ n4, n4 < (↑l3.length : Int), l3[n4.toNat]? = some [I n9, I n10, I n11, I n12], Ret Tryz.prog 153 [.agg [D.sl 4 l6, I n7, I n8], .one (I n9)] [.one (B b13)], b13 = true, 0 ≤ n9, n9 < (↑l6.length : Int), l6[n9.toNat]? = some [I n14, I n15, I n16, D.sl 1 l17], (n14 == 8) = false, inInt .i64 (n4 + 1)]) :
  Tr Tryz.prog (qaa Tryz.f199 0) (qcT l3 n4 l5 l6 n7 n8) .normal (qcT l3 (n4 + 1) l5 l6 n7 n8) :=
 .of_loopc (ks := [10, 9, 8, 2, 5]) (bs := [2]) (ans := [.br true, .el [I n9, I n10, I n11, I n12], .res [.one (B b13)], .br true, .el [I n14, I n15, I n16, D.sl 1 l17], .br false]) (by kernel_rfl) h
theorem qur (l3 : List (List D)) (n4 : Int) (l5 l6 : List (List D)) (n7 n8 n9 n10 n11 n12 : Int) (b13 : Bool)
  (h : Obs [decide (n4 < (↑l3.length : Int)) = true, 0 ≤ n4, n4 < (↑l3.length : Int), l3[n4.toNat]? = some [I n9, I n10, I n11, I n12], Ret Tryz.prog 153 [.agg [D.sl 4 l6, I n7, I n8], .one (I n9)] [.one (B b13)], b13 = false, inInt .i64 (n4 + 1)]) :
  Tr Tryz.prog (qaa Tryz.f199 0) (qcT l3 n4 l5 l6 n7 n8) .normal (qcT l3 (n4 + 1) l5 l6 n7 n8) :=
 .of_loopc (ks := [10, 9, 8, 2, 5]) (bs := [2]) (ans := [.br true, .el [I n9, I n10, I n11, I n12], .res [.one (B b13)], .br false]) (by kernel_rfl) h
def qi6 (l0 : List (List D)) : St :=
 { env := envOf 34 [(5, .al (.one (.sl (.own 31) 4 l0)))], boxes := [] }
theorem qus (l3 : List (List D)) (n4 : Int) (l5 l6 : List (List D)) (n7 n8 : Int)
  (h : Obs [decide (n4 < (↑l3.length : Int)) = false]) :
  Tr Tryz.prog (qaa Tryz.f199 0) (qcT l3 n4 l5 l6 n7 n8) (.exit 0) (qi6 l5) :=
 .of_loopc (ks := [5]) (bs := []) (ans := [.br false]) (by kernel_rfl) h
theorem qut (l0 : List (List D)) (n1 n2 : Int) (l3 l4 : List (List D))
  (h : Obs [qac Tryz.prog (qaa Tryz.f199 0) (qcT l3 0 [] l0 n1 n2) (.exit 0) (qi6 l4)]) :
  Ret Tryz.prog 199 [.agg [D.sl 4 l0, I n1, I n2], .one (.sl 4 l3)] [.one (.sl 4 l4)] :=
 .of [.loop [(5, 31, 4)] [10, 9, 8, 2, 5] [2] (.exit 0) (qi6 l4)] _ Tryz.func199 rfl (by kernel_rfl) h
def qfl (l0 : List (List D)) (n1 : Int) (l2 : List (List D)) : St :=
 { env := envOf 28 [(3, .al (.one (.sl (.own 250000) 4 l2))), (9, .al (.one (.sl .free 8 l0))), (10, .al (.one (.v (.int .i64 (↑l0.length : Int))))), (11, .al (.one (.v (.int .i64 n1))))], boxes := [] }
def qeK (l0 : List (List D)) (n1 : Int) (l2 : List (List D)) (n3 : Int) (l4 : List (List D)) : St :=
 { env := envOf 28 [(3, .al (.one (.sl (.own 250000) 4 l4))), (9, .al (.one (.sl .free 8 l0))), (10, .al (.one (.v (.int .i64 (↑l0.length : Int))))), (11, .al (.one (.v (.int .i64 n1)))), (16, .al (.one (.sl .free 4 l2))), (17, .al (.one (.v (.int .i64 (↑l2.length : Int))))), (18, .al (.one (.v (.int .i64 n3))))], boxes := [] }
theorem quu (l3 : List (List D)) (n7 : Int) (l12 : List (List D)) (n17 : Int) (l18 : List (List D)) (n19 n20 n21 n22 : Int) (l23 : List (List D))
  (h : Obs [decide (n17 < (↑l12.length : Int)) = true, 0 ≤ n17, n17 < (↑l12.length : Int), l12[n17.toNat]? = some [I n19, I n20, I n21, I n22], Ret Tryz.prog 255 [.one (.sl 4 l18), .agg [I n19, I n20, I n21, I n22]] [.one (.sl 4 l23)], inInt .i64 (n17 + 1)]) :
  Tr Tryz.prog (qaa Tryz.f200 1) (qeK l3 n7 l12 n17 l18) .normal (qeK l3 n7 l12 (n17 + 1) l23) :=
 .of_loopc (ks := [18, 17, 16, 3, 11, 10, 9]) (bs := []) (ans := [.br true, .el [I n19, I n20, I n21, I n22], .res [.one (.sl 4 l23)]]) (by kernel_rfl) h
def qgt (l0 : List (List D)) (n1 : Int) (l2 : List (List D)) : St :=
 { env := envOf 28 [(3, .al (.one (.sl (.own 250000) 4 l2))), (9, .al (.one (.sl .free 8 l0))), (10, .al (.one (.v (.int .i64 (↑l0.length : Int))))), (11, .al (.one (.v (.int .i64 n1))))], boxes := [] }
theorem quv (l3 : List (List D)) (n7 : Int) (l12 : List (List D)) (n17 : Int) (l18 : List (List D))
  (h : Obs [decide (n17 < (↑l12.length : Int)) = false]) :
  Tr Tryz.prog (qaa Tryz.f200 1) (qeK l3 n7 l12 n17 l18) (.exit 2) (qgt l3 n7 l18) :=
 .of_loopc (ks := [11, 10, 9, 3]) (bs := []) (ans := [.br false]) (by kernel_rfl) h
theorem quw (l3 : List (List D)) (n7 : Int) (l8 l9 l10 l11 l12 l13 l14 l15 l16 l17 : List (List D))
  (h : Obs [decide (n7 < (↑l3.length : Int)) = true, 0 ≤ n7, n7 < (↑l3.length : Int), l3[n7.toNat]? = some [D.sl 5 l9, D.sl 5 l10, D.sl 5 l11, D.sl 4 l12, D.sl 1 l13, D.sl 1 l14, D.sl 1 l15, D.sl 2 l16], qac Tryz.prog (qaa Tryz.f200 1) (qeK l3 n7 l12 0 l8) (.exit 2) (qgt l3 n7 l17), inInt .i64 (n7 + 1)]) :
  Tr Tryz.prog (qaa Tryz.f200 0) (qfl l3 n7 l8) .normal (qfl l3 (n7 + 1) l17) :=
 .of_loopc (ks := [11, 10, 9, 3]) (bs := []) (ans := [.br true, .el [D.sl 5 l9, D.sl 5 l10, D.sl 5 l11, D.sl 4 l12, D.sl 1 l13, D.sl 1 l14, D.sl 1 l15, D.sl 2 l16], .loop [] [18, 17, 16, 3, 11, 10, 9] [] (.exit 2) (qgt l3 n7 l17)]) (by kernel_rfl) h
def qi7 (l0 : List (List D)) : St :=
 { env := envOf 28 [(3, .al (.one (.sl (.own 250000) 4 l0)))], boxes := [] }
theorem qux (l3 : List (List D)) (n7 : Int) (l8 : List (List D))
  (h : Obs [decide (n7 < (↑l3.length : Int)) = false]) :
  Tr Tryz.prog (qaa Tryz.f200 0) (qfl l3 n7 l8) (.exit 0) (qi7 l8) :=
 .of_loopc (ks := [3]) (bs := []) (ans := [.br false]) (by kernel_rfl) h
theorem quy (l0 : List (List D)) (n1 n2 : Int) (l3 l4 l5 l6 l7 : List (List D))
  (h : Obs [qac Tryz.prog (qaa Tryz.f200 0) (qfl l3 0 []) (.exit 0) (qi7 l7)]) :
  Ret Tryz.prog 200 [.agg [D.sl 4 l0, I n1, I n2, D.sl 8 l3, D.sl 6 l4, D.sl 5 l5, D.sl 3 l6]] [.one (.sl 4 l7)] :=
 .of [.loop [(3, 250000, 4)] [11, 10, 9, 3] [] (.exit 0) (qi7 l7)] _ Tryz.func200 rfl (by kernel_rfl) h
def qdS (n0 : Int) (l1 : List (List D)) (n2 : Int) (l3 : List (List D)) : St :=
 { env := envOf 28 [(1, .al (.one (.v (.int .i64 n0)))), (5, .al (.one (.sl (.own 25) 4 l3))), (12, .al (.one (.sl (.own 130000) 4 l1))), (13, .al (.one (.v (.int .i64 (↑l1.length : Int))))), (14, .al (.one (.v (.int .i64 n2))))], boxes := [] }
theorem quz (n7 : Int) (l9 : List (List D)) (n10 : Int) (l11 : List (List D)) (n12 n13 n14 n15 : Int)
  (h : Obs [decide (n10 < (↑l9.length : Int)) = true, 0 ≤ n10, n10 < (↑l9.length : Int), l9[n10.toNat]? = some [I n12, I n13, I n14, I n15], (n13 == n7) = true, (l11.length + [[I n12, I n13, I n14, I n15]].length) * 32 ≤ 140737488355328, l11.length + [[I n12, I n13, I n14, I n15]].length ≤ 9223372036854775807, Flat [[I n12, I n13, I n14, I n15]], inInt .i64 (n10 + 1)]) :
  Tr Tryz.prog (qaa Tryz.f104 0) (qdS n7 l9 n10 l11) .normal (qdS n7 l9 (n10 + 1) (l11 ++ [[I n12, I n13, I n14, I n15]])) :=
 .of_loopc (ks := [14, 13, 12, 1, 5]) (bs := []) (ans := [.br true, .el [I n12, I n13, I n14, I n15], .br true]) (by kernel_rfl) h
theorem quA (n7 : Int) (l9 : List (List D)) (n10 : Int) (l11 : List (List D)) (n12 n13 n14 n15 : Int)
  (h : Obs [decide (n10 < (↑l9.length : Int)) = true, 0 ≤ n10, n10 < (↑l9.length : Int), l9[n10.toNat]? = some [I n12, I n13, I n14, I n15], (n13 == n7) = false, inInt .i64 (n10 + 1)]) :
  Tr Tryz.prog (qaa Tryz.f104 0) (qdS n7 l9 n10 l11) .normal (qdS n7 l9 (n10 + 1) l11) :=
 .of_loopc (ks := [14, 13, 12, 1, 5]) (bs := []) (ans := [.br true, .el [I n12, I n13, I n14, I n15], .br false]) (by kernel_rfl) h
def qi8 (l0 : List (List D)) : St :=
 { env := envOf 28 [(5, .al (.one (.sl (.own 25) 4 l0)))], boxes := [] }
theorem quB (n7 : Int) (l9 : List (List D)) (n10 : Int) (l11 : List (List D))
  (h : Obs [decide (n10 < (↑l9.length : Int)) = false]) :
  Tr Tryz.prog (qaa Tryz.f104 0) (qdS n7 l9 n10 l11) (.exit 0) (qi8 l11) :=
 .of_loopc (ks := [5]) (bs := []) (ans := [.br false]) (by kernel_rfl) h
theorem quC (l0 : List (List D)) (n1 n2 : Int) (l3 l4 l5 l6 : List (List D)) (n7 : Int) (l8 l9 l10 : List (List D))
  (h : Obs [Ret Tryz.prog 200 [.agg [D.sl 4 l0, I n1, I n2, D.sl 8 l3, D.sl 6 l4, D.sl 5 l5, D.sl 3 l6]] [.one (.sl 4 l8)], Ret Tryz.prog 199 [.agg [D.sl 4 l0, I n1, I n2], .one (.sl 4 l8)] [.one (.sl 4 l9)], qac Tryz.prog (qaa Tryz.f104 0) (qdS n7 l9 0 []) (.exit 0) (qi8 l10)]) :
  Ret Tryz.prog 104 [.agg [D.sl 4 l0, I n1, I n2, D.sl 8 l3, D.sl 6 l4, D.sl 5 l5, D.sl 3 l6], .one (I n7)] [.one (.sl 4 l10)] :=
 .of [.res [.one (.sl 4 l8)], .res [.one (.sl 4 l9)], .loop [(5, 25, 4)] [14, 13, 12, 1, 5] [] (.exit 0) (qi8 l10)] _ Tryz.func104 rfl (by kernel_rfl) h
theorem quD (n0 n1 n2 n3 n4 n5 n6 n7 : Int)
  (h : Obs [(n0 == n4) = true, (n1 == n5) = true]) :
  Ret Tryz.prog 298 [.agg [I n0, I n1, I n2, I n3], .agg [I n4, I n5, I n6, I n7]] [.one (B (n2 == n6))] :=
 .of [.br true, .br true] _ Tryz.func298 rfl (by kernel_rfl) h
theorem quE (n0 n1 n2 n3 n4 n5 n6 n7 : Int)
  (h : Obs [(n0 == n4) = true, (n1 == n5) = false]) :
  Ret Tryz.prog 298 [.agg [I n0, I n1, I n2, I n3], .agg [I n4, I n5, I n6, I n7]] [.one (B false)] :=
 .of [.br true, .br false] _ Tryz.func298 rfl (by kernel_rfl) h
theorem quF (n0 n1 n2 n3 n4 n5 n6 n7 : Int)
  (h : Obs [(n0 == n4) = false]) :
  Ret Tryz.prog 298 [.agg [I n0, I n1, I n2, I n3], .agg [I n4, I n5, I n6, I n7]] [.one (B false)] :=
 .of [.br false] _ Tryz.func298 rfl (by kernel_rfl) h
theorem quG (n0 n1 n2 n3 n4 n5 n6 n7 : Int) (b8 : Bool)
  (h : Obs [Ret Tryz.prog 298 [.agg [I n4, I n5, I n6, I n7], .agg [I n0, I n1, I n2, I n3]] [.one (B b8)]]) :
  Ret Tryz.prog 297 [.agg [I n0, I n1, I n2, I n3], .one (.ptr [I n4, I n5, I n6, I n7])] [.one (B b8)] :=
 .of [.res [.one (B b8)]] _ Tryz.func297 rfl (by kernel_rfl) h
theorem quH (l0 : List (List D)) (g1 : Nat) (k2 : List D) (n3 : Int)
  (h : Obs [Ret Tryz.prog 312 [.one (.sl 4 l0), .one (.cl g1 k2)] [.one (I n3)], (n3 == -1) = true]) :
  RetG Tryz.prog 296 [GA.one (GC.gv 4 l0 none), GA.one (GC.ro (D.cl g1 k2))] [.one (.sl 4 l0)] :=
 .of [.res [.one (I n3)], .br true] _ Tryz.func296 rfl (by kernel_rfl) h
def qdb (g0 : Nat) (k1 : List D) (n2 n3 : Int) (l4 : List (List D)) : St :=
 { env := envOf 42 [(0, .al (.one (.sl (.own 1000000000) 4 l4))), (1, .al (.one (.fd (D.cl g0 k1)))), (5, .al (.one (.v (.int .i64 n3)))), (6, .al (.one (.v (.int .i64 n2))))], boxes := [] }
theorem quI (g1 : Nat) (k2 : List D) (n4 n5 : Int) (l6 : List (List D)) (n7 n8 n9 n10 : Int) (b11 : Bool) (d12 d13 d14 d15 : D)
  (h : Obs [decide (n4 < (↑l6.length : Int)) = true, 0 ≤ n4, n4 < (↑l6.length : Int), l6[n4.toNat]? = some [I n7, I n8, I n9, I n10], qbk Tryz.prog g1 = true, Ret Tryz.prog g1 ([.agg [I n7, I n8, I n9, I n10]] ++ List.map .one k2) [.one (B b11)], (!b11) = true, 0 ≤ n5, n5 < (↑l6.length : Int), l6[n5.toNat]? = some [d12, d13, d14, d15], inInt .i64 (n5 + 1), inInt .i64 (n4 + 1)]) :
  Tr Tryz.prog (qaa Tryz.f296 0) (qdb g1 k2 n4 n5 l6) .normal (qdb g1 k2 (n4 + 1) (n5 + 1) (l6.set n5.toNat [I n7, I n8, I n9, I n10])) :=
 .of_loopc (ks := [6, 0, 1, 5]) (bs := []) (ans := [.br true, .el [I n7, I n8, I n9, I n10], .res [.one (B b11)], .br true, .el [d12, d13, d14, d15]]) (by kernel_rfl) h
theorem quJ (g1 : Nat) (k2 : List D) (n4 n5 : Int) (l6 : List (List D)) (n7 n8 n9 n10 : Int) (b11 : Bool)
  (h : Obs [decide (n4 < (↑l6.length : Int)) = true, 0 ≤ n4, n4 < (↑l6.length : Int), l6[n4.toNat]? = some [I n7, I n8, I n9, I n10], qbk Tryz.prog g1 = true, Ret Tryz.prog g1 ([.agg [I n7, I n8, I n9, I n10]] ++ List.map .one k2) [.one (B b11)], (!b11) = false, inInt .i64 (n4 + 1)]) :
  Tr Tryz.prog (qaa Tryz.f296 0) (qdb g1 k2 n4 n5 l6) .normal (qdb g1 k2 (n4 + 1) n5 l6) :=
 .of_loopc (ks := [6, 0, 1, 5]) (bs := []) (ans := [.br true, .el [I n7, I n8, I n9, I n10], .res [.one (B b11)], .br false]) (by kernel_rfl) h
def qgu (l0 : List (List D)) (n1 : Int) : St :=
 { env := envOf 42 [(0, .al (.one (.sl (.own 1000000000) 4 l0))), (5, .al (.one (.v (.int .i64 n1))))], boxes := [] }
theorem quK (g1 : Nat) (k2 : List D) (n4 n5 : Int) (l6 : List (List D))
  (h : Obs [decide (n4 < (↑l6.length : Int)) = false]) :
  Tr Tryz.prog (qaa Tryz.f296 0) (qdb g1 k2 n4 n5 l6) (.exit 0) (qgu l6 n5) :=
 .of_loopc (ks := [0, 5]) (bs := []) (ans := [.br false]) (by kernel_rfl) h
theorem quL (l0 : List (List D)) (g1 : Nat) (k2 : List D) (n3 : Int) (l4 : List (List D)) (n5 : Int)
  (h : Obs [Ret Tryz.prog 312 [.one (.sl 4 l0), .one (.cl g1 k2)] [.one (I n3)], (n3 == -1) = false, inInt .i64 (n3 + 1), qac Tryz.prog (qaa Tryz.f296 0) (qdb g1 k2 (n3 + 1) n3 l0) (.exit 0) (qgu l4 n5), 0 ≤ (some n5).getD 0, (some n5).getD 0 < (↑l4.length : Int), Flat l4, (0 : Int) ≤ none.getD 0, none.getD 0 ≤ (some n5).getD (↑(List.take ((some n5).getD 0).toNat l4 ++ List.replicate (l4.length - ((some n5).getD 0).toNat) [I 0, I 0, I 0, I 0]).length : Int), (some n5).getD (↑(List.take ((some n5).getD 0).toNat l4 ++ List.replicate (l4.length - ((some n5).getD 0).toNat) [I 0, I 0, I 0, I 0]).length : Int) ≤ (↑(List.take ((some n5).getD 0).toNat l4 ++ List.replicate (l4.length - ((some n5).getD 0).toNat) [I 0, I 0, I 0, I 0]).length : Int)]) :
  RetG Tryz.prog 296 [GA.one (GC.gv 4 l0 none), GA.one (GC.ro (D.cl g1 k2))] [.one (.sl 4 (List.take (((some n5).getD (↑(List.take ((some n5).getD 0).toNat l4 ++ List.replicate (l4.length - ((some n5).getD 0).toNat) [I 0, I 0, I 0, I 0]).length : Int)).toNat - 0) (List.drop 0 (List.take ((some n5).getD 0).toNat l4 ++ List.replicate (l4.length - ((some n5).getD 0).toNat) [I 0, I 0, I 0, I 0]))))] :=
 .of [.res [.one (I n3)], .br false, .loop [] [6, 0, 1, 5] [] (.exit 0) (qgu l4 n5), .own] _ Tryz.func296 rfl (by kernel_rfl) h
def qbC (l0 : List (List D)) (n1 n2 n3 n4 : Int) (b5 : Bool) (n6 : Int) : St :=
 { env := envOf 41 [(1, .al (.one (.v (.int .i64 n1)))), (2, .al (.one (.v (.int .i64 n2)))), (3, .al (.one (.v (.int .i64 n3)))), (10, .al (.one (.v (.int .i64 n6)))), (11, .al (.one (.sb b5))), (14, .al (.one (.sl .free 4 l0))), (15, .al (.one (.v (.int .i64 (↑l0.length : Int))))), (16, .al (.one (.v (.int .i64 n4))))], boxes := [] }
theorem quM (l0 : List (List D)) (n1 n2 n3 n4 : Int) (b5 : Bool) (n6 n7 n8 n9 n10 : Int) (b11 : Bool)
  (h : Obs [decide (n4 < (↑l0.length : Int)) = true, 0 ≤ n4, n4 < (↑l0.length : Int), l0[n4.toNat]? = some [I n7, I n8, I n9, I n10], Ret Tryz.prog 298 [.agg [I n7, I n8, I n9, I n10], .agg [I n1, I n2, I n3, I 0]] [.one (B b11)], b11 = true, (!b5) = true, inInt .i64 (n4 + 1)]) :
  Tr Tryz.prog (qaa Tryz.f295 0) (qbC l0 n1 n2 n3 n4 b5 n6) .normal (qbC l0 n1 n2 n3 (n4 + 1) true n10) :=
 .of_loopc (ks := [16, 15, 14, 1, 2, 3, 11, 10]) (bs := []) (ans := [.br true, .el [I n7, I n8, I n9, I n10], .res [.one (B b11)], .br true, .br true]) (by kernel_rfl) h
theorem quN (l0 : List (List D)) (n1 n2 n3 n4 : Int) (b5 : Bool) (n6 n7 n8 n9 n10 : Int) (b11 : Bool)
  (h : Obs [decide (n4 < (↑l0.length : Int)) = true, 0 ≤ n4, n4 < (↑l0.length : Int), l0[n4.toNat]? = some [I n7, I n8, I n9, I n10], Ret Tryz.prog 298 [.agg [I n7, I n8, I n9, I n10], .agg [I n1, I n2, I n3, I 0]] [.one (B b11)], b11 = true, (!b5) = false, decide (n10 < n6) = true, inInt .i64 (n4 + 1)]) :
  Tr Tryz.prog (qaa Tryz.f295 0) (qbC l0 n1 n2 n3 n4 b5 n6) .normal (qbC l0 n1 n2 n3 (n4 + 1) true n10) :=
 .of_loopc (ks := [16, 15, 14, 1, 2, 3, 11, 10]) (bs := []) (ans := [.br true, .el [I n7, I n8, I n9, I n10], .res [.one (B b11)], .br true, .br false, .br true]) (by kernel_rfl) h
theorem quO (l0 : List (List D)) (n1 n2 n3 n4 : Int) (b5 : Bool) (n6 n7 n8 n9 n10 : Int) (b11 : Bool)
  (h : Obs [decide (n4 < (↑l0.length : Int)) = true, 0 ≤ n4, n4 < (↑l0.length : Int), l0[n4.toNat]? = some [I n7, I n8, I n9, I n10], Ret Tryz.prog 298 [.agg [I n7, I n8, I n9, I n10], .agg [I n1, I n2, I n3, I 0]] [.one (B b11)], b11 = true, (!b5) = false, decide (n10 < n6) = false, inInt .i64 (n4 + 1)]) :
  Tr Tryz.prog (qaa Tryz.f295 0) (qbC l0 n1 n2 n3 n4 b5 n6) .normal (qbC l0 n1 n2 n3 (n4 + 1) b5 n6) :=
 .of_loopc (ks := [16, 15, 14, 1, 2, 3, 11, 10]) (bs := []) (ans := [.br true, .el [I n7, I n8, I n9, I n10], .res [.one (B b11)], .br true, .br false, .br false]) (by kernel_rfl) h
theorem quP (l0 : List (List D)) (n1 n2 n3 n4 : Int) (b5 : Bool) (n6 n7 n8 n9 n10 : Int) (b11 : Bool)
  (h : Obs [decide (n4 < (↑l0.length : Int)) = true, 0 ≤ n4, n4 < (↑l0.length : Int), l0[n4.toNat]? = some [I n7, I n8, I n9, I n10], Ret Tryz.prog 298 [.agg [I n7, I n8, I n9, I n10], .agg [I n1, I n2, I n3, I 0]] [.one (B b11)], b11 = false, inInt .i64 (n4 + 1)]) :
  Tr Tryz.prog (qaa Tryz.f295 0) (qbC l0 n1 n2 n3 n4 b5 n6) .normal (qbC l0 n1 n2 n3 (n4 + 1) b5 n6) :=
 .of_loopc (ks := [16, 15, 14, 1, 2, 3, 11, 10]) (bs := []) (ans := [.br true, .el [I n7, I n8, I n9, I n10], .res [.one (B b11)], .br false]) (by kernel_rfl) h
def qi9 (n0 : Int) (b1 : Bool) : St :=
 { env := envOf 41 [(10, .al (.one (.v (.int .i64 n0)))), (11, .al (.one (.sb b1)))], boxes := [] }
theorem quQ (l0 : List (List D)) (n1 n2 n3 n4 : Int) (b5 : Bool) (n6 : Int)
  (h : Obs [decide (n4 < (↑l0.length : Int)) = false]) :
  Tr Tryz.prog (qaa Tryz.f295 0) (qbC l0 n1 n2 n3 n4 b5 n6) (.exit 0) (qi9 n6 b5) :=
 .of_loopc (ks := [10, 11]) (bs := []) (ans := [.br false]) (by kernel_rfl) h
theorem quR (l0 : List (List D)) (n1 n2 n3 n4 : Int) (b5 : Bool)
  (h : Obs [qac Tryz.prog (qaa Tryz.f295 0) (qbC l0 n1 n2 n3 0 false 0) (.exit 0) (qi9 n4 b5)]) :
  Ret Tryz.prog 295 [.one (.sl 4 l0), .one (I n1), .one (I n2), .one (I n3)] [.one (I n4), .one (B b5)] :=
 .of [.loop [] [16, 15, 14, 1, 2, 3, 11, 10] [] (.exit 0) (qi9 n4 b5)] _ Tryz.func295 rfl (by kernel_rfl) h
theorem quS (l0 : List (List D)) (n1 n2 n3 n4 n5 : Int) (b6 : Bool) (l7 : List (List D))
  (h : Obs [Ret Tryz.prog 295 [.one (.sl 4 l0), .one (I n1), .one (I n2), .one (I n3)] [.one (I n5), .one (B b6)], b6 = true, decide (n5 ≤ n4) = true, Ret Tryz.prog 154 [.one (.sl 4 l0)] [.one (.sl 4 l7)]]) :
  Ret Tryz.prog 254 [.one (.sl 4 l0), .agg [I n1, I n2, I n3, I n4]] [.one (.sl 4 l7), .one (B false)] :=
 .of [.res [.one (I n5), .one (B b6)], .br true, .br true, .res [.one (.sl 4 l7)]] _ Tryz.func254 rfl (by kernel_rfl) h
theorem quT (l0 : List (List D)) (n1 n2 n3 n4 n5 : Int) (b6 : Bool) (l7 l9 l10 : List (List D))
  (h : Obs [Ret Tryz.prog 295 [.one (.sl 4 l0), .one (I n1), .one (I n2), .one (I n3)] [.one (I n5), .one (B b6)], b6 = true, decide (n5 ≤ n4) = false, Ret Tryz.prog 154 [.one (.sl 4 l0)] [.one (.sl 4 l7)], RetG Tryz.prog 296 [GA.one (GC.gv 4 l7 none), GA.one (GC.ro (D.cl 297 [D.ptr [I n1, I n2, I n3, I n4]]))] [.one (.sl 4 l9)], Ret Tryz.prog 255 [.one (.sl 4 l9), .agg [I n1, I n2, I n3, I n4]] [.one (.sl 4 l10)]]) :
  Ret Tryz.prog 254 [.one (.sl 4 l0), .agg [I n1, I n2, I n3, I n4]] [.one (.sl 4 l10), .one (B true)] :=
 .of [.res [.one (I n5), .one (B b6)], .br true, .br false, .res [.one (.sl 4 l7)], .resG [[some none], [none]] 0 [] [.one (.sl 4 l9)], .res [.one (.sl 4 l10)]] _ Tryz.func254 rfl (by kernel_rfl) h
theorem quU (l0 : List (List D)) (n1 n2 n3 n4 n5 : Int) (b6 : Bool) (l7 l9 l10 : List (List D))
  (h : Obs [Ret Tryz.prog 295 [.one (.sl 4 l0), .one (I n1), .one (I n2), .one (I n3)] [.one (I n5), .one (B b6)], b6 = false, Ret Tryz.prog 154 [.one (.sl 4 l0)] [.one (.sl 4 l7)], RetG Tryz.prog 296 [GA.one (GC.gv 4 l7 none), GA.one (GC.ro (D.cl 297 [D.ptr [I n1, I n2, I n3, I n4]]))] [.one (.sl 4 l9)], Ret Tryz.prog 255 [.one (.sl 4 l9), .agg [I n1, I n2, I n3, I n4]] [.one (.sl 4 l10)]]) :
  Ret Tryz.prog 254 [.one (.sl 4 l0), .agg [I n1, I n2, I n3, I n4]] [.one (.sl 4 l10), .one (B true)] :=
 .of [.res [.one (I n5), .one (B b6)], .br false, .res [.one (.sl 4 l7)], .resG [[some none], [none]] 0 [] [.one (.sl 4 l9)], .res [.one (.sl 4 l10)]] _ Tryz.func254 rfl (by kernel_rfl) h
def qdT (n0 n1 n2 n3 n4 : Int) : St :=
 { env := envOf 41 [(5, .al (.one (.sl (.own 27) 1 [[I n0], [I n1], [I n2], [I n3]]))), (6, .al (.one (.v (.int .i64 n4))))], boxes := [] }
def qgv (n0 : Int) : St :=
 { env := envOf 41 [(4, .al (.one (.v (.int .i64 n0))))], boxes := [] }
theorem quZ (n8 n9 n10 n11 n12 n13 n14 : Int)
  (h : Obs [decide (n12 < 4) = true, 0 ≤ n12, n12 < (↑[[I n8], [I n9], [I n10], [I n11]].length : Int), [[I n8], [I n9], [I n10], [I n11]][n12.toNat]? = some [I n13], (n13 != 0) = true, 0 ≤ n12, n12 < (↑[[I n8], [I n9], [I n10], [I n11]].length : Int), [[I n8], [I n9], [I n10], [I n11]][n12.toNat]? = some [I n14]]) :
  Tr Tryz.prog (qaa Tryz.f292 0) (qdT n8 n9 n10 n11 n12) .ret (qgv n14) :=
 .of_loopc (ks := [4]) (bs := []) (ans := [.br true, .el [I n13], .br true, .el [I n14]]) (by kernel_rfl) h
theorem qu0 (n8 n9 n10 n11 n12 n13 : Int)
  (h : Obs [decide (n12 < 4) = true, 0 ≤ n12, n12 < (↑[[I n8], [I n9], [I n10], [I n11]].length : Int), [[I n8], [I n9], [I n10], [I n11]][n12.toNat]? = some [I n13], (n13 != 0) = false, inInt .i64 (n12 + 1)]) :
  Tr Tryz.prog (qaa Tryz.f292 0) (qdT n8 n9 n10 n11 n12) .normal (qdT n8 n9 n10 n11 (n12 + 1)) :=
 .of_loopc (ks := [6, 5]) (bs := []) (ans := [.br true, .el [I n13], .br false]) (by kernel_rfl) h
def qja : St :=
 { env := envOf 41 [], boxes := [] }
theorem qu1 (n8 n9 n10 n11 n12 : Int)
  (h : Obs [decide (n12 < 4) = false]) :
  Tr Tryz.prog (qaa Tryz.f292 0) (qdT n8 n9 n10 n11 n12) (.exit 0) qja :=
 .of_loopc (ks := []) (bs := []) (ans := [.br false]) (by kernel_rfl) h
theorem qu2 (n0 n1 n2 n3 n4 n5 n6 n7 n8 n9 n10 n11 n12 : Int)
  (h : Obs [Ret Tryz.prog 305 [.one (I n1), .one (I n5)] [.one (I n8)], Ret Tryz.prog 305 [.one (I n0), .one (I n4)] [.one (I n9)], Ret Tryz.prog 305 [.one (I n2), .one (I n6)] [.one (I n10)], Ret Tryz.prog 305 [.one (I n3), .one (I n7)] [.one (I n11)], qac Tryz.prog (qaa Tryz.f292 0) (qdT n8 n9 n10 n11 0) .ret (qgv n12)]) :
  Ret Tryz.prog 292 [.agg [I n0, I n1, I n2, I n3], .agg [I n4, I n5, I n6, I n7]] [.one (I n12)] :=
 .of [.res [.one (I n8)], .res [.one (I n9)], .res [.one (I n10)], .res [.one (I n11)], .loop [] [6, 5] [] .ret (qgv n12)] _ Tryz.func292 rfl (by kernel_rfl) h
theorem qu3 (n0 n1 n2 n3 n4 n5 n6 n7 n8 n9 n10 n11 : Int)
  (h : Obs [Ret Tryz.prog 305 [.one (I n1), .one (I n5)] [.one (I n8)], Ret Tryz.prog 305 [.one (I n0), .one (I n4)] [.one (I n9)], Ret Tryz.prog 305 [.one (I n2), .one (I n6)] [.one (I n10)], Ret Tryz.prog 305 [.one (I n3), .one (I n7)] [.one (I n11)], qac Tryz.prog (qaa Tryz.f292 0) (qdT n8 n9 n10 n11 0) (.exit 0) qja]) :
  Ret Tryz.prog 292 [.agg [I n0, I n1, I n2, I n3], .agg [I n4, I n5, I n6, I n7]] [.one (I 0)] :=
 .of [.res [.one (I n8)], .res [.one (I n9)], .res [.one (I n10)], .res [.one (I n11)], .loop [] [6, 5] [] (.exit 0) qja] _ Tryz.func292 rfl (by kernel_rfl) h
def qdU (l0 : List (List D)) (n1 n2 n3 n4 n5 : Int) : St :=
 { env := envOf 18 [(0, .al (.one (.sl .free 4 l0))), (3, .al (.one (.ptr 3 0))), (5, .al (.one (.v (.int .i64 n5))))], boxes := [(3, [.v (.int .i64 n1), .v (.int .i64 n2), .v (.int .i64 n3), .v (.int .i64 n4)])] }
def qgw (b0 : Bool) : St :=
 { env := envOf 18 [(4, .al (.one (.sb b0)))], boxes := [] }
theorem qu4 (l0 : List (List D)) (n1 n2 n3 n4 n5 n6 n7 n8 n9 : Int)
  (h : Obs [decide (n5 < (↑l0.length : Int)) = true, 0 ≤ n5, n5 < (↑l0.length : Int), l0[n5.toNat]? = some [I n6, I n7, I n8, I n9], (n6 == n1 && (n7 == n2 && (n8 == n3 && n9 == n4))) = true]) :
  Tr Tryz.prog (qaa Tryz.f243 0) (qdU l0 n1 n2 n3 n4 n5) .ret (qgw true) :=
 .of_loopc (ks := [4]) (bs := []) (ans := [.br true, .el [I n6, I n7, I n8, I n9], .br true]) (by kernel_rfl) h
theorem qu5 (l0 : List (List D)) (n1 n2 n3 n4 n5 n6 n7 n8 n9 : Int)
  (h : Obs [decide (n5 < (↑l0.length : Int)) = true, 0 ≤ n5, n5 < (↑l0.length : Int), l0[n5.toNat]? = some [I n6, I n7, I n8, I n9], (n6 == n1 && (n7 == n2 && (n8 == n3 && n9 == n4))) = false, inInt .i64 (n5 + 1)]) :
  Tr Tryz.prog (qaa Tryz.f243 0) (qdU l0 n1 n2 n3 n4 n5) .normal (qdU l0 n1 n2 n3 n4 (n5 + 1)) :=
 .of_loopc (ks := [5, 0, 3]) (bs := [3]) (ans := [.br true, .el [I n6, I n7, I n8, I n9], .br false]) (by kernel_rfl) h
def qjb : St :=
 { env := envOf 18 [], boxes := [] }
theorem qu6 (l0 : List (List D)) (n1 n2 n3 n4 n5 : Int)
  (h : Obs [decide (n5 < (↑l0.length : Int)) = false]) :
  Tr Tryz.prog (qaa Tryz.f243 0) (qdU l0 n1 n2 n3 n4 n5) (.exit 0) qjb :=
 .of_loopc (ks := []) (bs := []) (ans := [.br false]) (by kernel_rfl) h
theorem qu7 (l0 : List (List D)) (n1 n2 n3 n4 : Int) (b5 : Bool)
  (h : Obs [qac Tryz.prog (qaa Tryz.f243 0) (qdU l0 n1 n2 n3 n4 0) .ret (qgw b5)]) :
  Ret Tryz.prog 243 [.one (.sl 4 l0), .agg [I n1, I n2, I n3, I n4]] [.one (B b5)] :=
 .of [.loop [] [5, 0, 3] [3] .ret (qgw b5)] _ Tryz.func243 rfl (by kernel_rfl) h
theorem qu8 (l0 : List (List D)) (n1 n2 n3 n4 : Int)
  (h : Obs [qac Tryz.prog (qaa Tryz.f243 0) (qdU l0 n1 n2 n3 n4 0) (.exit 0) qjb]) :
  Ret Tryz.prog 243 [.one (.sl 4 l0), .agg [I n1, I n2, I n3, I n4]] [.one (B false)] :=
 .of [.loop [] [5, 0, 3] [3] (.exit 0) qjb] _ Tryz.func243 rfl (by kernel_rfl) h
theorem qu9 (l0 : List (List D)) (n1 n2 n3 n4 : Int) (b5 : Bool)
  (h : Obs [Ret Tryz.prog 243 [.one (.sl 4 l0), .agg [I n1, I n2, I n3, I n4]] [.one (B b5)], b5 = true, (([] : List (List D)).length + l0.length) * 32 ≤ 140737488355328, ([] : List (List D)).length + l0.length ≤ 9223372036854775807, Flat l0]) :
  Ret Tryz.prog 244 [.one (.sl 4 l0), .agg [I n1, I n2, I n3, I n4]] [.one (.sl 4 ([] ++ l0))] :=
 .of [.res [.one (B b5)], .br true] _ Tryz.func244 rfl (by kernel_rfl) h
def qdV (l0 : List (List D)) (n1 n2 n3 n4 n5 : Int) : St :=
 { env := envOf 41 [(0, .al (.one (.sl .free 4 l0))), (3, .al (.one (.ptr 3 0))), (5, .al (.one (.v (.int .i64 n5))))], boxes := [(3, [.v (.int .i64 n1), .v (.int .i64 n2), .v (.int .i64 n3), .v (.int .i64 n4)])] }
theorem qva (l0 : List (List D)) (n1 n2 n3 n4 n6 n7 n8 n9 n10 n11 : Int)
  (h : Obs [decide (n6 < (↑l0.length : Int)) = true, 0 ≤ n6, n6 < (↑l0.length : Int), l0[n6.toNat]? = some [I n7, I n8, I n9, I n10], Ret Tryz.prog 292 [.agg [I n7, I n8, I n9, I n10], .agg [I n1, I n2, I n3, I n4]] [.one (I n11)], decide (n11 < 0) = true, inInt .i64 (n6 + 1)]) :
  Tr Tryz.prog (qaa Tryz.f244 0) (qdV l0 n1 n2 n3 n4 n6) .normal (qdV l0 n1 n2 n3 n4 (n6 + 1)) :=
 .of_loopc (ks := [5, 0, 3]) (bs := [3]) (ans := [.br true, .el [I n7, I n8, I n9, I n10], .res [.one (I n11)], .br true]) (by kernel_rfl) h
def qeL (l0 : List (List D)) (n1 n2 n3 n4 n5 : Int) : St :=
 { env := envOf 41 [(0, .al (.one (.sl .free 4 l0))), (3, .al (.one (.ptr 3 0))), (5, .al (.one (.v (.int .i64 n5))))], boxes := [(3, [.v (.int .i64 n1), .v (.int .i64 n2), .v (.int .i64 n3), .v (.int .i64 n4)])] }
theorem qvb (l0 : List (List D)) (n1 n2 n3 n4 n6 n7 n8 n9 n10 n11 : Int)
  (h : Obs [decide (n6 < (↑l0.length : Int)) = true, 0 ≤ n6, n6 < (↑l0.length : Int), l0[n6.toNat]? = some [I n7, I n8, I n9, I n10], Ret Tryz.prog 292 [.agg [I n7, I n8, I n9, I n10], .agg [I n1, I n2, I n3, I n4]] [.one (I n11)], decide (n11 < 0) = false]) :
  Tr Tryz.prog (qaa Tryz.f244 0) (qdV l0 n1 n2 n3 n4 n6) (.exit 0) (qeL l0 n1 n2 n3 n4 n6) :=
 .of_loopc (ks := [0, 5, 3]) (bs := [3]) (ans := [.br true, .el [I n7, I n8, I n9, I n10], .res [.one (I n11)], .br false]) (by kernel_rfl) h
theorem qvc (l0 : List (List D)) (n1 n2 n3 n4 n6 : Int)
  (h : Obs [decide (n6 < (↑l0.length : Int)) = false]) :
  Tr Tryz.prog (qaa Tryz.f244 0) (qdV l0 n1 n2 n3 n4 n6) (.exit 0) (qeL l0 n1 n2 n3 n4 n6) :=
 .of_loopc (ks := [0, 5, 3]) (bs := [3]) (ans := [.br false]) (by kernel_rfl) h
theorem qvd (l0 : List (List D)) (n1 n2 n3 n4 : Int) (b5 : Bool) (n6 : Int)
  (h : Obs [Ret Tryz.prog 243 [.one (.sl 4 l0), .agg [I n1, I n2, I n3, I n4]] [.one (B b5)], b5 = false, qac Tryz.prog (qaa Tryz.f244 0) (qdV l0 n1 n2 n3 n4 0) (.exit 0) (qeL l0 n1 n2 n3 n4 n6), (0 : Int) ≤ none.getD 0, none.getD 0 ≤ (some n6).getD (↑l0.length : Int), (some n6).getD (↑l0.length : Int) ≤ (↑l0.length : Int), (([] : List (List D)).length + (List.take (((some n6).getD (↑l0.length : Int)).toNat - 0) (List.drop 0 l0)).length) * 32 ≤ 140737488355328, ([] : List (List D)).length + (List.take (((some n6).getD (↑l0.length : Int)).toNat - 0) (List.drop 0 l0)).length ≤ 9223372036854775807, Flat (List.take (((some n6).getD (↑l0.length : Int)).toNat - 0) (List.drop 0 l0)), (([] ++ List.take (((some n6).getD (↑l0.length : Int)).toNat - 0) (List.drop 0 l0)).length + [[I n1, I n2, I n3, I n4]].length) * 32 ≤ 140737488355328, ([] ++ List.take (((some n6).getD (↑l0.length : Int)).toNat - 0) (List.drop 0 l0)).length + [[I n1, I n2, I n3, I n4]].length ≤ 9223372036854775807, Flat [[I n1, I n2, I n3, I n4]], 0 ≤ (some n6).getD 0, (some n6).getD 0 ≤ none.getD (↑l0.length : Int), none.getD (↑l0.length : Int) ≤ (↑l0.length : Int), (([] ++ List.take (((some n6).getD (↑l0.length : Int)).toNat - 0) (List.drop 0 l0) ++ [[I n1, I n2, I n3, I n4]]).length + (List.take (l0.length - ((some n6).getD 0).toNat) (List.drop ((some n6).getD 0).toNat l0)).length) * 32 ≤ 140737488355328, ([] ++ List.take (((some n6).getD (↑l0.length : Int)).toNat - 0) (List.drop 0 l0) ++ [[I n1, I n2, I n3, I n4]]).length + (List.take (l0.length - ((some n6).getD 0).toNat) (List.drop ((some n6).getD 0).toNat l0)).length ≤ 9223372036854775807, Flat (List.take (l0.length - ((some n6).getD 0).toNat) (List.drop ((some n6).getD 0).toNat l0))]) :
  Ret Tryz.prog 244 [.one (.sl 4 l0), .agg [I n1, I n2, I n3, I n4]] [.one (.sl 4 ([] ++ List.take (((some n6).getD (↑l0.length : Int)).toNat - 0) (List.drop 0 l0) ++ [[I n1, I n2, I n3, I n4]] ++ List.take (l0.length - ((some n6).getD 0).toNat) (List.drop ((some n6).getD 0).toNat l0)))] :=
 .of [.res [.one (B b5)], .br false, .loop [] [5, 0, 3] [3] (.exit 0) (qeL l0 n1 n2 n3 n4 n6)] _ Tryz.func244 rfl (by kernel_rfl) h
theorem qve (l0 : List (List D)) (n1 n2 n3 : Int) (b4 : Bool)
  (h : Obs [inInt .i64 ((↑l0.length : Int) - 1), Ret Tryz.prog 138 [.one (I n3), .one (I 0), .one (I ((↑l0.length : Int) - 1))] [.one (B b4)], (!b4) = true]) :
  Ret Tryz.prog 139 [.agg [D.sl 4 l0, I n1, I n2], .one (I n3)] [.agg [I 0, I 0, I 0, D.sl 1 []], .one (B false)] :=
 .of [.res [.one (B b4)], .br true] _ Tryz.func139 rfl (by kernel_rfl) h
theorem qvf (l0 : List (List D)) (n1 n2 n3 : Int) (b4 : Bool) (n5 n6 n7 : Int) (l8 : List (List D))
  (h : Obs [inInt .i64 ((↑l0.length : Int) - 1), Ret Tryz.prog 138 [.one (I n3), .one (I 0), .one (I ((↑l0.length : Int) - 1))] [.one (B b4)], (!b4) = false, 0 ≤ n3, n3 < (↑l0.length : Int), l0[n3.toNat]? = some [I n5, I n6, I n7, D.sl 1 l8], (([] : List (List D)).length + l8.length) * 8 ≤ 140737488355328, ([] : List (List D)).length + l8.length ≤ 9223372036854775807, Flat l8]) :
  Ret Tryz.prog 139 [.agg [D.sl 4 l0, I n1, I n2], .one (I n3)] [.agg [I n5, I n6, I n7, D.sl 1 ([] ++ l8)], .one (B true)] :=
 .of [.res [.one (B b4)], .br false, .el [I n5, I n6, I n7, D.sl 1 l8]] _ Tryz.func139 rfl (by kernel_rfl) h
def qcU (l0 : List (List D)) (n1 : Int) (l2 l3 : List (List D)) (n4 n5 : Int) : St :=
 { env := envOf 40 [(1, .al (.one (.sl .free 4 l0))), (2, .al (.one (.ptr 2 0))), (5, .al (.one (.sl (.own 9) 4 l2))), (6, .al (.one (.v (.int .i64 n1))))], boxes := [(2, [.sl .free 4 l3, .v (.int .i64 n4), .v (.int .i64 n5)])] }
theorem qvg (l3 : List (List D)) (n4 : Int) (l5 l6 : List (List D)) (n7 n8 n9 n10 n11 n12 n13 n14 n15 : Int) (l16 : List (List D)) (b17 : Bool) (n18 n19 n20 n21 : Int)
  (h : Obs [decide (n4 < (↑l3.length : Int)) = true, 0 ≤ n4, n4 < (↑l3.length : Int), l3[n4.toNat]? = some [I n9, I n10, I n11, I n12], Ret Tryz.prog 139 [.agg [D.sl 4 l6, I n7, I n8], .one (I n9)] [.agg [I n13, I n14, I n15, D.sl 1 l16], .one (B b17)], b17 = true, (n13 == 8) = true, 0 ≤ n4, n4 < (↑l3.length : Int), l3[n4.toNat]? = some [I n18, I n19, I n20, I n21], (l5.length + [[I n18, I n19, I n20, I n21]].length) * 32 ≤ 140737488355328, l5.length + [[I n18, I n19, I n20, I n21]].length ≤ 9223372036854775807, Flat [[I n18, I n19, I n20, I n21]], inInt .i64 (n4 + 1)]) :
  Tr Tryz.prog (qaa Tryz.f194 0) (qcU l3 n4 l5 l6 n7 n8) .normal (qcU l3 (n4 + 1) (l5 ++ [[I n18, I n19, I n20, I n21]]) l6 n7 n8) :=
 .of_loopc (ks := [6, 1, 2, 5]) (bs := [2]) (ans := [.br true, .el [I n9, I n10, I n11, I n12], .res [.agg [I n13, I n14, I n15, D.sl 1 l16], .one (B b17)], .br true, .br true, .el [I n18, I n19, I n20, I n21]]) (by kernel_rfl) h
theorem qvh (l3 : List (List D)) (n4 : Int) (l5 l6 : List (List D)) (n7 n8 n9 n10 n11 n12 n13 n14 n15 : Int) (l16 : List (List D)) (b17 : Bool)
  (h : Obs [decide (n4 < (↑l3.length : Int)) = true, 0 ≤ n4, n4 < (↑l3.length : Int), l3[n4.toNat]? = some [I n9, I n10, I n11, I n12], Ret Tryz.prog 139 [.agg [D.sl 4 l6, I n7, I n8], .one (I n9)] [.agg [I n13, I n14, I n15, D.sl 1 l16], .one (B b17)], b17 = true, (n13 == 8) = false, inInt .i64 (n4 + 1)]) :
  Tr Tryz.prog (qaa Tryz.f194 0) (qcU l3 n4 l5 l6 n7 n8) .normal (qcU l3 (n4 + 1) l5 l6 n7 n8) :=
 .of_loopc (ks := [6, 1, 2, 5]) (bs := [2]) (ans := [.br true, .el [I n9, I n10, I n11, I n12], .res [.agg [I n13, I n14, I n15, D.sl 1 l16], .one (B b17)], .br true, .br false]) (by kernel_rfl) h
theorem qvi (l3 : List (List D)) (n4 : Int) (l5 l6 : List (List D)) (n7 n8 n9 n10 n11 n12 n13 n14 n15 : Int) (l16 : List (List D)) (b17 : Bool)
  (h : Obs [decide (n4 < (↑l3.length : Int)) = true, 0 ≤ n4, n4 < (↑l3.length : Int), l3[n4.toNat]? = some [I n9, I n10, I n11, I n12], Ret Tryz.prog 139 [.agg [D.sl 4 l6, I n7, I n8], .one (I n9)] [.agg [I n13, I n14, I n15, D.sl 1 l16], .one (B b17)], b17 = false, inInt .i64 (n4 + 1)]) :
  Tr Tryz.prog (qaa Tryz.f194 0) (qcU l3 n4 l5 l6 n7 n8) .normal (qcU l3 (n4 + 1) l5 l6 n7 n8) :=
 .of_loopc (ks := [6, 1, 2, 5]) (bs := [2]) (ans := [.br true, .el [I n9, I n10, I n11, I n12], .res [.agg [I n13, I n14, I n15, D.sl 1 l16], .one (B b17)], .br false]) (by kernel_rfl) h
def qjc (l0 : List (List D)) : St :=
 { env := envOf 40 [(5, .al (.one (.sl (.own 9) 4 l0)))], boxes := [] }
theorem qvj (l3 : List (List D)) (n4 : Int) (l5 l6 : List (List D)) (n7 n8 : Int)
  (h : Obs [decide (n4 < (↑l3.length : Int)) = false]) :
  Tr Tryz.prog (qaa Tryz.f194 0) (qcU l3 n4 l5 l6 n7 n8) (.exit 0) (qjc l5) :=
 .of_loopc (ks := [5]) (bs := []) (ans := [.br false]) (by kernel_rfl) h
theorem qvk (l0 : List (List D)) (n1 n2 : Int) (l3 l4 : List (List D))
  (h : Obs [qac Tryz.prog (qaa Tryz.f194 0) (qcU l3 0 [] l0 n1 n2) (.exit 0) (qjc l4)]) :
  Ret Tryz.prog 194 [.agg [D.sl 4 l0, I n1, I n2], .one (.sl 4 l3)] [.one (.sl 4 l4)] :=
 .of [.loop [] [6, 1, 2, 5] [2] (.exit 0) (qjc l4)] _ Tryz.func194 rfl (by kernel_rfl) h
def qfm (l0 : List (List D)) (n1 n2 : Int) (l3 l4 l5 l6 : List (List D)) (n7 : Int) (l8 : List (List D)) : St :=
 { env := envOf 37 [(1, .al (.one (.ptr 1 0))), (3, .al (.one (.sl (.own 3) 4 l8))), (4, .al (.one (.v (.int .i64 n7))))], boxes := [(1, [.sl .free 4 l0, .v (.int .i64 n1), .v (.int .i64 n2), .sl .free 8 l3, .sl .free 6 l4, .sl .free 5 l5, .sl .free 3 l6])] }
def qeM (l0 : List (List D)) (n1 n2 : Int) (l3 l4 l5 l6 : List (List D)) (n7 n8 : Int) (l9 : List (List D)) : St :=
 { env := envOf 37 [(1, .al (.one (.ptr 1 0))), (3, .al (.one (.sl (.own 3) 4 l9))), (4, .al (.one (.v (.int .i64 n7)))), (5, .al (.one (.v (.int .i64 n8))))], boxes := [(1, [.sl .free 4 l0, .v (.int .i64 n1), .v (.int .i64 n2), .sl .free 8 l3, .sl .free 6 l4, .sl .free 5 l5, .sl .free 3 l6])] }
theorem qvl (l0 : List (List D)) (n1 n2 : Int) (l3 l4 l5 l6 : List (List D)) (n7 n9 : Int) (l10 l11 l12 l13 l14 l15 l16 l17 l18 l19 l20 l21 l22 l23 l24 l25 l26 : List (List D)) (n27 n28 n29 n30 : Int) (l31 : List (List D))
  (h : Obs [0 ≤ n7, n7 < (↑l3.length : Int), l3[n7.toNat]? = some [D.sl 5 l11, D.sl 5 l12, D.sl 5 l13, D.sl 4 l14, D.sl 1 l15, D.sl 1 l16, D.sl 1 l17, D.sl 2 l18], decide (n9 < (↑l14.length : Int)) = true, 0 ≤ n7, n7 < (↑l3.length : Int), l3[n7.toNat]? = some [D.sl 5 l19, D.sl 5 l20, D.sl 5 l21, D.sl 4 l22, D.sl 1 l23, D.sl 1 l24, D.sl 1 l25, D.sl 2 l26], 0 ≤ n9, n9 < (↑l22.length : Int), l22[n9.toNat]? = some [I n27, I n28, I n29, I n30], Ret Tryz.prog 244 [.one (.sl 4 l10), .agg [I n27, I n28, I n29, I n30]] [.one (.sl 4 l31)], inInt .i64 (n9 + 1)]) :
  Tr Tryz.prog (qaa Tryz.f195 1) (qeM l0 n1 n2 l3 l4 l5 l6 n7 n9 l10) .normal (qeM l0 n1 n2 l3 l4 l5 l6 n7 (n9 + 1) l31) :=
 .of_loopr (ns := [(3, 3, 4)]) (ks := [5, 1, 4, 3]) (bs := [1]) (ans := [.el [D.sl 5 l11, D.sl 5 l12, D.sl 5 l13, D.sl 4 l14, D.sl 1 l15, D.sl 1 l16, D.sl 1 l17, D.sl 2 l18], .br true, .el [D.sl 5 l19, D.sl 5 l20, D.sl 5 l21, D.sl 4 l22, D.sl 1 l23, D.sl 1 l24, D.sl 1 l25, D.sl 2 l26], .el [I n27, I n28, I n29, I n30], .res [.one (.sl 4 l31)]]) (by kernel_rfl) h
def qgx (l0 : List (List D)) (n1 n2 : Int) (l3 l4 l5 l6 : List (List D)) (n7 : Int) (l8 : List (List D)) : St :=
 { env := envOf 37 [(1, .al (.one (.ptr 1 0))), (3, .al (.one (.sl (.own 3) 4 l8))), (4, .al (.one (.v (.int .i64 n7))))], boxes := [(1, [.sl .free 4 l0, .v (.int .i64 n1), .v (.int .i64 n2), .sl .free 8 l3, .sl .free 6 l4, .sl .free 5 l5, .sl .free 3 l6])] }
theorem qvm (l0 : List (List D)) (n1 n2 : Int) (l3 l4 l5 l6 : List (List D)) (n7 n9 : Int) (l10 l11 l12 l13 l14 l15 l16 l17 l18 : List (List D))
  (h : Obs [0 ≤ n7, n7 < (↑l3.length : Int), l3[n7.toNat]? = some [D.sl 5 l11, D.sl 5 l12, D.sl 5 l13, D.sl 4 l14, D.sl 1 l15, D.sl 1 l16, D.sl 1 l17, D.sl 2 l18], decide (n9 < (↑l14.length : Int)) = false]) :
  Tr Tryz.prog (qaa Tryz.f195 1) (qeM l0 n1 n2 l3 l4 l5 l6 n7 n9 l10) (.exit 2) (qgx l0 n1 n2 l3 l4 l5 l6 n7 l10) :=
 .of_loopc (ks := [4, 1, 3]) (bs := [1]) (ans := [.el [D.sl 5 l11, D.sl 5 l12, D.sl 5 l13, D.sl 4 l14, D.sl 1 l15, D.sl 1 l16, D.sl 1 l17, D.sl 2 l18], .br false]) (by kernel_rfl) h
theorem qvn (l0 : List (List D)) (n1 n2 : Int) (l3 l4 l5 l6 : List (List D)) (n7 : Int) (l8 l9 : List (List D))
  (h : Obs [decide (n7 < (↑l3.length : Int)) = true, qac Tryz.prog (qaa Tryz.f195 1) (qeM l0 n1 n2 l3 l4 l5 l6 n7 0 l8) (.exit 2) (qgx l0 n1 n2 l3 l4 l5 l6 n7 l9), inInt .i64 (n7 + 1)]) :
  Tr Tryz.prog (qaa Tryz.f195 0) (qfm l0 n1 n2 l3 l4 l5 l6 n7 l8) .normal (qfm l0 n1 n2 l3 l4 l5 l6 (n7 + 1) l9) :=
 .of_loopr (ns := [(3, 3, 4)]) (ks := [4, 1, 3]) (bs := [1]) (ans := [.br true, .loop [(3, 3, 4)] [5, 1, 4, 3] [1] (.exit 2) (qgx l0 n1 n2 l3 l4 l5 l6 n7 l9)]) (by kernel_rfl) h
def qjd (l0 : List (List D)) : St :=
 { env := envOf 37 [(3, .al (.one (.sl (.own 3) 4 l0)))], boxes := [] }
theorem qvo (l0 : List (List D)) (n1 n2 : Int) (l3 l4 l5 l6 : List (List D)) (n7 : Int) (l8 : List (List D))
  (h : Obs [decide (n7 < (↑l3.length : Int)) = false]) :
  Tr Tryz.prog (qaa Tryz.f195 0) (qfm l0 n1 n2 l3 l4 l5 l6 n7 l8) (.exit 0) (qjd l8) :=
 .of_loopc (ks := [3]) (bs := []) (ans := [.br false]) (by kernel_rfl) h
theorem qvp (l0 : List (List D)) (n1 n2 : Int) (l3 l4 l5 l6 l7 : List (List D))
  (h : Obs [qac Tryz.prog (qaa Tryz.f195 0) (qfm l0 n1 n2 l3 l4 l5 l6 0 []) (.exit 0) (qjd l7)]) :
  Ret Tryz.prog 195 [.agg [D.sl 4 l0, I n1, I n2, D.sl 8 l3, D.sl 6 l4, D.sl 5 l5, D.sl 3 l6]] [.one (.sl 4 l7)] :=
 .of [.loop [(3, 3, 4)] [4, 1, 3] [1] (.exit 0) (qjd l7)] _ Tryz.func195 rfl (by kernel_rfl) h
def qdW (n0 : Int) (l1 : List (List D)) (n2 : Int) (l3 : List (List D)) : St :=
 { env := envOf 35 [(1, .al (.one (.v (.int .i64 n0)))), (5, .al (.one (.sl (.own 8) 4 l3))), (6, .al (.one (.sl (.own 140000) 4 l1))), (7, .al (.one (.v (.int .i64 n2))))], boxes := [] }
theorem qvq (n7 : Int) (l9 : List (List D)) (n10 : Int) (l11 : List (List D)) (n12 n13 n14 n15 n16 n17 n18 n19 : Int)
  (h : Obs [decide (n10 < (↑l9.length : Int)) = true, 0 ≤ n10, n10 < (↑l9.length : Int), l9[n10.toNat]? = some [I n12, I n13, I n14, I n15], (n13 == n7) = true, 0 ≤ n10, n10 < (↑l9.length : Int), l9[n10.toNat]? = some [I n16, I n17, I n18, I n19], (l11.length + [[I n16, I n17, I n18, I n19]].length) * 32 ≤ 140737488355328, l11.length + [[I n16, I n17, I n18, I n19]].length ≤ 9223372036854775807, Flat [[I n16, I n17, I n18, I n19]], inInt .i64 (n10 + 1)]) :
  Tr Tryz.prog (qaa Tryz.f100 0) (qdW n7 l9 n10 l11) .normal (qdW n7 l9 (n10 + 1) (l11 ++ [[I n16, I n17, I n18, I n19]])) :=
 .of_loopc (ks := [7, 6, 1, 5]) (bs := []) (ans := [.br true, .el [I n12, I n13, I n14, I n15], .br true, .el [I n16, I n17, I n18, I n19]]) (by kernel_rfl) h
theorem qvr (n7 : Int) (l9 : List (List D)) (n10 : Int) (l11 : List (List D)) (n12 n13 n14 n15 : Int)
  (h : Obs [decide (n10 < (↑l9.length : Int)) = true, 0 ≤ n10, n10 < (↑l9.length : Int), l9[n10.toNat]? = some [I n12, I n13, I n14, I n15], (n13 == n7) = false, inInt .i64 (n10 + 1)]) :
  Tr Tryz.prog (qaa Tryz.f100 0) (qdW n7 l9 n10 l11) .normal (qdW n7 l9 (n10 + 1) l11) :=
 .of_loopc (ks := [7, 6, 1, 5]) (bs := []) (ans := [.br true, .el [I n12, I n13, I n14, I n15], .br false]) (by kernel_rfl) h
def qje (l0 : List (List D)) : St :=
 { env := envOf 35 [(5, .al (.one (.sl (.own 8) 4 l0)))], boxes := [] }
theorem qvs (n7 : Int) (l9 : List (List D)) (n10 : Int) (l11 : List (List D))
  (h : Obs [decide (n10 < (↑l9.length : Int)) = false]) :
  Tr Tryz.prog (qaa Tryz.f100 0) (qdW n7 l9 n10 l11) (.exit 0) (qje l11) :=
 .of_loopc (ks := [5]) (bs := []) (ans := [.br false]) (by kernel_rfl) h
theorem qvt (l0 : List (List D)) (n1 n2 : Int) (l3 l4 l5 l6 : List (List D)) (n7 : Int) (l8 l9 l10 : List (List D))
  (h : Obs [Ret Tryz.prog 195 [.agg [D.sl 4 l0, I n1, I n2, D.sl 8 l3, D.sl 6 l4, D.sl 5 l5, D.sl 3 l6]] [.one (.sl 4 l8)], Ret Tryz.prog 194 [.agg [D.sl 4 l0, I n1, I n2], .one (.sl 4 l8)] [.one (.sl 4 l9)], qac Tryz.prog (qaa Tryz.f100 0) (qdW n7 l9 0 []) (.exit 0) (qje l10)]) :
  Ret Tryz.prog 100 [.agg [D.sl 4 l0, I n1, I n2, D.sl 8 l3, D.sl 6 l4, D.sl 5 l5, D.sl 3 l6], .one (I n7)] [.one (.sl 4 l10)] :=
 .of [.res [.one (.sl 4 l8)], .res [.one (.sl 4 l9)], .loop [] [7, 6, 1, 5] [] (.exit 0) (qje l10)] _ Tryz.func100 rfl (by kernel_rfl) h
def qbh (l0 : List (List D)) (n1 n2 n3 n4 : Int) (b5 : Bool) (n6 : Int) : St :=
 { env := envOf 54 [(0, .al (.one (.sl .free 4 l0))), (1, .al (.one (.v (.int .i64 n1)))), (2, .al (.one (.v (.int .i64 n2)))), (3, .al (.one (.v (.int .i64 n3)))), (10, .al (.one (.v (.int .i64 n6)))), (11, .al (.one (.sb b5))), (12, .al (.one (.v (.int .i64 n4))))], boxes := [] }
theorem qvu (l0 : List (List D)) (n1 n2 n3 n4 : Int) (b5 : Bool) (n6 n7 n8 n9 n10 : Int)
  (h : Obs [decide (n4 < (↑l0.length : Int)) = true, 0 ≤ n4, n4 < (↑l0.length : Int), l0[n4.toNat]? = some [I n7, I n8, I n9, I n10], (n7 == n1) = true, (n8 == n2) = true, (n9 == n3) = true, (!b5) = true, inInt .i64 (n4 + 1)]) :
  Tr Tryz.prog (qaa Tryz.f245 0) (qbh l0 n1 n2 n3 n4 b5 n6) .normal (qbh l0 n1 n2 n3 (n4 + 1) true n10) :=
 .of_loopc (ks := [12, 0, 1, 2, 3, 11, 10]) (bs := []) (ans := [.br true, .el [I n7, I n8, I n9, I n10], .br true, .br true, .br true, .br true]) (by kernel_rfl) h
theorem qvv (l0 : List (List D)) (n1 n2 n3 n4 : Int) (b5 : Bool) (n6 n7 n8 n9 n10 : Int)
  (h : Obs [decide (n4 < (↑l0.length : Int)) = true, 0 ≤ n4, n4 < (↑l0.length : Int), l0[n4.toNat]? = some [I n7, I n8, I n9, I n10], (n7 == n1) = true, (n8 == n2) = true, (n9 == n3) = true, (!b5) = false, decide (n10 < n6) = true, inInt .i64 (n4 + 1)]) :
  Tr Tryz.prog (qaa Tryz.f245 0) (qbh l0 n1 n2 n3 n4 b5 n6) .normal (qbh l0 n1 n2 n3 (n4 + 1) true n10) :=
 .of_loopc (ks := [12, 0, 1, 2, 3, 11, 10]) (bs := []) (ans := [.br true, .el [I n7, I n8, I n9, I n10], .br true, .br true, .br true, .br false, .br true]) (by kernel_rfl) h
theorem qvw (l0 : List (List D)) (n1 n2 n3 n4 : Int) (b5 : Bool) (n6 n7 n8 n9 n10 : Int)
  (h : Obs [decide (n4 < (↑l0.length : Int)) = true, 0 ≤ n4, n4 < (↑l0.length : Int), l0[n4.toNat]? = some [I n7, I n8, I n9, I n10], (n7 == n1) = true, (n8 == n2) = true, (n9 == n3) = true, (!b5) = false, decide (n10 < n6) = false, inInt .i64 (n4 + 1)]) :
  Tr Tryz.prog (qaa Tryz.f245 0) (qbh l0 n1 n2 n3 n4 b5 n6) .normal (qbh l0 n1 n2 n3 (n4 + 1) b5 n6) :=
 .of_loopc (ks := [12, 0, 1, 2, 3, 11, 10]) (bs := []) (ans := [.br true, .el [I n7, I n8, I n9, I n10], .br true, .br true, .br true, .br false, .br false]) (by kernel_rfl) h
theorem qvx (l0 : List (List D)) (n1 n2 n3 n4 : Int) (b5 : Bool) (n6 n7 n8 n9 n10 : Int)
  (h : Obs [decide (n4 < (↑l0.length : Int)) = true, 0 ≤ n4, n4 < (↑l0.length : Int), l0[n4.toNat]? = some [I n7, I n8, I n9, I n10], (n7 == n1) = true, (n8 == n2) = true, (n9 == n3) = false, inInt .i64 (n4 + 1)]) :
  Tr Tryz.prog (qaa Tryz.f245 0) (qbh l0 n1 n2 n3 n4 b5 n6) .normal (qbh l0 n1 n2 n3 (n4 + 1) b5 n6) :=
 .of_loopc (ks := [12, 0, 1, 2, 3, 11, 10]) (bs := []) (ans := [.br true, .el [I n7, I n8, I n9, I n10], .br true, .br true, .br false]) (by kernel_rfl) h
theorem qvy (l0 : List (List D)) (n1 n2 n3 n4 : Int) (b5 : Bool) (n6 n7 n8 n9 n10 : Int)
  (h : Obs [decide (n4 < (↑l0.length : Int)) = true, 0 ≤ n4, n4 < (↑l0.length : Int), l0[n4.toNat]? = some [I n7, I n8, I n9, I n10], (n7 == n1) = true, (n8 == n2) = false, inInt .i64 (n4 + 1)]) :
  Tr Tryz.prog (qaa Tryz.f245 0) (qbh l0 n1 n2 n3 n4 b5 n6) .normal (qbh l0 n1 n2 n3 (n4 + 1) b5 n6) :=
 .of_loopc (ks := [12, 0, 1, 2, 3, 11, 10]) (bs := []) (ans := [.br true, .el [I n7, I n8, I n9, I n10], .br true, .br false]) (by kernel_rfl) h
theorem qvz (l0 : List (List D)) (n1 n2 n3 n4 : Int) (b5 : Bool) (n6 n7 n8 n9 n10 : Int)
  (h : Obs [decide (n4 < (↑l0.length : Int)) = true, 0 ≤ n4, n4 < (↑l0.length : Int), l0[n4.toNat]? = some [I n7, I n8, I n9, I n10], (n7 == n1) = false, inInt .i64 (n4 + 1)]) :
  Tr Tryz.prog (qaa Tryz.f245 0) (qbh l0 n1 n2 n3 n4 b5 n6) .normal (qbh l0 n1 n2 n3 (n4 + 1) b5 n6) :=
 .of_loopc (ks := [12, 0, 1, 2, 3, 11, 10]) (bs := []) (ans := [.br true, .el [I n7, I n8, I n9, I n10], .br false]) (by kernel_rfl) h
def qjf (n0 : Int) (b1 : Bool) : St :=
 { env := envOf 54 [(10, .al (.one (.v (.int .i64 n0)))), (11, .al (.one (.sb b1)))], boxes := [] }
theorem qvA (l0 : List (List D)) (n1 n2 n3 n4 : Int) (b5 : Bool) (n6 : Int)
  (h : Obs [decide (n4 < (↑l0.length : Int)) = false]) :
  Tr Tryz.prog (qaa Tryz.f245 0) (qbh l0 n1 n2 n3 n4 b5 n6) (.exit 0) (qjf n6 b5) :=
 .of_loopc (ks := [10, 11]) (bs := []) (ans := [.br false]) (by kernel_rfl) h
theorem qvB (l0 : List (List D)) (n1 n2 n3 n4 : Int) (b5 : Bool)
  (h : Obs [qac Tryz.prog (qaa Tryz.f245 0) (qbh l0 n1 n2 n3 0 false 0) (.exit 0) (qjf n4 b5)]) :
  Ret Tryz.prog 245 [.one (.sl 4 l0), .one (I n1), .one (I n2), .one (I n3)] [.one (I n4), .one (B b5)] :=
 .of [.loop [] [12, 0, 1, 2, 3, 11, 10] [] (.exit 0) (qjf n4 b5)] _ Tryz.func245 rfl (by kernel_rfl) h
theorem qvF (n0 : Int) (l1 : List (List D)) (n2 n3 n4 n5 : Int) (b6 : Bool)
  (h : Obs [(([] : List (List D)).length + l1.length) * 32 ≤ 140737488355328, ([] : List (List D)).length + l1.length ≤ 9223372036854775807, Flat l1, (n0 == 6) = true, Ret Tryz.prog 243 [.one (.sl 4 l1), .agg [I n2, I n3, I n4, I n5]] [.one (B b6)], b6 = true]) :
  Ret Tryz.prog 144 [.one (I n0), .one (.sl 4 l1), .agg [I n2, I n3, I n4, I n5]] [.one (.sl 4 ([] ++ l1)), .one (B false)] :=
 .of [.br true, .res [.one (B b6)], .br true] _ Tryz.func144 rfl (by kernel_rfl) h
theorem qvG (n0 : Int) (l1 : List (List D)) (n2 n3 n4 n5 : Int) (b6 : Bool) (l7 : List (List D))
  (h : Obs [(([] : List (List D)).length + l1.length) * 32 ≤ 140737488355328, ([] : List (List D)).length + l1.length ≤ 9223372036854775807, Flat l1, (n0 == 6) = true, Ret Tryz.prog 243 [.one (.sl 4 l1), .agg [I n2, I n3, I n4, I n5]] [.one (B b6)], b6 = false, Ret Tryz.prog 244 [.one (.sl 4 l1), .agg [I n2, I n3, I n4, I n5]] [.one (.sl 4 l7)]]) :
  Ret Tryz.prog 144 [.one (I n0), .one (.sl 4 l1), .agg [I n2, I n3, I n4, I n5]] [.one (.sl 4 l7), .one (B true)] :=
 .of [.br true, .res [.one (B b6)], .br false, .res [.one (.sl 4 l7)]] _ Tryz.func144 rfl (by kernel_rfl) h
theorem qvH (n0 : Int) (l1 : List (List D)) (n2 n3 n4 n5 n6 : Int) (b7 : Bool)
  (h : Obs [(([] : List (List D)).length + l1.length) * 32 ≤ 140737488355328, ([] : List (List D)).length + l1.length ≤ 9223372036854775807, Flat l1, (n0 == 6) = false, (n0 == 5) = true, (n0 == 5) = true, Ret Tryz.prog 245 [.one (.sl 4 l1), .one (I n2), .one (I n3), .one (I n4)] [.one (I n6), .one (B b7)], b7 = true, decide (n6 ≤ n5) = true]) :
  Ret Tryz.prog 144 [.one (I n0), .one (.sl 4 l1), .agg [I n2, I n3, I n4, I n5]] [.one (.sl 4 ([] ++ l1)), .one (B false)] :=
 .of [.br false, .br true, .br true, .res [.one (I n6), .one (B b7)], .br true, .br true] _ Tryz.func144 rfl (by kernel_rfl) h
def qbi (l0 : List (List D)) (n1 n2 n3 n4 n5 : Int) (l6 : List (List D)) : St :=
 { env := envOf 94 [(1, .al (.one (.sl .free 4 l0))), (5, .al (.one (.ptr 5 0))), (11, .al (.one (.sl (.own 48) 4 l6))), (12, .al (.one (.v (.int .i64 n5))))], boxes := [(5, [.v (.int .i64 n1), .v (.int .i64 n2), .v (.int .i64 n3), .v (.int .i64 n4)])] }
theorem qvI (l1 : List (List D)) (n2 n3 n4 n5 n8 : Int) (l9 : List (List D)) (n10 n11 n12 n13 n14 n15 n16 n17 : Int)
  (h : Obs [decide (n8 < (↑l1.length : Int)) = true, 0 ≤ n8, n8 < (↑l1.length : Int), l1[n8.toNat]? = some [I n10, I n11, I n12, I n13], (n10 != n2) = true, 0 ≤ n8, n8 < (↑l1.length : Int), l1[n8.toNat]? = some [I n14, I n15, I n16, I n17], (l9.length + [[I n14, I n15, I n16, I n17]].length) * 32 ≤ 140737488355328, l9.length + [[I n14, I n15, I n16, I n17]].length ≤ 9223372036854775807, Flat [[I n14, I n15, I n16, I n17]], inInt .i64 (n8 + 1)]) :
  Tr Tryz.prog (qaa Tryz.f144 0) (qbi l1 n2 n3 n4 n5 n8 l9) .normal (qbi l1 n2 n3 n4 n5 (n8 + 1) (l9 ++ [[I n14, I n15, I n16, I n17]])) :=
 .of_loopc (ks := [12, 1, 5, 11]) (bs := [5]) (ans := [.br true, .el [I n10, I n11, I n12, I n13], .br true, .el [I n14, I n15, I n16, I n17]]) (by kernel_rfl) h
theorem qvJ (l1 : List (List D)) (n2 n3 n4 n5 n8 : Int) (l9 : List (List D)) (n10 n11 n12 n13 n14 n15 n16 n17 n18 n19 n20 n21 : Int)
  (h : Obs [decide (n8 < (↑l1.length : Int)) = true, 0 ≤ n8, n8 < (↑l1.length : Int), l1[n8.toNat]? = some [I n10, I n11, I n12, I n13], (n10 != n2) = false, 0 ≤ n8, n8 < (↑l1.length : Int), l1[n8.toNat]? = some [I n14, I n15, I n16, I n17], (n15 != n3) = true, 0 ≤ n8, n8 < (↑l1.length : Int), l1[n8.toNat]? = some [I n18, I n19, I n20, I n21], (l9.length + [[I n18, I n19, I n20, I n21]].length) * 32 ≤ 140737488355328, l9.length + [[I n18, I n19, I n20, I n21]].length ≤ 9223372036854775807, Flat [[I n18, I n19, I n20, I n21]], inInt .i64 (n8 + 1)]) :
  Tr Tryz.prog (qaa Tryz.f144 0) (qbi l1 n2 n3 n4 n5 n8 l9) .normal (qbi l1 n2 n3 n4 n5 (n8 + 1) (l9 ++ [[I n18, I n19, I n20, I n21]])) :=
 .of_loopc (ks := [12, 1, 5, 11]) (bs := [5]) (ans := [.br true, .el [I n10, I n11, I n12, I n13], .br false, .el [I n14, I n15, I n16, I n17], .br true, .el [I n18, I n19, I n20, I n21]]) (by kernel_rfl) h
theorem qvK (l1 : List (List D)) (n2 n3 n4 n5 n8 : Int) (l9 : List (List D)) (n10 n11 n12 n13 n14 n15 n16 n17 n18 n19 n20 n21 n22 n23 n24 n25 : Int)
  (h : Obs [decide (n8 < (↑l1.length : Int)) = true, 0 ≤ n8, n8 < (↑l1.length : Int), l1[n8.toNat]? = some [I n10, I n11, I n12, I n13], (n10 != n2) = false, 0 ≤ n8, n8 < (↑l1.length : Int), l1[n8.toNat]? = some [I n14, I n15, I n16, I n17], (n15 != n3) = false, 0 ≤ n8, n8 < (↑l1.length : Int), l1[n8.toNat]? = some [I n18, I n19, I n20, I n21], (n20 != n4) = true, 0 ≤ n8, n8 < (↑l1.length : Int), l1[n8.toNat]? = some [I n22, I n23, I n24, I n25], (l9.length + [[I n22, I n23, I n24, I n25]].length) * 32 ≤ 140737488355328, l9.length + [[I n22, I n23, I n24, I n25]].length ≤ 9223372036854775807, Flat [[I n22, I n23, I n24, I n25]], inInt .i64 (n8 + 1)]) :
  Tr Tryz.prog (qaa Tryz.f144 0) (qbi l1 n2 n3 n4 n5 n8 l9) .normal (qbi l1 n2 n3 n4 n5 (n8 + 1) (l9 ++ [[I n22, I n23, I n24, I n25]])) :=
 .of_loopc (ks := [12, 1, 5, 11]) (bs := [5]) (ans := [.br true, .el [I n10, I n11, I n12, I n13], .br false, .el [I n14, I n15, I n16, I n17], .br false, .el [I n18, I n19, I n20, I n21], .br true, .el [I n22, I n23, I n24, I n25]]) (by kernel_rfl) h
theorem qvL (l1 : List (List D)) (n2 n3 n4 n5 n8 : Int) (l9 : List (List D)) (n10 n11 n12 n13 n14 n15 n16 n17 n18 n19 n20 n21 : Int)
  (h : Obs [decide (n8 < (↑l1.length : Int)) = true, 0 ≤ n8, n8 < (↑l1.length : Int), l1[n8.toNat]? = some [I n10, I n11, I n12, I n13], (n10 != n2) = false, 0 ≤ n8, n8 < (↑l1.length : Int), l1[n8.toNat]? = some [I n14, I n15, I n16, I n17], (n15 != n3) = false, 0 ≤ n8, n8 < (↑l1.length : Int), l1[n8.toNat]? = some [I n18, I n19, I n20, I n21], (n20 != n4) = false, inInt .i64 (n8 + 1)]) :
  Tr Tryz.prog (qaa Tryz.f144 0) (qbi l1 n2 n3 n4 n5 n8 l9) .normal (qbi l1 n2 n3 n4 n5 (n8 + 1) l9) :=
 .of_loopc (ks := [12, 1, 5, 11]) (bs := [5]) (ans := [.br true, .el [I n10, I n11, I n12, I n13], .br false, .el [I n14, I n15, I n16, I n17], .br false, .el [I n18, I n19, I n20, I n21], .br false]) (by kernel_rfl) h
def qcv (n0 n1 n2 n3 : Int) (l4 : List (List D)) : St :=
 { env := envOf 94 [(5, .al (.one (.ptr 5 0))), (11, .al (.one (.sl (.own 48) 4 l4)))], boxes := [(5, [.v (.int .i64 n0), .v (.int .i64 n1), .v (.int .i64 n2), .v (.int .i64 n3)])] }
theorem qvM (l1 : List (List D)) (n2 n3 n4 n5 n8 : Int) (l9 : List (List D))
  (h : Obs [decide (n8 < (↑l1.length : Int)) = false]) :
  Tr Tryz.prog (qaa Tryz.f144 0) (qbi l1 n2 n3 n4 n5 n8 l9) (.exit 1) (qcv n2 n3 n4 n5 l9) :=
 .of_loopc (ks := [11, 5]) (bs := [5]) (ans := [.br false]) (by kernel_rfl) h
theorem qvN (n0 : Int) (l1 : List (List D)) (n2 n3 n4 n5 n6 : Int) (b7 : Bool) (l8 l9 : List (List D))
  (h : Obs [(([] : List (List D)).length + l1.length) * 32 ≤ 140737488355328, ([] : List (List D)).length + l1.length ≤ 9223372036854775807, Flat l1, (n0 == 6) = false, (n0 == 5) = true, (n0 == 5) = true, Ret Tryz.prog 245 [.one (.sl 4 l1), .one (I n2), .one (I n3), .one (I n4)] [.one (I n6), .one (B b7)], b7 = true, decide (n6 ≤ n5) = false, qac Tryz.prog (qaa Tryz.f144 0) (qbi l1 n2 n3 n4 n5 0 []) (.exit 1) (qcv n2 n3 n4 n5 l8), Ret Tryz.prog 244 [.one (.sl 4 l8), .agg [I n2, I n3, I n4, I n5]] [.one (.sl 4 l9)]]) :
  Ret Tryz.prog 144 [.one (I n0), .one (.sl 4 l1), .agg [I n2, I n3, I n4, I n5]] [.one (.sl 4 l9), .one (B true)] :=
 .of [.br false, .br true, .br true, .res [.one (I n6), .one (B b7)], .br true, .br false, .loop [] [12, 1, 5, 11] [5] (.exit 1) (qcv n2 n3 n4 n5 l8), .res [.one (.sl 4 l9)]] _ Tryz.func144 rfl (by kernel_rfl) h
theorem qvO (n0 : Int) (l1 : List (List D)) (n2 n3 n4 n5 n6 : Int) (b7 : Bool) (l8 l9 : List (List D))
  (h : Obs [(([] : List (List D)).length + l1.length) * 32 ≤ 140737488355328, ([] : List (List D)).length + l1.length ≤ 9223372036854775807, Flat l1, (n0 == 6) = false, (n0 == 5) = true, (n0 == 5) = true, Ret Tryz.prog 245 [.one (.sl 4 l1), .one (I n2), .one (I n3), .one (I n4)] [.one (I n6), .one (B b7)], b7 = false, qac Tryz.prog (qaa Tryz.f144 0) (qbi l1 n2 n3 n4 n5 0 []) (.exit 1) (qcv n2 n3 n4 n5 l8), Ret Tryz.prog 244 [.one (.sl 4 l8), .agg [I n2, I n3, I n4, I n5]] [.one (.sl 4 l9)]]) :
  Ret Tryz.prog 144 [.one (I n0), .one (.sl 4 l1), .agg [I n2, I n3, I n4, I n5]] [.one (.sl 4 l9), .one (B true)] :=
 .of [.br false, .br true, .br true, .res [.one (I n6), .one (B b7)], .br false, .loop [] [12, 1, 5, 11] [5] (.exit 1) (qcv n2 n3 n4 n5 l8), .res [.one (.sl 4 l9)]] _ Tryz.func144 rfl (by kernel_rfl) h
theorem qvP (n0 : Int) (l1 : List (List D)) (n2 n3 n4 n5 n6 : Int) (b7 : Bool)
  (h : Obs [(([] : List (List D)).length + l1.length) * 32 ≤ 140737488355328, ([] : List (List D)).length + l1.length ≤ 9223372036854775807, Flat l1, (n0 == 6) = false, (n0 == 5) = false, (n0 == 8) = true, Ret Tryz.prog 245 [.one (.sl 4 l1), .one (I n2), .one (I n3), .one (I n4)] [.one (I n6), .one (B b7)], b7 = true, decide (n6 ≤ n5) = true]) :
  Ret Tryz.prog 144 [.one (I n0), .one (.sl 4 l1), .agg [I n2, I n3, I n4, I n5]] [.one (.sl 4 ([] ++ l1)), .one (B false)] :=
 .of [.br false, .br false, .br true, .res [.one (I n6), .one (B b7)], .br true, .br true] _ Tryz.func144 rfl (by kernel_rfl) h
theorem qvQ (n0 : Int) (l1 : List (List D)) (n2 n3 n4 n5 n6 : Int) (b7 : Bool) (l8 l9 : List (List D))
  (h : Obs [(([] : List (List D)).length + l1.length) * 32 ≤ 140737488355328, ([] : List (List D)).length + l1.length ≤ 9223372036854775807, Flat l1, (n0 == 6) = false, (n0 == 5) = false, (n0 == 8) = true, Ret Tryz.prog 245 [.one (.sl 4 l1), .one (I n2), .one (I n3), .one (I n4)] [.one (I n6), .one (B b7)], b7 = true, decide (n6 ≤ n5) = false, qac Tryz.prog (qaa Tryz.f144 0) (qbi l1 n2 n3 n4 n5 0 []) (.exit 1) (qcv n2 n3 n4 n5 l8), Ret Tryz.prog 244 [.one (.sl 4 l8), .agg [I n2, I n3, I n4, I n5]] [.one (.sl 4 l9)]]) :
  Ret Tryz.prog 144 [.one (I n0), .one (.sl 4 l1), .agg [I n2, I n3, I n4, I n5]] [.one (.sl 4 l9), .one (B true)] :=
 .of [.br false, .br false, .br true, .res [.one (I n6), .one (B b7)], .br true, .br false, .loop [] [12, 1, 5, 11] [5] (.exit 1) (qcv n2 n3 n4 n5 l8), .res [.one (.sl 4 l9)]] _ Tryz.func144 rfl (by kernel_rfl) h
theorem qvR (n0 : Int) (l1 : List (List D)) (n2 n3 n4 n5 n6 : Int) (b7 : Bool) (l8 l9 : List (List D))
  (h : Obs [(([] : List (List D)).length + l1.length) * 32 ≤ 140737488355328, ([] : List (List D)).length + l1.length ≤ 9223372036854775807, Flat l1, (n0 == 6) = false, (n0 == 5) = false, (n0 == 8) = true, Ret Tryz.prog 245 [.one (.sl 4 l1), .one (I n2), .one (I n3), .one (I n4)] [.one (I n6), .one (B b7)], b7 = false, qac Tryz.prog (qaa Tryz.f144 0) (qbi l1 n2 n3 n4 n5 0 []) (.exit 1) (qcv n2 n3 n4 n5 l8), Ret Tryz.prog 244 [.one (.sl 4 l8), .agg [I n2, I n3, I n4, I n5]] [.one (.sl 4 l9)]]) :
  Ret Tryz.prog 144 [.one (I n0), .one (.sl 4 l1), .agg [I n2, I n3, I n4, I n5]] [.one (.sl 4 l9), .one (B true)] :=
 .of [.br false, .br false, .br true, .res [.one (I n6), .one (B b7)], .br false, .loop [] [12, 1, 5, 11] [5] (.exit 1) (qcv n2 n3 n4 n5 l8), .res [.one (.sl 4 l9)]] _ Tryz.func144 rfl (by kernel_rfl) h
theorem qvS (n0 : Int) (l1 : List (List D)) (n2 n3 n4 n5 : Int)
  (h : Obs [(([] : List (List D)).length + l1.length) * 32 ≤ 140737488355328, ([] : List (List D)).length + l1.length ≤ 9223372036854775807, Flat l1, (n0 == 6) = false, (n0 == 5) = false, (n0 == 8) = false]) :
  Ret Tryz.prog 144 [.one (I n0), .one (.sl 4 l1), .agg [I n2, I n3, I n4, I n5]] [.one (.sl 4 ([] ++ l1)), .one (B true)] :=
 .of [.br false, .br false, .br false] _ Tryz.func144 rfl (by kernel_rfl) h
end Go.Proofs.YtialmplmfcahpaaGreat
