import Derived.Test.YtialmplmfcahpaaGreatRows
import Derived.Test.YtialmplmfcahpaaGreatR22
set_option linter.unusedVariables false
set_option linter.unusedSimpArgs false
namespace Go.Proofs.YtialmplmfcahpaaGreat
open Go.Sx Go.RowKit Go.Proofs.Tryz
theorem qua (l0 : List (List D))
  (h : Obs [(([] : List (List D)).length + l0.length) * 32 ≤ 140737488355328, ([] : List (List D)).length + l0.length ≤ 9223372036854775807, Flat l0]) :
  Ret prog 154 [.one (.sl 4 l0)] [.one (.sl 4 ([] ++ l0))] :=
 .of [] _ func154 rfl (by kernel_rfl) h
theorem qub (l0 : List (List D)) (n1 n2 n3 n4 : Int) (b5 : Bool)
  (h : Obs [Ret prog 301 [.one (.sl 4 l0), .agg [I n1, I n2, I n3, I n4]] [.one (B b5)]]) :
  Ret prog 256 [.one (.sl 4 l0), .agg [I n1, I n2, I n3, I n4]] [.one (B b5)] :=
 .of [.res [.one (B b5)]] _ func256 rfl (by kernel_rfl) h
theorem quc (n0 n1 n2 n3 n4 n5 n6 n7 n8 : Int)
  (h : Obs [Ret prog 309 [.one (.sl 1 [[I n1], [I n0], [I n2], [I n3]]), .one (.sl 1 [[I n5], [I n4], [I n6], [I n7]])] [.one (I n8)]]) :
  Ret prog 299 [.agg [I n0, I n1, I n2, I n3], .agg [I n4, I n5, I n6, I n7]] [.one (I n8)] :=
 .of [.res [.one (I n8)]] _ func299 rfl (by kernel_rfl) h
theorem qud (l0 : List (List D)) (n1 n2 n3 n4 n5 : Int)
  (h : Obs [Ret prog 315 [.one (.sl 4 l0), .agg [I n1, I n2, I n3, I n4]] [.one (I n5)]]) :
  Ret prog 301 [.one (.sl 4 l0), .agg [I n1, I n2, I n3, I n4]] [.one (B (decide (n5 ≥ 0)))] :=
 .of [.res [.one (I n5)]] _ func301 rfl (by kernel_rfl) h
def qdQ (l0 : List (List D)) (n1 n2 n3 n4 n5 : Int) : St :=
 { env := envOf 19 [(0, .al (.one (.sl .free 4 l0))), (3, .al (.one (.ptr 3 0))), (7, .al (.one (.v (.int .i64 (l0.length : Int))))), (8, .al (.one (.v (.int .i64 n5))))], boxes := [(3, [.v (.int .i64 n1), .v (.int .i64 n2), .v (.int .i64 n3), .v (.int .i64 n4)])] }
def qgs (n0 : Int) : St :=
 { env := envOf 19 [(4, .al (.one (.v (.int .i64 n0))))], boxes := [] }
theorem que (l0 : List (List D)) (n1 n2 n3 n4 n5 n6 n7 n8 n9 : Int)
  (h : Obs [decide (n5 < (l0.length : Int)) = true, 0 ≤ n5, n5 < (l0.length : Int), l0[n5.toNat]? = some [I n6, I n7, I n8, I n9], (n1 == n6 && (n2 == n7 && (n3 == n8 && n4 == n9))) = true]) :
  Tr prog (qaa f315 0) (qdQ l0 n1 n2 n3 n4 n5) .ret (qgs n5) :=
 .of_loopc (ks := [4]) (bs := []) (ans := [.br true, .el [I n6, I n7, I n8, I n9], .br true]) (by kernel_rfl) h
theorem quf (l0 : List (List D)) (n1 n2 n3 n4 n5 n6 n7 n8 n9 : Int)
  (h : Obs [decide (n5 < (l0.length : Int)) = true, 0 ≤ n5, n5 < (l0.length : Int), l0[n5.toNat]? = some [I n6, I n7, I n8, I n9], (n1 == n6 && (n2 == n7 && (n3 == n8 && n4 == n9))) = false, inInt .i64 (n5 + 1)]) :
  Tr prog (qaa f315 0) (qdQ l0 n1 n2 n3 n4 n5) .normal (qdQ l0 n1 n2 n3 n4 (n5 + 1)) :=
 .of_loopc (ks := [8, 7, 3, 0]) (bs := [3]) (ans := [.br true, .el [I n6, I n7, I n8, I n9], .br false]) (by kernel_rfl) h
def qi5 : St :=
 { env := envOf 19 [], boxes := [] }
theorem qug (l0 : List (List D)) (n1 n2 n3 n4 n5 : Int)
  (h : Obs [decide (n5 < (l0.length : Int)) = false]) :
  Tr prog (qaa f315 0) (qdQ l0 n1 n2 n3 n4 n5) (.exit 0) qi5 :=
 .of_loopc (ks := []) (bs := []) (ans := [.br false]) (by kernel_rfl) h
theorem quh (l0 : List (List D)) (n1 n2 n3 n4 n5 : Int)
  (h : Obs [qac prog (qaa f315 0) (qdQ l0 n1 n2 n3 n4 0) .ret (qgs n5)]) :
  Ret prog 315 [.one (.sl 4 l0), .agg [I n1, I n2, I n3, I n4]] [.one (I n5)] :=
 .of [.loop [] [8, 7, 3, 0] [3] .ret (qgs n5)] _ func315 rfl (by kernel_rfl) h
theorem qui (l0 : List (List D)) (n1 n2 n3 n4 : Int)
  (h : Obs [qac prog (qaa f315 0) (qdQ l0 n1 n2 n3 n4 0) (.exit 0) qi5]) :
  Ret prog 315 [.one (.sl 4 l0), .agg [I n1, I n2, I n3, I n4]] [.one (I (-1))] :=
 .of [.loop [] [8, 7, 3, 0] [3] (.exit 0) qi5] _ func315 rfl (by kernel_rfl) h
theorem quj (l0 : List (List D)) (n1 n2 n3 n4 : Int) (l5 : List (List D)) (b6 : Bool)
  (h : Obs [Ret prog 154 [.one (.sl 4 l0)] [.one (.sl 4 l5)], Ret prog 256 [.one (.sl 4 l0), .agg [I n1, I n2, I n3, I n4]] [.one (B b6)], b6 = true]) :
  Ret prog 255 [.one (.sl 4 l0), .agg [I n1, I n2, I n3, I n4]] [.one (.sl 4 l5)] :=
 .of [.res [.one (.sl 4 l5)], .res [.one (B b6)], .br true] _ func255 rfl (by kernel_rfl) h
def qdR (l0 : List (List D)) (n1 n2 n3 n4 : Int) (l5 : List (List D)) (n6 : Int) : St :=
 { env := envOf 33 [(0, .al (.one (.sl .free 4 l0))), (3, .al (.one (.ptr 3 0))), (5, .al (.one (.sl (.own 90000) 4 l5))), (6, .al (.one (.v (.int .i64 n6))))], boxes := [(3, [.v (.int .i64 n1), .v (.int .i64 n2), .v (.int .i64 n3), .v (.int .i64 n4)])] }
theorem quk (l0 : List (List D)) (n1 n2 n3 n4 : Int) (l5 : List (List D)) (n7 n8 n9 n10 n11 n12 : Int)
  (h : Obs [decide (n7 < (l0.length : Int)) = true, 0 ≤ n7, n7 < (l0.length : Int), l0[n7.toNat]? = some [I n8, I n9, I n10, I n11], Ret prog 299 [.agg [I n8, I n9, I n10, I n11], .agg [I n1, I n2, I n3, I n4]] [.one (I n12)], decide (n12 < 0) = true, inInt .i64 (n7 + 1)]) :
  Tr prog (qaa f255 0) (qdR l0 n1 n2 n3 n4 l5 n7) .normal (qdR l0 n1 n2 n3 n4 l5 (n7 + 1)) :=
 .of_loopc (ks := [6, 0, 3, 5]) (bs := [3]) (ans := [.br true, .el [I n8, I n9, I n10, I n11], .res [.one (I n12)], .br true]) (by kernel_rfl) h
def qeJ (n0 n1 n2 n3 : Int) (l4 : List (List D)) (n5 : Int) : St :=
 { env := envOf 33 [(3, .al (.one (.ptr 3 0))), (5, .al (.one (.sl (.own 90000) 4 l4))), (6, .al (.one (.v (.int .i64 n5))))], boxes := [(3, [.v (.int .i64 n0), .v (.int .i64 n1), .v (.int .i64 n2), .v (.int .i64 n3)])] }
theorem qul (l0 : List (List D)) (n1 n2 n3 n4 : Int) (l5 : List (List D)) (n7 n8 n9 n10 n11 n12 : Int)
  (h : Obs [decide (n7 < (l0.length : Int)) = true, 0 ≤ n7, n7 < (l0.length : Int), l0[n7.toNat]? = some [I n8, I n9, I n10, I n11], Ret prog 299 [.agg [I n8, I n9, I n10, I n11], .agg [I n1, I n2, I n3, I n4]] [.one (I n12)], decide (n12 < 0) = false]) :
  Tr prog (qaa f255 0) (qdR l0 n1 n2 n3 n4 l5 n7) (.exit 0) (qeJ n1 n2 n3 n4 l5 n7) :=
 .of_loopc (ks := [5, 6, 3]) (bs := [3]) (ans := [.br true, .el [I n8, I n9, I n10, I n11], .res [.one (I n12)], .br false]) (by kernel_rfl) h
theorem qum (l0 : List (List D)) (n1 n2 n3 n4 : Int) (l5 : List (List D)) (n7 : Int)
  (h : Obs [decide (n7 < (l0.length : Int)) = false]) :
  Tr prog (qaa f255 0) (qdR l0 n1 n2 n3 n4 l5 n7) (.exit 0) (qeJ n1 n2 n3 n4 l5 n7) :=
 .of_loopc (ks := [5, 6, 3]) (bs := [3]) (ans := [.br false]) (by kernel_rfl) h
theorem qun (l0 : List (List D)) (n1 n2 n3 n4 : Int) (l5 : List (List D)) (b6 : Bool) (n7 : Int) (l10 : List (List D))
  (h : Obs [Ret prog 154 [.one (.sl 4 l0)] [.one (.sl 4 l5)], Ret prog 256 [.one (.sl 4 l0), .agg [I n1, I n2, I n3, I n4]] [.one (B b6)], b6 = false, qac prog (qaa f255 0) (qdR l0 n1 n2 n3 n4 l5 0) (.exit 0) (qeJ n1 n2 n3 n4 l5 n7), RetG prog 300 [GA.one (GC.gv 4 l5 none), GA.one (GC.ro (I n7)), GA.one (GC.gv 4 [[I n1, I n2, I n3, I n4]] none)] [.one (.sl 4 l10)]]) :
  Ret prog 255 [.one (.sl 4 l0), .agg [I n1, I n2, I n3, I n4]] [.one (.sl 4 l10)] :=
 .of [.res [.one (.sl 4 l5)], .res [.one (B b6)], .br false, .loop [] [6, 0, 3, 5] [3] (.exit 0) (qeJ n1 n2 n3 n4 l5 n7), .resG [[some none], [none], [some none]] 0 [] [.one (.sl 4 l10)]] _ func255 rfl (by kernel_rfl) h
theorem qlH (l0 : List (List D)) (n1 n2 n3 : Int) (b4 : Bool)
  (h : Obs [inInt .i64 ((l0.length : Int) - 1), Ret prog 119 [.one (I n3), .one (I 0), .one (I ((l0.length : Int) - 1))] [.one (B b4)]]) :
  Ret prog 153 [.agg [D.sl 4 l0, I n1, I n2], .one (I n3)] [.one (B b4)] :=
 .of [.res [.one (B b4)]] _ func153 rfl (by kernel_rfl) h
theorem quD (n0 n1 n2 n3 n4 n5 n6 n7 : Int)
  (h : Obs [(n0 == n4) = true, (n1 == n5) = true]) :
  Ret prog 298 [.agg [I n0, I n1, I n2, I n3], .agg [I n4, I n5, I n6, I n7]] [.one (B (n2 == n6))] :=
 .of [.br true, .br true] _ func298 rfl (by kernel_rfl) h
theorem quE (n0 n1 n2 n3 n4 n5 n6 n7 : Int)
  (h : Obs [(n0 == n4) = true, (n1 == n5) = false]) :
  Ret prog 298 [.agg [I n0, I n1, I n2, I n3], .agg [I n4, I n5, I n6, I n7]] [.one (B false)] :=
 .of [.br true, .br false] _ func298 rfl (by kernel_rfl) h
theorem quF (n0 n1 n2 n3 n4 n5 n6 n7 : Int)
  (h : Obs [(n0 == n4) = false]) :
  Ret prog 298 [.agg [I n0, I n1, I n2, I n3], .agg [I n4, I n5, I n6, I n7]] [.one (B false)] :=
 .of [.br false] _ func298 rfl (by kernel_rfl) h
theorem quG (n0 n1 n2 n3 n4 n5 n6 n7 : Int) (b8 : Bool)
  (h : Obs [Ret prog 298 [.agg [I n4, I n5, I n6, I n7], .agg [I n0, I n1, I n2, I n3]] [.one (B b8)]]) :
  Ret prog 297 [.agg [I n0, I n1, I n2, I n3], .one (.ptr [I n4, I n5, I n6, I n7])] [.one (B b8)] :=
 .of [.res [.one (B b8)]] _ func297 rfl (by kernel_rfl) h
theorem quH (l0 : List (List D)) (g1 : Nat) (k2 : List D) (n3 : Int)
  (h : Obs [Ret prog 312 [.one (.sl 4 l0), .one (.cl g1 k2)] [.one (I n3)], (n3 == -1) = true]) :
  RetG prog 296 [GA.one (GC.gv 4 l0 none), GA.one (GC.ro (D.cl g1 k2))] [.one (.sl 4 l0)] :=
 .of [.res [.one (I n3)], .br true] _ func296 rfl (by kernel_rfl) h
def qdb (g0 : Nat) (k1 : List D) (n2 n3 : Int) (l4 : List (List D)) : St :=
 { env := envOf 42 [(0, .al (.one (.sl (.own 1000000000) 4 l4))), (1, .al (.one (.fd (D.cl g0 k1)))), (5, .al (.one (.v (.int .i64 n3)))), (6, .al (.one (.v (.int .i64 n2))))], boxes := [] }
theorem quI (g1 : Nat) (k2 : List D) (n4 n5 : Int) (l6 : List (List D)) (n7 n8 n9 n10 : Int) (b11 : Bool) (d12 d13 d14 d15 : D)
  (h : Obs [decide (n4 < (l6.length : Int)) = true, 0 ≤ n4, n4 < (l6.length : Int), l6[n4.toNat]? = some [I n7, I n8, I n9, I n10], qbk prog g1 = true, Ret prog g1 ([.agg [I n7, I n8, I n9, I n10]] ++ List.map .one k2) [.one (B b11)], (!b11) = true, 0 ≤ n5, n5 < (l6.length : Int), l6[n5.toNat]? = some [d12, d13, d14, d15], inInt .i64 (n5 + 1), inInt .i64 (n4 + 1)]) :
  Tr prog (qaa f296 0) (qdb g1 k2 n4 n5 l6) .normal (qdb g1 k2 (n4 + 1) (n5 + 1) (l6.set n5.toNat [I n7, I n8, I n9, I n10])) :=
 .of_loopc (ks := [6, 0, 1, 5]) (bs := []) (ans := [.br true, .el [I n7, I n8, I n9, I n10], .res [.one (B b11)], .br true, .el [d12, d13, d14, d15]]) (by kernel_rfl) h
theorem quJ (g1 : Nat) (k2 : List D) (n4 n5 : Int) (l6 : List (List D)) (n7 n8 n9 n10 : Int) (b11 : Bool)
  (h : Obs [decide (n4 < (l6.length : Int)) = true, 0 ≤ n4, n4 < (l6.length : Int), l6[n4.toNat]? = some [I n7, I n8, I n9, I n10], qbk prog g1 = true, Ret prog g1 ([.agg [I n7, I n8, I n9, I n10]] ++ List.map .one k2) [.one (B b11)], (!b11) = false, inInt .i64 (n4 + 1)]) :
  Tr prog (qaa f296 0) (qdb g1 k2 n4 n5 l6) .normal (qdb g1 k2 (n4 + 1) n5 l6) :=
 .of_loopc (ks := [6, 0, 1, 5]) (bs := []) (ans := [.br true, .el [I n7, I n8, I n9, I n10], .res [.one (B b11)], .br false]) (by kernel_rfl) h
def qgu (l0 : List (List D)) (n1 : Int) : St :=
 { env := envOf 42 [(0, .al (.one (.sl (.own 1000000000) 4 l0))), (5, .al (.one (.v (.int .i64 n1))))], boxes := [] }
theorem quK (g1 : Nat) (k2 : List D) (n4 n5 : Int) (l6 : List (List D))
  (h : Obs [decide (n4 < (l6.length : Int)) = false]) :
  Tr prog (qaa f296 0) (qdb g1 k2 n4 n5 l6) (.exit 0) (qgu l6 n5) :=
 .of_loopc (ks := [0, 5]) (bs := []) (ans := [.br false]) (by kernel_rfl) h
theorem quL (l0 : List (List D)) (g1 : Nat) (k2 : List D) (n3 : Int) (l4 : List (List D)) (n5 : Int)
  (h : Obs [Ret prog 312 [.one (.sl 4 l0), .one (.cl g1 k2)] [.one (I n3)], (n3 == -1) = false, inInt .i64 (n3 + 1), qac prog (qaa f296 0) (qdb g1 k2 (n3 + 1) n3 l0) (.exit 0) (qgu l4 n5), 0 ≤ (some n5).getD 0, (some n5).getD 0 < (l4.length : Int), Flat l4, (0 : Int) ≤ none.getD 0, none.getD 0 ≤ (some n5).getD (↑(List.take ((some n5).getD 0).toNat l4 ++ List.replicate (l4.length - ((some n5).getD 0).toNat) [I 0, I 0, I 0, I 0]).length : Int), (some n5).getD (↑(List.take ((some n5).getD 0).toNat l4 ++ List.replicate (l4.length - ((some n5).getD 0).toNat) [I 0, I 0, I 0, I 0]).length : Int) ≤ (↑(List.take ((some n5).getD 0).toNat l4 ++ List.replicate (l4.length - ((some n5).getD 0).toNat) [I 0, I 0, I 0, I 0]).length : Int)]) :
  RetG prog 296 [GA.one (GC.gv 4 l0 none), GA.one (GC.ro (D.cl g1 k2))] [.one (.sl 4 (List.take (((some n5).getD (↑(List.take ((some n5).getD 0).toNat l4 ++ List.replicate (l4.length - ((some n5).getD 0).toNat) [I 0, I 0, I 0, I 0]).length : Int)).toNat - 0) (List.drop 0 (List.take ((some n5).getD 0).toNat l4 ++ List.replicate (l4.length - ((some n5).getD 0).toNat) [I 0, I 0, I 0, I 0]))))] :=
 .of [.res [.one (I n3)], .br false, .loop [] [6, 0, 1, 5] [] (.exit 0) (qgu l4 n5), .own] _ func296 rfl (by kernel_rfl) h
def qbC (l0 : List (List D)) (n1 n2 n3 n4 : Int) (b5 : Bool) (n6 : Int) : St :=
 { env := envOf 41 [(1, .al (.one (.v (.int .i64 n1)))), (2, .al (.one (.v (.int .i64 n2)))), (3, .al (.one (.v (.int .i64 n3)))), (10, .al (.one (.v (.int .i64 n6)))), (11, .al (.one (.sb b5))), (14, .al (.one (.sl .free 4 l0))), (15, .al (.one (.v (.int .i64 (l0.length : Int))))), (16, .al (.one (.v (.int .i64 n4))))], boxes := [] }
theorem quM (l0 : List (List D)) (n1 n2 n3 n4 : Int) (b5 : Bool) (n6 n7 n8 n9 n10 : Int) (b11 : Bool)
  (h : Obs [decide (n4 < (l0.length : Int)) = true, 0 ≤ n4, n4 < (l0.length : Int), l0[n4.toNat]? = some [I n7, I n8, I n9, I n10], Ret prog 298 [.agg [I n7, I n8, I n9, I n10], .agg [I n1, I n2, I n3, I 0]] [.one (B b11)], b11 = true, (!b5) = true, inInt .i64 (n4 + 1)]) :
  Tr prog (qaa f295 0) (qbC l0 n1 n2 n3 n4 b5 n6) .normal (qbC l0 n1 n2 n3 (n4 + 1) true n10) :=
 .of_loopc (ks := [16, 15, 14, 1, 2, 3, 11, 10]) (bs := []) (ans := [.br true, .el [I n7, I n8, I n9, I n10], .res [.one (B b11)], .br true, .br true]) (by kernel_rfl) h
theorem quN (l0 : List (List D)) (n1 n2 n3 n4 : Int) (b5 : Bool) (n6 n7 n8 n9 n10 : Int) (b11 : Bool)
  (h : Obs [decide (n4 < (l0.length : Int)) = true, 0 ≤ n4, n4 < (l0.length : Int), l0[n4.toNat]? = some [I n7, I n8, I n9, I n10], Ret prog 298 [.agg [I n7, I n8, I n9, I n10], .agg [I n1, I n2, I n3, I 0]] [.one (B b11)], b11 = true, (!b5) = false, decide (n10 < n6) = true, inInt .i64 (n4 + 1)]) :
  Tr prog (qaa f295 0) (qbC l0 n1 n2 n3 n4 b5 n6) .normal (qbC l0 n1 n2 n3 (n4 + 1) true n10) :=
 .of_loopc (ks := [16, 15, 14, 1, 2, 3, 11, 10]) (bs := []) (ans := [.br true, .el [I n7, I n8, I n9, I n10], .res [.one (B b11)], .br true, .br false, .br true]) (by kernel_rfl) h
theorem quO (l0 : List (List D)) (n1 n2 n3 n4 : Int) (b5 : Bool) (n6 n7 n8 n9 n10 : Int) (b11 : Bool)
  (h : Obs [decide (n4 < (l0.length : Int)) = true, 0 ≤ n4, n4 < (l0.length : Int), l0[n4.toNat]? = some [I n7, I n8, I n9, I n10], Ret prog 298 [.agg [I n7, I n8, I n9, I n10], .agg [I n1, I n2, I n3, I 0]] [.one (B b11)], b11 = true, (!b5) = false, decide (n10 < n6) = false, inInt .i64 (n4 + 1)]) :
  Tr prog (qaa f295 0) (qbC l0 n1 n2 n3 n4 b5 n6) .normal (qbC l0 n1 n2 n3 (n4 + 1) b5 n6) :=
 .of_loopc (ks := [16, 15, 14, 1, 2, 3, 11, 10]) (bs := []) (ans := [.br true, .el [I n7, I n8, I n9, I n10], .res [.one (B b11)], .br true, .br false, .br false]) (by kernel_rfl) h
theorem quP (l0 : List (List D)) (n1 n2 n3 n4 : Int) (b5 : Bool) (n6 n7 n8 n9 n10 : Int) (b11 : Bool)
  (h : Obs [decide (n4 < (l0.length : Int)) = true, 0 ≤ n4, n4 < (l0.length : Int), l0[n4.toNat]? = some [I n7, I n8, I n9, I n10], Ret prog 298 [.agg [I n7, I n8, I n9, I n10], .agg [I n1, I n2, I n3, I 0]] [.one (B b11)], b11 = false, inInt .i64 (n4 + 1)]) :
  Tr prog (qaa f295 0) (qbC l0 n1 n2 n3 n4 b5 n6) .normal (qbC l0 n1 n2 n3 (n4 + 1) b5 n6) :=
 .of_loopc (ks := [16, 15, 14, 1, 2, 3, 11, 10]) (bs := []) (ans := [.br true, .el [I n7, I n8, I n9, I n10], .res [.one (B b11)], .br false]) (by kernel_rfl) h
def qi9 (n0 : Int) (b1 : Bool) : St :=
 { env := envOf 41 [(10, .al (.one (.v (.int .i64 n0)))), (11, .al (.one (.sb b1)))], boxes := [] }
theorem quQ (l0 : List (List D)) (n1 n2 n3 n4 : Int) (b5 : Bool) (n6 : Int)
  (h : Obs [decide (n4 < (l0.length : Int)) = false]) :
  Tr prog (qaa f295 0) (qbC l0 n1 n2 n3 n4 b5 n6) (.exit 0) (qi9 n6 b5) :=
 .of_loopc (ks := [10, 11]) (bs := []) (ans := [.br false]) (by kernel_rfl) h
theorem quR (l0 : List (List D)) (n1 n2 n3 n4 : Int) (b5 : Bool)
  (h : Obs [qac prog (qaa f295 0) (qbC l0 n1 n2 n3 0 false 0) (.exit 0) (qi9 n4 b5)]) :
  Ret prog 295 [.one (.sl 4 l0), .one (I n1), .one (I n2), .one (I n3)] [.one (I n4), .one (B b5)] :=
 .of [.loop [] [16, 15, 14, 1, 2, 3, 11, 10] [] (.exit 0) (qi9 n4 b5)] _ func295 rfl (by kernel_rfl) h
theorem quS (l0 : List (List D)) (n1 n2 n3 n4 n5 : Int) (b6 : Bool) (l7 : List (List D))
  (h : Obs [Ret prog 295 [.one (.sl 4 l0), .one (I n1), .one (I n2), .one (I n3)] [.one (I n5), .one (B b6)], b6 = true, decide (n5 ≤ n4) = true, Ret prog 154 [.one (.sl 4 l0)] [.one (.sl 4 l7)]]) :
  Ret prog 254 [.one (.sl 4 l0), .agg [I n1, I n2, I n3, I n4]] [.one (.sl 4 l7), .one (B false)] :=
 .of [.res [.one (I n5), .one (B b6)], .br true, .br true, .res [.one (.sl 4 l7)]] _ func254 rfl (by kernel_rfl) h
theorem quT (l0 : List (List D)) (n1 n2 n3 n4 n5 : Int) (b6 : Bool) (l7 l9 l10 : List (List D))
  (h : Obs [Ret prog 295 [.one (.sl 4 l0), .one (I n1), .one (I n2), .one (I n3)] [.one (I n5), .one (B b6)], b6 = true, decide (n5 ≤ n4) = false, Ret prog 154 [.one (.sl 4 l0)] [.one (.sl 4 l7)], RetG prog 296 [GA.one (GC.gv 4 l7 none), GA.one (GC.ro (D.cl 297 [D.ptr [I n1, I n2, I n3, I n4]]))] [.one (.sl 4 l9)], Ret prog 255 [.one (.sl 4 l9), .agg [I n1, I n2, I n3, I n4]] [.one (.sl 4 l10)]]) :
  Ret prog 254 [.one (.sl 4 l0), .agg [I n1, I n2, I n3, I n4]] [.one (.sl 4 l10), .one (B true)] :=
 .of [.res [.one (I n5), .one (B b6)], .br true, .br false, .res [.one (.sl 4 l7)], .resG [[some none], [none]] 0 [] [.one (.sl 4 l9)], .res [.one (.sl 4 l10)]] _ func254 rfl (by kernel_rfl) h
theorem quU (l0 : List (List D)) (n1 n2 n3 n4 n5 : Int) (b6 : Bool) (l7 l9 l10 : List (List D))
  (h : Obs [Ret prog 295 [.one (.sl 4 l0), .one (I n1), .one (I n2), .one (I n3)] [.one (I n5), .one (B b6)], b6 = false, Ret prog 154 [.one (.sl 4 l0)] [.one (.sl 4 l7)], RetG prog 296 [GA.one (GC.gv 4 l7 none), GA.one (GC.ro (D.cl 297 [D.ptr [I n1, I n2, I n3, I n4]]))] [.one (.sl 4 l9)], Ret prog 255 [.one (.sl 4 l9), .agg [I n1, I n2, I n3, I n4]] [.one (.sl 4 l10)]]) :
  Ret prog 254 [.one (.sl 4 l0), .agg [I n1, I n2, I n3, I n4]] [.one (.sl 4 l10), .one (B true)] :=
 .of [.res [.one (I n5), .one (B b6)], .br false, .res [.one (.sl 4 l7)], .resG [[some none], [none]] 0 [] [.one (.sl 4 l9)], .res [.one (.sl 4 l10)]] _ func254 rfl (by kernel_rfl) h
theorem quV (n0 : Int) (l1 : List (List D)) (n2 n3 n4 n5 : Int) (l6 : List (List D)) (b7 : Bool)
  (h : Obs [(n0 == 5) = true, (n0 == 5) = true, Ret prog 254 [.one (.sl 4 l1), .agg [I n2, I n3, I n4, I n5]] [.one (.sl 4 l6), .one (B b7)]]) :
  Ret prog 156 [.one (I n0), .one (.sl 4 l1), .agg [I n2, I n3, I n4, I n5]] [.one (.sl 4 l6), .one (B b7)] :=
 .of [.br true, .br true, .res [.one (.sl 4 l6), .one (B b7)]] _ func156 rfl (by kernel_rfl) h
theorem quW (n0 : Int) (l1 : List (List D)) (n2 n3 n4 n5 : Int) (l6 : List (List D)) (b7 : Bool)
  (h : Obs [(n0 == 5) = false, (n0 == 8) = true, Ret prog 254 [.one (.sl 4 l1), .agg [I n2, I n3, I n4, I n5]] [.one (.sl 4 l6), .one (B b7)]]) :
  Ret prog 156 [.one (I n0), .one (.sl 4 l1), .agg [I n2, I n3, I n4, I n5]] [.one (.sl 4 l6), .one (B b7)] :=
 .of [.br false, .br true, .res [.one (.sl 4 l6), .one (B b7)]] _ func156 rfl (by kernel_rfl) h
theorem quX (n0 : Int) (l1 : List (List D)) (n2 n3 n4 n5 : Int) (l6 : List (List D)) (b7 : Bool)
  (h : Obs [(n0 == 5) = false, (n0 == 8) = false, (n0 == 6) = true, Ret prog 255 [.one (.sl 4 l1), .agg [I n2, I n3, I n4, I n5]] [.one (.sl 4 l6)], Ret prog 256 [.one (.sl 4 l1), .agg [I n2, I n3, I n4, I n5]] [.one (B b7)]]) :
  Ret prog 156 [.one (I n0), .one (.sl 4 l1), .agg [I n2, I n3, I n4, I n5]] [.one (.sl 4 l6), .one (B !b7)] :=
 .of [.br false, .br false, .br true, .res [.one (.sl 4 l6)], .res [.one (B b7)]] _ func156 rfl (by kernel_rfl) h
theorem quY (n0 : Int) (l1 : List (List D)) (n2 n3 n4 n5 : Int) (l6 : List (List D))
  (h : Obs [(n0 == 5) = false, (n0 == 8) = false, (n0 == 6) = false, Ret prog 154 [.one (.sl 4 l1)] [.one (.sl 4 l6)]]) :
  Ret prog 156 [.one (I n0), .one (.sl 4 l1), .agg [I n2, I n3, I n4, I n5]] [.one (.sl 4 l6), .one (B true)] :=
 .of [.br false, .br false, .br false, .res [.one (.sl 4 l6)]] _ func156 rfl (by kernel_rfl) h
def qdT (n0 n1 n2 n3 n4 : Int) : St :=
 { env := envOf 41 [(5, .al (.one (.sl (.own 27) 1 [[I n0], [I n1], [I n2], [I n3]]))), (6, .al (.one (.v (.int .i64 n4))))], boxes := [] }
def qgv (n0 : Int) : St :=
 { env := envOf 41 [(4, .al (.one (.v (.int .i64 n0))))], boxes := [] }
theorem quZ (n8 n9 n10 n11 n12 n13 n14 : Int)
  (h : Obs [decide (n12 < 4) = true, 0 ≤ n12, n12 < (↑[[I n8], [I n9], [I n10], [I n11]].length : Int), [[I n8], [I n9], [I n10], [I n11]][n12.toNat]? = some [I n13], (n13 != 0) = true, 0 ≤ n12, n12 < (↑[[I n8], [I n9], [I n10], [I n11]].length : Int), [[I n8], [I n9], [I n10], [I n11]][n12.toNat]? = some [I n14]]) :
  Tr prog (qaa f292 0) (qdT n8 n9 n10 n11 n12) .ret (qgv n14) :=
 .of_loopc (ks := [4]) (bs := []) (ans := [.br true, .el [I n13], .br true, .el [I n14]]) (by kernel_rfl) h
theorem qu0 (n8 n9 n10 n11 n12 n13 : Int)
  (h : Obs [decide (n12 < 4) = true, 0 ≤ n12, n12 < (↑[[I n8], [I n9], [I n10], [I n11]].length : Int), [[I n8], [I n9], [I n10], [I n11]][n12.toNat]? = some [I n13], (n13 != 0) = false, inInt .i64 (n12 + 1)]) :
  Tr prog (qaa f292 0) (qdT n8 n9 n10 n11 n12) .normal (qdT n8 n9 n10 n11 (n12 + 1)) :=
 .of_loopc (ks := [6, 5]) (bs := []) (ans := [.br true, .el [I n13], .br false]) (by kernel_rfl) h
def qja : St :=
 { env := envOf 41 [], boxes := [] }
theorem qu1 (n8 n9 n10 n11 n12 : Int)
  (h : Obs [decide (n12 < 4) = false]) :
  Tr prog (qaa f292 0) (qdT n8 n9 n10 n11 n12) (.exit 0) qja :=
 .of_loopc (ks := []) (bs := []) (ans := [.br false]) (by kernel_rfl) h
theorem qu2 (n0 n1 n2 n3 n4 n5 n6 n7 n8 n9 n10 n11 n12 : Int)
  (h : Obs [Ret prog 305 [.one (I n1), .one (I n5)] [.one (I n8)], Ret prog 305 [.one (I n0), .one (I n4)] [.one (I n9)], Ret prog 305 [.one (I n2), .one (I n6)] [.one (I n10)], Ret prog 305 [.one (I n3), .one (I n7)] [.one (I n11)], qac prog (qaa f292 0) (qdT n8 n9 n10 n11 0) .ret (qgv n12)]) :
  Ret prog 292 [.agg [I n0, I n1, I n2, I n3], .agg [I n4, I n5, I n6, I n7]] [.one (I n12)] :=
 .of [.res [.one (I n8)], .res [.one (I n9)], .res [.one (I n10)], .res [.one (I n11)], .loop [] [6, 5] [] .ret (qgv n12)] _ func292 rfl (by kernel_rfl) h
theorem qu3 (n0 n1 n2 n3 n4 n5 n6 n7 n8 n9 n10 n11 : Int)
  (h : Obs [Ret prog 305 [.one (I n1), .one (I n5)] [.one (I n8)], Ret prog 305 [.one (I n0), .one (I n4)] [.one (I n9)], Ret prog 305 [.one (I n2), .one (I n6)] [.one (I n10)], Ret prog 305 [.one (I n3), .one (I n7)] [.one (I n11)], qac prog (qaa f292 0) (qdT n8 n9 n10 n11 0) (.exit 0) qja]) :
  Ret prog 292 [.agg [I n0, I n1, I n2, I n3], .agg [I n4, I n5, I n6, I n7]] [.one (I 0)] :=
 .of [.res [.one (I n8)], .res [.one (I n9)], .res [.one (I n10)], .res [.one (I n11)], .loop [] [6, 5] [] (.exit 0) qja] _ func292 rfl (by kernel_rfl) h
def qdU (l0 : List (List D)) (n1 n2 n3 n4 n5 : Int) : St :=
 { env := envOf 18 [(0, .al (.one (.sl .free 4 l0))), (3, .al (.one (.ptr 3 0))), (5, .al (.one (.v (.int .i64 n5))))], boxes := [(3, [.v (.int .i64 n1), .v (.int .i64 n2), .v (.int .i64 n3), .v (.int .i64 n4)])] }
def qgw (b0 : Bool) : St :=
 { env := envOf 18 [(4, .al (.one (.sb b0)))], boxes := [] }
theorem qu4 (l0 : List (List D)) (n1 n2 n3 n4 n5 n6 n7 n8 n9 : Int)
  (h : Obs [decide (n5 < (l0.length : Int)) = true, 0 ≤ n5, n5 < (l0.length : Int), l0[n5.toNat]? = some [I n6, I n7, I n8, I n9], (n6 == n1 && (n7 == n2 && (n8 == n3 && n9 == n4))) = true]) :
  Tr prog (qaa f243 0) (qdU l0 n1 n2 n3 n4 n5) .ret (qgw true) :=
 .of_loopc (ks := [4]) (bs := []) (ans := [.br true, .el [I n6, I n7, I n8, I n9], .br true]) (by kernel_rfl) h
theorem qu5 (l0 : List (List D)) (n1 n2 n3 n4 n5 n6 n7 n8 n9 : Int)
  (h : Obs [decide (n5 < (l0.length : Int)) = true, 0 ≤ n5, n5 < (l0.length : Int), l0[n5.toNat]? = some [I n6, I n7, I n8, I n9], (n6 == n1 && (n7 == n2 && (n8 == n3 && n9 == n4))) = false, inInt .i64 (n5 + 1)]) :
  Tr prog (qaa f243 0) (qdU l0 n1 n2 n3 n4 n5) .normal (qdU l0 n1 n2 n3 n4 (n5 + 1)) :=
 .of_loopc (ks := [5, 0, 3]) (bs := [3]) (ans := [.br true, .el [I n6, I n7, I n8, I n9], .br false]) (by kernel_rfl) h
def qjb : St :=
 { env := envOf 18 [], boxes := [] }
theorem qu6 (l0 : List (List D)) (n1 n2 n3 n4 n5 : Int)
  (h : Obs [decide (n5 < (l0.length : Int)) = false]) :
  Tr prog (qaa f243 0) (qdU l0 n1 n2 n3 n4 n5) (.exit 0) qjb :=
 .of_loopc (ks := []) (bs := []) (ans := [.br false]) (by kernel_rfl) h
theorem qu7 (l0 : List (List D)) (n1 n2 n3 n4 : Int) (b5 : Bool)
  (h : Obs [qac prog (qaa f243 0) (qdU l0 n1 n2 n3 n4 0) .ret (qgw b5)]) :
  Ret prog 243 [.one (.sl 4 l0), .agg [I n1, I n2, I n3, I n4]] [.one (B b5)] :=
 .of [.loop [] [5, 0, 3] [3] .ret (qgw b5)] _ func243 rfl (by kernel_rfl) h
theorem qu8 (l0 : List (List D)) (n1 n2 n3 n4 : Int)
  (h : Obs [qac prog (qaa f243 0) (qdU l0 n1 n2 n3 n4 0) (.exit 0) qjb]) :
  Ret prog 243 [.one (.sl 4 l0), .agg [I n1, I n2, I n3, I n4]] [.one (B false)] :=
 .of [.loop [] [5, 0, 3] [3] (.exit 0) qjb] _ func243 rfl (by kernel_rfl) h
theorem qu9 (l0 : List (List D)) (n1 n2 n3 n4 : Int) (b5 : Bool)
  (h : Obs [Ret prog 243 [.one (.sl 4 l0), .agg [I n1, I n2, I n3, I n4]] [.one (B b5)], b5 = true, (([] : List (List D)).length + l0.length) * 32 ≤ 140737488355328, ([] : List (List D)).length + l0.length ≤ 9223372036854775807, Flat l0]) :
  Ret prog 244 [.one (.sl 4 l0), .agg [I n1, I n2, I n3, I n4]] [.one (.sl 4 ([] ++ l0))] :=
 .of [.res [.one (B b5)], .br true] _ func244 rfl (by kernel_rfl) h
def qdV (l0 : List (List D)) (n1 n2 n3 n4 n5 : Int) : St :=
 { env := envOf 41 [(0, .al (.one (.sl .free 4 l0))), (3, .al (.one (.ptr 3 0))), (5, .al (.one (.v (.int .i64 n5))))], boxes := [(3, [.v (.int .i64 n1), .v (.int .i64 n2), .v (.int .i64 n3), .v (.int .i64 n4)])] }
theorem qva (l0 : List (List D)) (n1 n2 n3 n4 n6 n7 n8 n9 n10 n11 : Int)
  (h : Obs [decide (n6 < (l0.length : Int)) = true, 0 ≤ n6, n6 < (l0.length : Int), l0[n6.toNat]? = some [I n7, I n8, I n9, I n10], Ret prog 292 [.agg [I n7, I n8, I n9, I n10], .agg [I n1, I n2, I n3, I n4]] [.one (I n11)], decide (n11 < 0) = true, inInt .i64 (n6 + 1)]) :
  Tr prog (qaa f244 0) (qdV l0 n1 n2 n3 n4 n6) .normal (qdV l0 n1 n2 n3 n4 (n6 + 1)) :=
 .of_loopc (ks := [5, 0, 3]) (bs := [3]) (ans := [.br true, .el [I n7, I n8, I n9, I n10], .res [.one (I n11)], .br true]) (by kernel_rfl) h
def qeL (l0 : List (List D)) (n1 n2 n3 n4 n5 : Int) : St :=
 { env := envOf 41 [(0, .al (.one (.sl .free 4 l0))), (3, .al (.one (.ptr 3 0))), (5, .al (.one (.v (.int .i64 n5))))], boxes := [(3, [.v (.int .i64 n1), .v (.int .i64 n2), .v (.int .i64 n3), .v (.int .i64 n4)])] }
theorem qvb (l0 : List (List D)) (n1 n2 n3 n4 n6 n7 n8 n9 n10 n11 : Int)
  (h : Obs [decide (n6 < (l0.length : Int)) = true, 0 ≤ n6, n6 < (l0.length : Int), l0[n6.toNat]? = some [I n7, I n8, I n9, I n10], Ret prog 292 [.agg [I n7, I n8, I n9, I n10], .agg [I n1, I n2, I n3, I n4]] [.one (I n11)], decide (n11 < 0) = false]) :
  Tr prog (qaa f244 0) (qdV l0 n1 n2 n3 n4 n6) (.exit 0) (qeL l0 n1 n2 n3 n4 n6) :=
 .of_loopc (ks := [0, 5, 3]) (bs := [3]) (ans := [.br true, .el [I n7, I n8, I n9, I n10], .res [.one (I n11)], .br false]) (by kernel_rfl) h
theorem qvc (l0 : List (List D)) (n1 n2 n3 n4 n6 : Int)
  (h : Obs [decide (n6 < (l0.length : Int)) = false]) :
  Tr prog (qaa f244 0) (qdV l0 n1 n2 n3 n4 n6) (.exit 0) (qeL l0 n1 n2 n3 n4 n6) :=
 .of_loopc (ks := [0, 5, 3]) (bs := [3]) (ans := [.br false]) (by kernel_rfl) h
theorem qvd (l0 : List (List D)) (n1 n2 n3 n4 : Int) (b5 : Bool) (n6 : Int)
  (h : Obs [Ret prog 243 [.one (.sl 4 l0), .agg [I n1, I n2, I n3, I n4]] [.one (B b5)], b5 = false, qac prog (qaa f244 0) (qdV l0 n1 n2 n3 n4 0) (.exit 0) (qeL l0 n1 n2 n3 n4 n6), (0 : Int) ≤ none.getD 0, none.getD 0 ≤ (some n6).getD (l0.length : Int), (some n6).getD (l0.length : Int) ≤ (l0.length : Int), (([] : List (List D)).length + (List.take (((some n6).getD (l0.length : Int)).toNat - 0) (List.drop 0 l0)).length) * 32 ≤ 140737488355328, ([] : List (List D)).length + (List.take (((some n6).getD (l0.length : Int)).toNat - 0) (List.drop 0 l0)).length ≤ 9223372036854775807, Flat (List.take (((some n6).getD (l0.length : Int)).toNat - 0) (List.drop 0 l0)), (([] ++ List.take (((some n6).getD (l0.length : Int)).toNat - 0) (List.drop 0 l0)).length + [[I n1, I n2, I n3, I n4]].length) * 32 ≤ 140737488355328, ([] ++ List.take (((some n6).getD (l0.length : Int)).toNat - 0) (List.drop 0 l0)).length + [[I n1, I n2, I n3, I n4]].length ≤ 9223372036854775807, Flat [[I n1, I n2, I n3, I n4]], 0 ≤ (some n6).getD 0, (some n6).getD 0 ≤ none.getD (l0.length : Int), none.getD (l0.length : Int) ≤ (l0.length : Int), (([] ++ List.take (((some n6).getD (l0.length : Int)).toNat - 0) (List.drop 0 l0) ++ [[I n1, I n2, I n3, I n4]]).length + (List.take (l0.length - ((some n6).getD 0).toNat) (List.drop ((some n6).getD 0).toNat l0)).length) * 32 ≤ 140737488355328, ([] ++ List.take (((some n6).getD (l0.length : Int)).toNat - 0) (List.drop 0 l0) ++ [[I n1, I n2, I n3, I n4]]).length + (List.take (l0.length - ((some n6).getD 0).toNat) (List.drop ((some n6).getD 0).toNat l0)).length ≤ 9223372036854775807, Flat (List.take (l0.length - ((some n6).getD 0).toNat) (List.drop ((some n6).getD 0).toNat l0))]) :
  Ret prog 244 [.one (.sl 4 l0), .agg [I n1, I n2, I n3, I n4]] [.one (.sl 4 ([] ++ List.take (((some n6).getD (l0.length : Int)).toNat - 0) (List.drop 0 l0) ++ [[I n1, I n2, I n3, I n4]] ++ List.take (l0.length - ((some n6).getD 0).toNat) (List.drop ((some n6).getD 0).toNat l0)))] :=
 .of [.res [.one (B b5)], .br false, .loop [] [5, 0, 3] [3] (.exit 0) (qeL l0 n1 n2 n3 n4 n6)] _ func244 rfl (by kernel_rfl) h
theorem qve (l0 : List (List D)) (n1 n2 n3 : Int) (b4 : Bool)
  (h : Obs [inInt .i64 ((l0.length : Int) - 1), Ret prog 138 [.one (I n3), .one (I 0), .one (I ((l0.length : Int) - 1))] [.one (B b4)], (!b4) = true]) :
  Ret prog 139 [.agg [D.sl 4 l0, I n1, I n2], .one (I n3)] [.agg [I 0, I 0, I 0, D.sl 1 []], .one (B false)] :=
 .of [.res [.one (B b4)], .br true] _ func139 rfl (by kernel_rfl) h
theorem qvf (l0 : List (List D)) (n1 n2 n3 : Int) (b4 : Bool) (n5 n6 n7 : Int) (l8 : List (List D))
  (h : Obs [inInt .i64 ((l0.length : Int) - 1), Ret prog 138 [.one (I n3), .one (I 0), .one (I ((l0.length : Int) - 1))] [.one (B b4)], (!b4) = false, 0 ≤ n3, n3 < (l0.length : Int), l0[n3.toNat]? = some [I n5, I n6, I n7, D.sl 1 l8], (([] : List (List D)).length + l8.length) * 8 ≤ 140737488355328, ([] : List (List D)).length + l8.length ≤ 9223372036854775807, Flat l8]) :
  Ret prog 139 [.agg [D.sl 4 l0, I n1, I n2], .one (I n3)] [.agg [I n5, I n6, I n7, D.sl 1 ([] ++ l8)], .one (B true)] :=
 .of [.res [.one (B b4)], .br false, .el [I n5, I n6, I n7, D.sl 1 l8]] _ func139 rfl (by kernel_rfl) h
def qbh (l0 : List (List D)) (n1 n2 n3 n4 : Int) (b5 : Bool) (n6 : Int) : St :=
 { env := envOf 54 [(0, .al (.one (.sl .free 4 l0))), (1, .al (.one (.v (.int .i64 n1)))), (2, .al (.one (.v (.int .i64 n2)))), (3, .al (.one (.v (.int .i64 n3)))), (10, .al (.one (.v (.int .i64 n6)))), (11, .al (.one (.sb b5))), (12, .al (.one (.v (.int .i64 n4))))], boxes := [] }
theorem qvu (l0 : List (List D)) (n1 n2 n3 n4 : Int) (b5 : Bool) (n6 n7 n8 n9 n10 : Int)
  (h : Obs [decide (n4 < (l0.length : Int)) = true, 0 ≤ n4, n4 < (l0.length : Int), l0[n4.toNat]? = some [I n7, I n8, I n9, I n10], (n7 == n1) = true, (n8 == n2) = true, (n9 == n3) = true, (!b5) = true, inInt .i64 (n4 + 1)]) :
  Tr prog (qaa f245 0) (qbh l0 n1 n2 n3 n4 b5 n6) .normal (qbh l0 n1 n2 n3 (n4 + 1) true n10) :=
 .of_loopc (ks := [12, 0, 1, 2, 3, 11, 10]) (bs := []) (ans := [.br true, .el [I n7, I n8, I n9, I n10], .br true, .br true, .br true, .br true]) (by kernel_rfl) h
theorem qvv (l0 : List (List D)) (n1 n2 n3 n4 : Int) (b5 : Bool) (n6 n7 n8 n9 n10 : Int)
  (h : Obs [decide (n4 < (l0.length : Int)) = true, 0 ≤ n4, n4 < (l0.length : Int), l0[n4.toNat]? = some [I n7, I n8, I n9, I n10], (n7 == n1) = true, (n8 == n2) = true, (n9 == n3) = true, (!b5) = false, decide (n10 < n6) = true, inInt .i64 (n4 + 1)]) :
  Tr prog (qaa f245 0) (qbh l0 n1 n2 n3 n4 b5 n6) .normal (qbh l0 n1 n2 n3 (n4 + 1) true n10) :=
 .of_loopc (ks := [12, 0, 1, 2, 3, 11, 10]) (bs := []) (ans := [.br true, .el [I n7, I n8, I n9, I n10], .br true, .br true, .br true, .br false, .br true]) (by kernel_rfl) h
theorem qvw (l0 : List (List D)) (n1 n2 n3 n4 : Int) (b5 : Bool) (n6 n7 n8 n9 n10 : Int)
  (h : Obs [decide (n4 < (l0.length : Int)) = true, 0 ≤ n4, n4 < (l0.length : Int), l0[n4.toNat]? = some [I n7, I n8, I n9, I n10], (n7 == n1) = true, (n8 == n2) = true, (n9 == n3) = true, (!b5) = false, decide (n10 < n6) = false, inInt .i64 (n4 + 1)]) :
  Tr prog (qaa f245 0) (qbh l0 n1 n2 n3 n4 b5 n6) .normal (qbh l0 n1 n2 n3 (n4 + 1) b5 n6) :=
 .of_loopc (ks := [12, 0, 1, 2, 3, 11, 10]) (bs := []) (ans := [.br true, .el [I n7, I n8, I n9, I n10], .br true, .br true, .br true, .br false, .br false]) (by kernel_rfl) h
theorem qvx (l0 : List (List D)) (n1 n2 n3 n4 : Int) (b5 : Bool) (n6 n7 n8 n9 n10 : Int)
  (h : Obs [decide (n4 < (l0.length : Int)) = true, 0 ≤ n4, n4 < (l0.length : Int), l0[n4.toNat]? = some [I n7, I n8, I n9, I n10], (n7 == n1) = true, (n8 == n2) = true, (n9 == n3) = false, inInt .i64 (n4 + 1)]) :
  Tr prog (qaa f245 0) (qbh l0 n1 n2 n3 n4 b5 n6) .normal (qbh l0 n1 n2 n3 (n4 + 1) b5 n6) :=
 .of_loopc (ks := [12, 0, 1, 2, 3, 11, 10]) (bs := []) (ans := [.br true, .el [I n7, I n8, I n9, I n10], .br true, .br true, .br false]) (by kernel_rfl) h
theorem qvy (l0 : List (List D)) (n1 n2 n3 n4 : Int) (b5 : Bool) (n6 n7 n8 n9 n10 : Int)
  (h : Obs [decide (n4 < (l0.length : Int)) = true, 0 ≤ n4, n4 < (l0.length : Int), l0[n4.toNat]? = some [I n7, I n8, I n9, I n10], (n7 == n1) = true, (n8 == n2) = false, inInt .i64 (n4 + 1)]) :
  Tr prog (qaa f245 0) (qbh l0 n1 n2 n3 n4 b5 n6) .normal (qbh l0 n1 n2 n3 (n4 + 1) b5 n6) :=
 .of_loopc (ks := [12, 0, 1, 2, 3, 11, 10]) (bs := []) (ans := [.br true, .el [I n7, I n8, I n9, I n10], .br true, .br false]) (by kernel_rfl) h
theorem qvz (l0 : List (List D)) (n1 n2 n3 n4 : Int) (b5 : Bool) (n6 n7 n8 n9 n10 : Int)
  (h : Obs [decide (n4 < (l0.length : Int)) = true, 0 ≤ n4, n4 < (l0.length : Int), l0[n4.toNat]? = some [I n7, I n8, I n9, I n10], (n7 == n1) = false, inInt .i64 (n4 + 1)]) :
  Tr prog (qaa f245 0) (qbh l0 n1 n2 n3 n4 b5 n6) .normal (qbh l0 n1 n2 n3 (n4 + 1) b5 n6) :=
 .of_loopc (ks := [12, 0, 1, 2, 3, 11, 10]) (bs := []) (ans := [.br true, .el [I n7, I n8, I n9, I n10], .br false]) (by kernel_rfl) h
def qjf (n0 : Int) (b1 : Bool) : St :=
 { env := envOf 54 [(10, .al (.one (.v (.int .i64 n0)))), (11, .al (.one (.sb b1)))], boxes := [] }
theorem qvA (l0 : List (List D)) (n1 n2 n3 n4 : Int) (b5 : Bool) (n6 : Int)
  (h : Obs [decide (n4 < (l0.length : Int)) = false]) :
  Tr prog (qaa f245 0) (qbh l0 n1 n2 n3 n4 b5 n6) (.exit 0) (qjf n6 b5) :=
 .of_loopc (ks := [10, 11]) (bs := []) (ans := [.br false]) (by kernel_rfl) h
theorem qvB (l0 : List (List D)) (n1 n2 n3 n4 : Int) (b5 : Bool)
  (h : Obs [qac prog (qaa f245 0) (qbh l0 n1 n2 n3 0 false 0) (.exit 0) (qjf n4 b5)]) :
  Ret prog 245 [.one (.sl 4 l0), .one (I n1), .one (I n2), .one (I n3)] [.one (I n4), .one (B b5)] :=
 .of [.loop [] [12, 0, 1, 2, 3, 11, 10] [] (.exit 0) (qjf n4 b5)] _ func245 rfl (by kernel_rfl) h
theorem qvC (n0 : Int)
  (h : Obs [(n0 == 5) = true]) :
  Ret prog 143 [.one (I n0)] [.one (B true)] :=
 .of [.br true] _ func143 rfl (by kernel_rfl) h
theorem qvD (n0 : Int)
  (h : Obs [(n0 == 5) = false, (n0 == 6) = true]) :
  Ret prog 143 [.one (I n0)] [.one (B true)] :=
 .of [.br false, .br true] _ func143 rfl (by kernel_rfl) h
theorem qvE (n0 : Int)
  (h : Obs [(n0 == 5) = false, (n0 == 6) = false]) :
  Ret prog 143 [.one (I n0)] [.one (B (n0 == 8))] :=
 .of [.br false, .br false] _ func143 rfl (by kernel_rfl) h
theorem qvF (n0 : Int) (l1 : List (List D)) (n2 n3 n4 n5 : Int) (b6 : Bool)
  (h : Obs [(([] : List (List D)).length + l1.length) * 32 ≤ 140737488355328, ([] : List (List D)).length + l1.length ≤ 9223372036854775807, Flat l1, (n0 == 6) = true, Ret prog 243 [.one (.sl 4 l1), .agg [I n2, I n3, I n4, I n5]] [.one (B b6)], b6 = true]) :
  Ret prog 144 [.one (I n0), .one (.sl 4 l1), .agg [I n2, I n3, I n4, I n5]] [.one (.sl 4 ([] ++ l1)), .one (B false)] :=
 .of [.br true, .res [.one (B b6)], .br true] _ func144 rfl (by kernel_rfl) h
theorem qvG (n0 : Int) (l1 : List (List D)) (n2 n3 n4 n5 : Int) (b6 : Bool) (l7 : List (List D))
  (h : Obs [(([] : List (List D)).length + l1.length) * 32 ≤ 140737488355328, ([] : List (List D)).length + l1.length ≤ 9223372036854775807, Flat l1, (n0 == 6) = true, Ret prog 243 [.one (.sl 4 l1), .agg [I n2, I n3, I n4, I n5]] [.one (B b6)], b6 = false, Ret prog 244 [.one (.sl 4 l1), .agg [I n2, I n3, I n4, I n5]] [.one (.sl 4 l7)]]) :
  Ret prog 144 [.one (I n0), .one (.sl 4 l1), .agg [I n2, I n3, I n4, I n5]] [.one (.sl 4 l7), .one (B true)] :=
 .of [.br true, .res [.one (B b6)], .br false, .res [.one (.sl 4 l7)]] _ func144 rfl (by kernel_rfl) h
theorem qvH (n0 : Int) (l1 : List (List D)) (n2 n3 n4 n5 n6 : Int) (b7 : Bool)
  (h : Obs [(([] : List (List D)).length + l1.length) * 32 ≤ 140737488355328, ([] : List (List D)).length + l1.length ≤ 9223372036854775807, Flat l1, (n0 == 6) = false, (n0 == 5) = true, (n0 == 5) = true, Ret prog 245 [.one (.sl 4 l1), .one (I n2), .one (I n3), .one (I n4)] [.one (I n6), .one (B b7)], b7 = true, decide (n6 ≤ n5) = true]) :
  Ret prog 144 [.one (I n0), .one (.sl 4 l1), .agg [I n2, I n3, I n4, I n5]] [.one (.sl 4 ([] ++ l1)), .one (B false)] :=
 .of [.br false, .br true, .br true, .res [.one (I n6), .one (B b7)], .br true, .br true] _ func144 rfl (by kernel_rfl) h
def qbi (l0 : List (List D)) (n1 n2 n3 n4 n5 : Int) (l6 : List (List D)) : St :=
 { env := envOf 94 [(1, .al (.one (.sl .free 4 l0))), (5, .al (.one (.ptr 5 0))), (11, .al (.one (.sl (.own 48) 4 l6))), (12, .al (.one (.v (.int .i64 n5))))], boxes := [(5, [.v (.int .i64 n1), .v (.int .i64 n2), .v (.int .i64 n3), .v (.int .i64 n4)])] }
theorem qvI (l1 : List (List D)) (n2 n3 n4 n5 n8 : Int) (l9 : List (List D)) (n10 n11 n12 n13 n14 n15 n16 n17 : Int)
  (h : Obs [decide (n8 < (l1.length : Int)) = true, 0 ≤ n8, n8 < (l1.length : Int), l1[n8.toNat]? = some [I n10, I n11, I n12, I n13], (n10 != n2) = true, 0 ≤ n8, n8 < (l1.length : Int), l1[n8.toNat]? = some [I n14, I n15, I n16, I n17], (l9.length + [[I n14, I n15, I n16, I n17]].length) * 32 ≤ 140737488355328, l9.length + [[I n14, I n15, I n16, I n17]].length ≤ 9223372036854775807, Flat [[I n14, I n15, I n16, I n17]], inInt .i64 (n8 + 1)]) :
  Tr prog (qaa f144 0) (qbi l1 n2 n3 n4 n5 n8 l9) .normal (qbi l1 n2 n3 n4 n5 (n8 + 1) (l9 ++ [[I n14, I n15, I n16, I n17]])) :=
 .of_loopc (ks := [12, 1, 5, 11]) (bs := [5]) (ans := [.br true, .el [I n10, I n11, I n12, I n13], .br true, .el [I n14, I n15, I n16, I n17]]) (by kernel_rfl) h
theorem qvJ (l1 : List (List D)) (n2 n3 n4 n5 n8 : Int) (l9 : List (List D)) (n10 n11 n12 n13 n14 n15 n16 n17 n18 n19 n20 n21 : Int)
  (h : Obs [decide (n8 < (l1.length : Int)) = true, 0 ≤ n8, n8 < (l1.length : Int), l1[n8.toNat]? = some [I n10, I n11, I n12, I n13], (n10 != n2) = false, 0 ≤ n8, n8 < (l1.length : Int), l1[n8.toNat]? = some [I n14, I n15, I n16, I n17], (n15 != n3) = true, 0 ≤ n8, n8 < (l1.length : Int), l1[n8.toNat]? = some [I n18, I n19, I n20, I n21], (l9.length + [[I n18, I n19, I n20, I n21]].length) * 32 ≤ 140737488355328, l9.length + [[I n18, I n19, I n20, I n21]].length ≤ 9223372036854775807, Flat [[I n18, I n19, I n20, I n21]], inInt .i64 (n8 + 1)]) :
  Tr prog (qaa f144 0) (qbi l1 n2 n3 n4 n5 n8 l9) .normal (qbi l1 n2 n3 n4 n5 (n8 + 1) (l9 ++ [[I n18, I n19, I n20, I n21]])) :=
 .of_loopc (ks := [12, 1, 5, 11]) (bs := [5]) (ans := [.br true, .el [I n10, I n11, I n12, I n13], .br false, .el [I n14, I n15, I n16, I n17], .br true, .el [I n18, I n19, I n20, I n21]]) (by kernel_rfl) h
theorem qvK (l1 : List (List D)) (n2 n3 n4 n5 n8 : Int) (l9 : List (List D)) (n10 n11 n12 n13 n14 n15 n16 n17 n18 n19 n20 n21 n22 n23 n24 n25 : Int)
  (h : Obs [decide (n8 < (l1.length : Int)) = true, 0 ≤ n8, n8 < (l1.length : Int), l1[n8.toNat]? = some [I n10, I n11, I n12, I n13], (n10 != n2) = false, 0 ≤ n8, n8 < (l1.length : Int), l1[n8.toNat]? = some [I n14, I n15, I n16, I n17], (n15 != n3) = false, 0 ≤ n8, n8 < (l1.length : Int), l1[n8.toNat]? = some [I n18, I n19, I n20, I n21], (n20 != n4) = true, 0 ≤ n8, n8 < (l1.length : Int), l1[n8.toNat]? = some [I n22, I n23, I n24, I n25], (l9.length + [[I n22, I n23, I n24, I n25]].length) * 32 ≤ 140737488355328, l9.length + [[I n22, I n23, I n24, I n25]].length ≤ 9223372036854775807, Flat [[I n22, I n23, I n24, I n25]], inInt .i64 (n8 + 1)]) :
  Tr prog (qaa f144 0) (qbi l1 n2 n3 n4 n5 n8 l9) .normal (qbi l1 n2 n3 n4 n5 (n8 + 1) (l9 ++ [[I n22, I n23, I n24, I n25]])) :=
 .of_loopc (ks := [12, 1, 5, 11]) (bs := [5]) (ans := [.br true, .el [I n10, I n11, I n12, I n13], .br false, .el [I n14, I n15, I n16, I n17], .br false, .el [I n18, I n19, I n20, I n21], .br true, .el [I n22, I n23, I n24, I n25]]) (by kernel_rfl) h
theorem qvL (l1 : List (List D)) (n2 n3 n4 n5 n8 : Int) (l9 : List (List D)) (n10 n11 n12 n13 n14 n15 n16 n17 n18 n19 n20 n21 : Int)
  (h : Obs [decide (n8 < (l1.length : Int)) = true, 0 ≤ n8, n8 < (l1.length : Int), l1[n8.toNat]? = some [I n10, I n11, I n12, I n13], (n10 != n2) = false, 0 ≤ n8, n8 < (l1.length : Int), l1[n8.toNat]? = some [I n14, I n15, I n16, I n17], (n15 != n3) = false, 0 ≤ n8, n8 < (l1.length : Int), l1[n8.toNat]? = some [I n18, I n19, I n20, I n21], (n20 != n4) = false, inInt .i64 (n8 + 1)]) :
  Tr prog (qaa f144 0) (qbi l1 n2 n3 n4 n5 n8 l9) .normal (qbi l1 n2 n3 n4 n5 (n8 + 1) l9) :=
 .of_loopc (ks := [12, 1, 5, 11]) (bs := [5]) (ans := [.br true, .el [I n10, I n11, I n12, I n13], .br false, .el [I n14, I n15, I n16, I n17], .br false, .el [I n18, I n19, I n20, I n21], .br false]) (by kernel_rfl) h
def qcv (n0 n1 n2 n3 : Int) (l4 : List (List D)) : St :=
 { env := envOf 94 [(5, .al (.one (.ptr 5 0))), (11, .al (.one (.sl (.own 48) 4 l4)))], boxes := [(5, [.v (.int .i64 n0), .v (.int .i64 n1), .v (.int .i64 n2), .v (.int .i64 n3)])] }
theorem qvM (l1 : List (List D)) (n2 n3 n4 n5 n8 : Int) (l9 : List (List D))
  (h : Obs [decide (n8 < (l1.length : Int)) = false]) :
  Tr prog (qaa f144 0) (qbi l1 n2 n3 n4 n5 n8 l9) (.exit 1) (qcv n2 n3 n4 n5 l9) :=
 .of_loopc (ks := [11, 5]) (bs := [5]) (ans := [.br false]) (by kernel_rfl) h
theorem qvN (n0 : Int) (l1 : List (List D)) (n2 n3 n4 n5 n6 : Int) (b7 : Bool) (l8 l9 : List (List D))
  (h : Obs [(([] : List (List D)).length + l1.length) * 32 ≤ 140737488355328, ([] : List (List D)).length + l1.length ≤ 9223372036854775807, Flat l1, (n0 == 6) = false, (n0 == 5) = true, (n0 == 5) = true, Ret prog 245 [.one (.sl 4 l1), .one (I n2), .one (I n3), .one (I n4)] [.one (I n6), .one (B b7)], b7 = true, decide (n6 ≤ n5) = false, qac prog (qaa f144 0) (qbi l1 n2 n3 n4 n5 0 []) (.exit 1) (qcv n2 n3 n4 n5 l8), Ret prog 244 [.one (.sl 4 l8), .agg [I n2, I n3, I n4, I n5]] [.one (.sl 4 l9)]]) :
  Ret prog 144 [.one (I n0), .one (.sl 4 l1), .agg [I n2, I n3, I n4, I n5]] [.one (.sl 4 l9), .one (B true)] :=
 .of [.br false, .br true, .br true, .res [.one (I n6), .one (B b7)], .br true, .br false, .loop [] [12, 1, 5, 11] [5] (.exit 1) (qcv n2 n3 n4 n5 l8), .res [.one (.sl 4 l9)]] _ func144 rfl (by kernel_rfl) h
theorem qvO (n0 : Int) (l1 : List (List D)) (n2 n3 n4 n5 n6 : Int) (b7 : Bool) (l8 l9 : List (List D))
  (h : Obs [(([] : List (List D)).length + l1.length) * 32 ≤ 140737488355328, ([] : List (List D)).length + l1.length ≤ 9223372036854775807, Flat l1, (n0 == 6) = false, (n0 == 5) = true, (n0 == 5) = true, Ret prog 245 [.one (.sl 4 l1), .one (I n2), .one (I n3), .one (I n4)] [.one (I n6), .one (B b7)], b7 = false, qac prog (qaa f144 0) (qbi l1 n2 n3 n4 n5 0 []) (.exit 1) (qcv n2 n3 n4 n5 l8), Ret prog 244 [.one (.sl 4 l8), .agg [I n2, I n3, I n4, I n5]] [.one (.sl 4 l9)]]) :
  Ret prog 144 [.one (I n0), .one (.sl 4 l1), .agg [I n2, I n3, I n4, I n5]] [.one (.sl 4 l9), .one (B true)] :=
 .of [.br false, .br true, .br true, .res [.one (I n6), .one (B b7)], .br false, .loop [] [12, 1, 5, 11] [5] (.exit 1) (qcv n2 n3 n4 n5 l8), .res [.one (.sl 4 l9)]] _ func144 rfl (by kernel_rfl) h
theorem qvP (n0 : Int) (l1 : List (List D)) (n2 n3 n4 n5 n6 : Int) (b7 : Bool)
  (h : Obs [(([] : List (List D)).length + l1.length) * 32 ≤ 140737488355328, ([] : List (List D)).length + l1.length ≤ 9223372036854775807, Flat l1, (n0 == 6) = false, (n0 == 5) = false, (n0 == 8) = true, Ret prog 245 [.one (.sl 4 l1), .one (I n2), .one (I n3), .one (I n4)] [.one (I n6), .one (B b7)], b7 = true, decide (n6 ≤ n5) = true]) :
  Ret prog 144 [.one (I n0), .one (.sl 4 l1), .agg [I n2, I n3, I n4, I n5]] [.one (.sl 4 ([] ++ l1)), .one (B false)] :=
 .of [.br false, .br false, .br true, .res [.one (I n6), .one (B b7)], .br true, .br true] _ func144 rfl (by kernel_rfl) h
theorem qvQ (n0 : Int) (l1 : List (List D)) (n2 n3 n4 n5 n6 : Int) (b7 : Bool) (l8 l9 : List (List D))
  (h : Obs [(([] : List (List D)).length + l1.length) * 32 ≤ 140737488355328, ([] : List (List D)).length + l1.length ≤ 9223372036854775807, Flat l1, (n0 == 6) = false, (n0 == 5) = false, (n0 == 8) = true, Ret prog 245 [.one (.sl 4 l1), .one (I n2), .one (I n3), .one (I n4)] [.one (I n6), .one (B b7)], b7 = true, decide (n6 ≤ n5) = false, qac prog (qaa f144 0) (qbi l1 n2 n3 n4 n5 0 []) (.exit 1) (qcv n2 n3 n4 n5 l8), Ret prog 244 [.one (.sl 4 l8), .agg [I n2, I n3, I n4, I n5]] [.one (.sl 4 l9)]]) :
  Ret prog 144 [.one (I n0), .one (.sl 4 l1), .agg [I n2, I n3, I n4, I n5]] [.one (.sl 4 l9), .one (B true)] :=
 .of [.br false, .br false, .br true, .res [.one (I n6), .one (B b7)], .br true, .br false, .loop [] [12, 1, 5, 11] [5] (.exit 1) (qcv n2 n3 n4 n5 l8), .res [.one (.sl 4 l9)]] _ func144 rfl (by kernel_rfl) h
theorem qvR (n0 : Int) (l1 : List (List D)) (n2 n3 n4 n5 n6 : Int) (b7 : Bool) (l8 l9 : List (List D))
  (h : Obs [(([] : List (List D)).length + l1.length) * 32 ≤ 140737488355328, ([] : List (List D)).length + l1.length ≤ 9223372036854775807, Flat l1, (n0 == 6) = false, (n0 == 5) = false, (n0 == 8) = true, Ret prog 245 [.one (.sl 4 l1), .one (I n2), .one (I n3), .one (I n4)] [.one (I n6), .one (B b7)], b7 = false, qac prog (qaa f144 0) (qbi l1 n2 n3 n4 n5 0 []) (.exit 1) (qcv n2 n3 n4 n5 l8), Ret prog 244 [.one (.sl 4 l8), .agg [I n2, I n3, I n4, I n5]] [.one (.sl 4 l9)]]) :
  Ret prog 144 [.one (I n0), .one (.sl 4 l1), .agg [I n2, I n3, I n4, I n5]] [.one (.sl 4 l9), .one (B true)] :=
 .of [.br false, .br false, .br true, .res [.one (I n6), .one (B b7)], .br false, .loop [] [12, 1, 5, 11] [5] (.exit 1) (qcv n2 n3 n4 n5 l8), .res [.one (.sl 4 l9)]] _ func144 rfl (by kernel_rfl) h
theorem qvS (n0 : Int) (l1 : List (List D)) (n2 n3 n4 n5 : Int)
  (h : Obs [(([] : List (List D)).length + l1.length) * 32 ≤ 140737488355328, ([] : List (List D)).length + l1.length ≤ 9223372036854775807, Flat l1, (n0 == 6) = false, (n0 == 5) = false, (n0 == 8) = false]) :
  Ret prog 144 [.one (I n0), .one (.sl 4 l1), .agg [I n2, I n3, I n4, I n5]] [.one (.sl 4 ([] ++ l1)), .one (B true)] :=
 .of [.br false, .br false, .br false] _ func144 rfl (by kernel_rfl) h
end Go.Proofs.YtialmplmfcahpaaGreat
