import Derived.Test.YtialmplmfcahpaaGreatRows
import Derived.Test.YtialmplmfcahpaaGreatR22
set_option linter.unusedVariables false
set_option linter.unusedSimpArgs false
namespace Go.Proofs.YtialmplmfcahpaaGreat
open Go.Sx Go.RowKit Go.Proofs.Tryz
theorem qpJ (n0 n1 : Int)
  (h : Obs []) :
  Ret prog 197 [.agg [I n0, I n1]] [.agg [I n0, I n1]] :=
 .of [] _ func197 rfl (by kernel_rfl) h
theorem qpK (n0 n1 n2 n3 n4 n5 n6 : Int)
  (h : Obs [Ret prog 197 [.agg [I n1, I n2]] [.agg [I n5, I n6]]]) :
  Ret prog 102 [.agg [I n0, I n1, I n2, I n3, I n4]] [.agg [I n0, I n5, I n6, I n3, I n4]] :=
 .of [.res [.agg [I n5, I n6]]] _ func102 rfl (by kernel_rfl) h
def qdx (l0 : List (List D)) (n1 : Int) (l2 : List (List D)) : St :=
 { env := envOf 23 [(0, .al (.one (.sl .free 5 l0))), (3, .al (.one (.sl (.own 7) 5 l2))), (4, .al (.one (.v (.int .i64 n1))))], boxes := [] }
theorem qpL (l0 : List (List D)) (n1 : Int) (l2 : List (List D)) (n3 n4 n5 n6 n7 n8 n9 n10 n11 n12 : Int) (d13 d14 d15 d16 d17 : D)
  (h : Obs [decide (n1 < (l0.length : Int)) = true, 0 ≤ n1, n1 < (l0.length : Int), l0[n1.toNat]? = some [I n3, I n4, I n5, I n6, I n7], Ret prog 102 [.agg [I n3, I n4, I n5, I n6, I n7]] [.agg [I n8, I n9, I n10, I n11, I n12]], 0 ≤ n1, n1 < (l2.length : Int), l2[n1.toNat]? = some [d13, d14, d15, d16, d17], inInt .i64 (n1 + 1)]) :
  Tr prog (qaa f30 0) (qdx l0 n1 l2) .normal (qdx l0 (n1 + 1) (l2.set n1.toNat [I n8, I n9, I n10, I n11, I n12])) :=
 .of_loopc (ks := [4, 0, 3]) (bs := []) (ans := [.br true, .el [I n3, I n4, I n5, I n6, I n7], .res [.agg [I n8, I n9, I n10, I n11, I n12]], .el [d13, d14, d15, d16, d17]]) (by kernel_rfl) h
def qf7 (l0 : List (List D)) : St :=
 { env := envOf 23 [(3, .al (.one (.sl (.own 7) 5 l0)))], boxes := [] }
theorem qpM (l0 : List (List D)) (n1 : Int) (l2 : List (List D))
  (h : Obs [decide (n1 < (l0.length : Int)) = false]) :
  Tr prog (qaa f30 0) (qdx l0 n1 l2) (.exit 0) (qf7 l2) :=
 .of_loopc (ks := [3]) (bs := []) (ans := [.br false]) (by kernel_rfl) h
theorem qpN (l0 l1 : List (List D))
  (h : Obs [0 ≤ (l0.length : Int), (l0.length : Int) ≤ (l0.length : Int), (↑40 : Int) * (l0.length : Int) ≤ 281474976710656, (l0.length : Int) ≤ 9223372036854775807, qac prog (qaa f30 0) (qdx l0 0 (List.replicate l0.length [I 0, I 0, I 0, I 0, I 0])) (.exit 0) (qf7 l1)]) :
  Ret prog 30 [.one (.sl 5 l0)] [.one (.sl 5 l1)] :=
 .of [.loop [] [4, 0, 3] [] (.exit 0) (qf7 l1)] _ func30 rfl (by kernel_rfl) h
theorem qpO (n0 n1 n2 n3 : Int)
  (h : Obs []) :
  Ret prog 293 [.agg [I n0, I n1, I n2, I n3]] [.agg [I n0, I n1, I n2, I n3]] :=
 .of [] _ func293 rfl (by kernel_rfl) h
def qdy (l0 : List (List D)) (n1 : Int) (l2 : List (List D)) : St :=
 { env := envOf 23 [(0, .al (.one (.sl .free 4 l0))), (3, .al (.one (.sl (.own 7) 4 l2))), (4, .al (.one (.v (.int .i64 n1))))], boxes := [] }
theorem qpP (l0 : List (List D)) (n1 : Int) (l2 : List (List D)) (n3 n4 n5 n6 n7 n8 n9 n10 : Int) (d11 d12 d13 d14 : D)
  (h : Obs [decide (n1 < (l0.length : Int)) = true, 0 ≤ n1, n1 < (l0.length : Int), l0[n1.toNat]? = some [I n3, I n4, I n5, I n6], Ret prog 293 [.agg [I n3, I n4, I n5, I n6]] [.agg [I n7, I n8, I n9, I n10]], 0 ≤ n1, n1 < (l2.length : Int), l2[n1.toNat]? = some [d11, d12, d13, d14], inInt .i64 (n1 + 1)]) :
  Tr prog (qaa f247 0) (qdy l0 n1 l2) .normal (qdy l0 (n1 + 1) (l2.set n1.toNat [I n7, I n8, I n9, I n10])) :=
 .of_loopc (ks := [4, 0, 3]) (bs := []) (ans := [.br true, .el [I n3, I n4, I n5, I n6], .res [.agg [I n7, I n8, I n9, I n10]], .el [d11, d12, d13, d14]]) (by kernel_rfl) h
def qf8 (l0 : List (List D)) : St :=
 { env := envOf 23 [(3, .al (.one (.sl (.own 7) 4 l0)))], boxes := [] }
theorem qpQ (l0 : List (List D)) (n1 : Int) (l2 : List (List D))
  (h : Obs [decide (n1 < (l0.length : Int)) = false]) :
  Tr prog (qaa f247 0) (qdy l0 n1 l2) (.exit 0) (qf8 l2) :=
 .of_loopc (ks := [3]) (bs := []) (ans := [.br false]) (by kernel_rfl) h
theorem qpR (l0 l1 : List (List D))
  (h : Obs [0 ≤ (l0.length : Int), (l0.length : Int) ≤ (l0.length : Int), (↑32 : Int) * (l0.length : Int) ≤ 281474976710656, (l0.length : Int) ≤ 9223372036854775807, qac prog (qaa f247 0) (qdy l0 0 (List.replicate l0.length [I 0, I 0, I 0, I 0])) (.exit 0) (qf8 l1)]) :
  Ret prog 247 [.one (.sl 4 l0)] [.one (.sl 4 l1)] :=
 .of [.loop [] [4, 0, 3] [] (.exit 0) (qf8 l1)] _ func247 rfl (by kernel_rfl) h
def qdz (l0 : List (List D)) (n1 : Int) (l2 : List (List D)) : St :=
 { env := envOf 22 [(0, .al (.one (.sl .free 1 l0))), (3, .al (.one (.sl (.own 7) 1 l2))), (4, .al (.one (.v (.int .i64 n1))))], boxes := [] }
theorem qpS (l0 : List (List D)) (n1 : Int) (l2 : List (List D)) (n3 : Int) (d4 : D)
  (h : Obs [decide (n1 < (l0.length : Int)) = true, 0 ≤ n1, n1 < (l0.length : Int), l0[n1.toNat]? = some [I n3], 0 ≤ n1, n1 < (l2.length : Int), l2[n1.toNat]? = some [d4], inInt .i64 (n1 + 1)]) :
  Tr prog (qaa f248 0) (qdz l0 n1 l2) .normal (qdz l0 (n1 + 1) (l2.set n1.toNat [I n3])) :=
 .of_loopc (ks := [4, 0, 3]) (bs := []) (ans := [.br true, .el [I n3], .el [d4]]) (by kernel_rfl) h
def qf9 (l0 : List (List D)) : St :=
 { env := envOf 22 [(3, .al (.one (.sl (.own 7) 1 l0)))], boxes := [] }
theorem qpT (l0 : List (List D)) (n1 : Int) (l2 : List (List D))
  (h : Obs [decide (n1 < (l0.length : Int)) = false]) :
  Tr prog (qaa f248 0) (qdz l0 n1 l2) (.exit 0) (qf9 l2) :=
 .of_loopc (ks := [3]) (bs := []) (ans := [.br false]) (by kernel_rfl) h
theorem qpU (l0 l1 : List (List D))
  (h : Obs [0 ≤ (l0.length : Int), (l0.length : Int) ≤ (l0.length : Int), (↑8 : Int) * (l0.length : Int) ≤ 281474976710656, (l0.length : Int) ≤ 9223372036854775807, qac prog (qaa f248 0) (qdz l0 0 (List.replicate l0.length [I 0])) (.exit 0) (qf9 l1)]) :
  Ret prog 248 [.one (.sl 1 l0)] [.one (.sl 1 l1)] :=
 .of [.loop [] [4, 0, 3] [] (.exit 0) (qf9 l1)] _ func248 rfl (by kernel_rfl) h
def qdA (l0 : List (List D)) (n1 : Int) (l2 : List (List D)) : St :=
 { env := envOf 22 [(0, .al (.one (.sl .free 1 l0))), (3, .al (.one (.sl (.own 7) 1 l2))), (4, .al (.one (.v (.int .i64 n1))))], boxes := [] }
theorem qpV (l0 : List (List D)) (n1 : Int) (l2 : List (List D)) (b3 : Bool) (d4 : D)
  (h : Obs [decide (n1 < (l0.length : Int)) = true, 0 ≤ n1, n1 < (l0.length : Int), l0[n1.toNat]? = some [B b3], 0 ≤ n1, n1 < (l2.length : Int), l2[n1.toNat]? = some [d4], inInt .i64 (n1 + 1)]) :
  Tr prog (qaa f249 0) (qdA l0 n1 l2) .normal (qdA l0 (n1 + 1) (l2.set n1.toNat [B b3])) :=
 .of_loopc (ks := [4, 0, 3]) (bs := []) (ans := [.br true, .el [B b3], .el [d4]]) (by kernel_rfl) h
def qga (l0 : List (List D)) : St :=
 { env := envOf 22 [(3, .al (.one (.sl (.own 7) 1 l0)))], boxes := [] }
theorem qpW (l0 : List (List D)) (n1 : Int) (l2 : List (List D))
  (h : Obs [decide (n1 < (l0.length : Int)) = false]) :
  Tr prog (qaa f249 0) (qdA l0 n1 l2) (.exit 0) (qga l2) :=
 .of_loopc (ks := [3]) (bs := []) (ans := [.br false]) (by kernel_rfl) h
theorem qpX (l0 l1 : List (List D))
  (h : Obs [0 ≤ (l0.length : Int), (l0.length : Int) ≤ (l0.length : Int), (↑1 : Int) * (l0.length : Int) ≤ 281474976710656, (l0.length : Int) ≤ 9223372036854775807, qac prog (qaa f249 0) (qdA l0 0 (List.replicate l0.length [B false])) (.exit 0) (qga l1)]) :
  Ret prog 249 [.one (.sl 1 l0)] [.one (.sl 1 l1)] :=
 .of [.loop [] [4, 0, 3] [] (.exit 0) (qga l1)] _ func249 rfl (by kernel_rfl) h
theorem qpY (n0 : Int) (b1 : Bool)
  (h : Obs []) :
  Ret prog 294 [.agg [I n0, B b1]] [.agg [I n0, B b1]] :=
 .of [] _ func294 rfl (by kernel_rfl) h
def qdB (l0 : List (List D)) (n1 : Int) (l2 : List (List D)) : St :=
 { env := envOf 23 [(0, .al (.one (.sl .free 2 l0))), (3, .al (.one (.sl (.own 7) 2 l2))), (4, .al (.one (.v (.int .i64 n1))))], boxes := [] }
theorem qpZ (l0 : List (List D)) (n1 : Int) (l2 : List (List D)) (n3 : Int) (b4 : Bool) (n5 : Int) (b6 : Bool) (d7 d8 : D)
  (h : Obs [decide (n1 < (l0.length : Int)) = true, 0 ≤ n1, n1 < (l0.length : Int), l0[n1.toNat]? = some [I n3, B b4], Ret prog 294 [.agg [I n3, B b4]] [.agg [I n5, B b6]], 0 ≤ n1, n1 < (l2.length : Int), l2[n1.toNat]? = some [d7, d8], inInt .i64 (n1 + 1)]) :
  Tr prog (qaa f250 0) (qdB l0 n1 l2) .normal (qdB l0 (n1 + 1) (l2.set n1.toNat [I n5, B b6])) :=
 .of_loopc (ks := [4, 0, 3]) (bs := []) (ans := [.br true, .el [I n3, B b4], .res [.agg [I n5, B b6]], .el [d7, d8]]) (by kernel_rfl) h
def qgb (l0 : List (List D)) : St :=
 { env := envOf 23 [(3, .al (.one (.sl (.own 7) 2 l0)))], boxes := [] }
theorem qp0 (l0 : List (List D)) (n1 : Int) (l2 : List (List D))
  (h : Obs [decide (n1 < (l0.length : Int)) = false]) :
  Tr prog (qaa f250 0) (qdB l0 n1 l2) (.exit 0) (qgb l2) :=
 .of_loopc (ks := [3]) (bs := []) (ans := [.br false]) (by kernel_rfl) h
theorem qp1 (l0 l1 : List (List D))
  (h : Obs [0 ≤ (l0.length : Int), (l0.length : Int) ≤ (l0.length : Int), (↑16 : Int) * (l0.length : Int) ≤ 281474976710656, (l0.length : Int) ≤ 9223372036854775807, qac prog (qaa f250 0) (qdB l0 0 (List.replicate l0.length [I 0, B false])) (.exit 0) (qgb l1)]) :
  Ret prog 250 [.one (.sl 2 l0)] [.one (.sl 2 l1)] :=
 .of [.loop [] [4, 0, 3] [] (.exit 0) (qgb l1)] _ func250 rfl (by kernel_rfl) h
theorem qp2 (b0 : Bool) (n1 n2 : Int) (b3 b4 : Bool)
  (h : Obs []) :
  Ret prog 149 [.agg [B b0, I n1, I n2, B b3, B b4]] [.agg [B b0, I n1, I n2, B b3, B b4]] :=
 .of [] _ func149 rfl (by kernel_rfl) h
def qdC (l0 : List (List D)) (n1 : Int) (l2 : List (List D)) : St :=
 { env := envOf 23 [(0, .al (.one (.sl .free 5 l0))), (3, .al (.one (.sl (.own 7) 5 l2))), (4, .al (.one (.v (.int .i64 n1))))], boxes := [] }
theorem qp3 (l0 : List (List D)) (n1 : Int) (l2 : List (List D)) (b3 : Bool) (n4 n5 : Int) (b6 b7 b8 : Bool) (n9 n10 : Int) (b11 b12 : Bool) (d13 d14 d15 d16 d17 : D)
  (h : Obs [decide (n1 < (l0.length : Int)) = true, 0 ≤ n1, n1 < (l0.length : Int), l0[n1.toNat]? = some [B b3, I n4, I n5, B b6, B b7], Ret prog 149 [.agg [B b3, I n4, I n5, B b6, B b7]] [.agg [B b8, I n9, I n10, B b11, B b12]], 0 ≤ n1, n1 < (l2.length : Int), l2[n1.toNat]? = some [d13, d14, d15, d16, d17], inInt .i64 (n1 + 1)]) :
  Tr prog (qaa f64 0) (qdC l0 n1 l2) .normal (qdC l0 (n1 + 1) (l2.set n1.toNat [B b8, I n9, I n10, B b11, B b12])) :=
 .of_loopc (ks := [4, 0, 3]) (bs := []) (ans := [.br true, .el [B b3, I n4, I n5, B b6, B b7], .res [.agg [B b8, I n9, I n10, B b11, B b12]], .el [d13, d14, d15, d16, d17]]) (by kernel_rfl) h
def qgc (l0 : List (List D)) : St :=
 { env := envOf 23 [(3, .al (.one (.sl (.own 7) 5 l0)))], boxes := [] }
theorem qp4 (l0 : List (List D)) (n1 : Int) (l2 : List (List D))
  (h : Obs [decide (n1 < (l0.length : Int)) = false]) :
  Tr prog (qaa f64 0) (qdC l0 n1 l2) (.exit 0) (qgc l2) :=
 .of_loopc (ks := [3]) (bs := []) (ans := [.br false]) (by kernel_rfl) h
theorem qp5 (l0 l1 : List (List D))
  (h : Obs [0 ≤ (l0.length : Int), (l0.length : Int) ≤ (l0.length : Int), (↑32 : Int) * (l0.length : Int) ≤ 281474976710656, (l0.length : Int) ≤ 9223372036854775807, qac prog (qaa f64 0) (qdC l0 0 (List.replicate l0.length [B false, I 0, I 0, B false, B false])) (.exit 0) (qgc l1)]) :
  Ret prog 64 [.one (.sl 5 l0)] [.one (.sl 5 l1)] :=
 .of [.loop [] [4, 0, 3] [] (.exit 0) (qgc l1)] _ func64 rfl (by kernel_rfl) h
theorem qp6 (n0 n1 : Int) (b2 : Bool)
  (h : Obs []) :
  Ret prog 150 [.agg [I n0, I n1, B b2]] [.agg [I n0, I n1, B b2]] :=
 .of [] _ func150 rfl (by kernel_rfl) h
def qdD (l0 : List (List D)) (n1 : Int) (l2 : List (List D)) : St :=
 { env := envOf 23 [(0, .al (.one (.sl .free 3 l0))), (3, .al (.one (.sl (.own 7) 3 l2))), (4, .al (.one (.v (.int .i64 n1))))], boxes := [] }
theorem qp7 (l0 : List (List D)) (n1 : Int) (l2 : List (List D)) (n3 n4 : Int) (b5 : Bool) (n6 n7 : Int) (b8 : Bool) (d9 d10 d11 : D)
  (h : Obs [decide (n1 < (l0.length : Int)) = true, 0 ≤ n1, n1 < (l0.length : Int), l0[n1.toNat]? = some [I n3, I n4, B b5], Ret prog 150 [.agg [I n3, I n4, B b5]] [.agg [I n6, I n7, B b8]], 0 ≤ n1, n1 < (l2.length : Int), l2[n1.toNat]? = some [d9, d10, d11], inInt .i64 (n1 + 1)]) :
  Tr prog (qaa f65 0) (qdD l0 n1 l2) .normal (qdD l0 (n1 + 1) (l2.set n1.toNat [I n6, I n7, B b8])) :=
 .of_loopc (ks := [4, 0, 3]) (bs := []) (ans := [.br true, .el [I n3, I n4, B b5], .res [.agg [I n6, I n7, B b8]], .el [d9, d10, d11]]) (by kernel_rfl) h
def qgd (l0 : List (List D)) : St :=
 { env := envOf 23 [(3, .al (.one (.sl (.own 7) 3 l0)))], boxes := [] }
theorem qp8 (l0 : List (List D)) (n1 : Int) (l2 : List (List D))
  (h : Obs [decide (n1 < (l0.length : Int)) = false]) :
  Tr prog (qaa f65 0) (qdD l0 n1 l2) (.exit 0) (qgd l2) :=
 .of_loopc (ks := [3]) (bs := []) (ans := [.br false]) (by kernel_rfl) h
theorem qp9 (l0 l1 : List (List D))
  (h : Obs [0 ≤ (l0.length : Int), (l0.length : Int) ≤ (l0.length : Int), (↑24 : Int) * (l0.length : Int) ≤ 281474976710656, (l0.length : Int) ≤ 9223372036854775807, qac prog (qaa f65 0) (qdD l0 0 (List.replicate l0.length [I 0, I 0, B false])) (.exit 0) (qgd l1)]) :
  Ret prog 65 [.one (.sl 3 l0)] [.one (.sl 3 l1)] :=
 .of [.loop [] [4, 0, 3] [] (.exit 0) (qgd l1)] _ func65 rfl (by kernel_rfl) h
theorem qqa (n0 n1 n2 : Int) (l3 l4 : List (List D))
  (h : Obs [Ret prog 248 [.one (.sl 1 l3)] [.one (.sl 1 l4)]]) :
  Ret prog 246 [.agg [I n0, I n1, I n2, D.sl 1 l3]] [.agg [I n0, I n1, I n2, D.sl 1 l4]] :=
 .of [.res [.one (.sl 1 l4)]] _ func246 rfl (by kernel_rfl) h
def qdE (l0 : List (List D)) (n1 : Int) (l2 : List (List D)) : St :=
 { env := envOf 23 [(0, .al (.one (.sl .free 4 l0))), (3, .al (.one (.sl (.own 7) 4 l2))), (4, .al (.one (.v (.int .i64 n1))))], boxes := [] }
theorem qqb (l0 : List (List D)) (n1 : Int) (l2 : List (List D)) (n3 n4 n5 : Int) (l6 : List (List D)) (n7 n8 n9 : Int) (l10 : List (List D)) (d11 d12 d13 d14 : D)
  (h : Obs [decide (n1 < (l0.length : Int)) = true, 0 ≤ n1, n1 < (l0.length : Int), l0[n1.toNat]? = some [I n3, I n4, I n5, D.sl 1 l6], Ret prog 246 [.agg [I n3, I n4, I n5, D.sl 1 l6]] [.agg [I n7, I n8, I n9, D.sl 1 l10]], 0 ≤ n1, n1 < (l2.length : Int), l2[n1.toNat]? = some [d11, d12, d13, d14], inInt .i64 (n1 + 1)]) :
  Tr prog (qaa f146 0) (qdE l0 n1 l2) .normal (qdE l0 (n1 + 1) (l2.set n1.toNat [I n7, I n8, I n9, D.sl 1 l10])) :=
 .of_loopc (ks := [4, 0, 3]) (bs := []) (ans := [.br true, .el [I n3, I n4, I n5, D.sl 1 l6], .res [.agg [I n7, I n8, I n9, D.sl 1 l10]], .el [d11, d12, d13, d14]]) (by kernel_rfl) h
def qge (l0 : List (List D)) : St :=
 { env := envOf 23 [(3, .al (.one (.sl (.own 7) 4 l0)))], boxes := [] }
theorem qqc (l0 : List (List D)) (n1 : Int) (l2 : List (List D))
  (h : Obs [decide (n1 < (l0.length : Int)) = false]) :
  Tr prog (qaa f146 0) (qdE l0 n1 l2) (.exit 0) (qge l2) :=
 .of_loopc (ks := [3]) (bs := []) (ans := [.br false]) (by kernel_rfl) h
theorem qqd (l0 l1 : List (List D))
  (h : Obs [0 ≤ (l0.length : Int), (l0.length : Int) ≤ (l0.length : Int), (↑48 : Int) * (l0.length : Int) ≤ 281474976710656, (l0.length : Int) ≤ 9223372036854775807, qac prog (qaa f146 0) (qdE l0 0 (List.replicate l0.length [I 0, I 0, I 0, D.v (Value.slice none 0 0)])) (.exit 0) (qge l1)]) :
  Ret prog 146 [.one (.sl 4 l0)] [.one (.sl 4 l1)] :=
 .of [.loop [] [4, 0, 3] [] (.exit 0) (qge l1)] _ func146 rfl (by kernel_rfl) h
theorem qqe (n0 : Int) (l1 : List (List D)) (n2 n3 n4 n5 : Int) (l6 : List (List D))
  (h : Obs [Ret prog 30 [.one (.sl 5 l1)] [.one (.sl 5 l6)]]) :
  Ret prog 148 [.agg [I n0, D.sl 5 l1, I n2, I n3, I n4, I n5]] [.agg [I n0, D.sl 5 l6, I n2, I n3, I n4, I n5]] :=
 .of [.res [.one (.sl 5 l6)]] _ func148 rfl (by kernel_rfl) h
def qdF (l0 : List (List D)) (n1 : Int) (l2 : List (List D)) : St :=
 { env := envOf 23 [(0, .al (.one (.sl .free 6 l0))), (3, .al (.one (.sl (.own 7) 6 l2))), (4, .al (.one (.v (.int .i64 n1))))], boxes := [] }
theorem qqf (l0 : List (List D)) (n1 : Int) (l2 : List (List D)) (n3 : Int) (l4 : List (List D)) (n5 n6 n7 n8 n9 : Int) (l10 : List (List D)) (n11 n12 n13 n14 : Int) (d15 d16 d17 d18 d19 d20 : D)
  (h : Obs [decide (n1 < (l0.length : Int)) = true, 0 ≤ n1, n1 < (l0.length : Int), l0[n1.toNat]? = some [I n3, D.sl 5 l4, I n5, I n6, I n7, I n8], Ret prog 148 [.agg [I n3, D.sl 5 l4, I n5, I n6, I n7, I n8]] [.agg [I n9, D.sl 5 l10, I n11, I n12, I n13, I n14]], 0 ≤ n1, n1 < (l2.length : Int), l2[n1.toNat]? = some [d15, d16, d17, d18, d19, d20], inInt .i64 (n1 + 1)]) :
  Tr prog (qaa f63 0) (qdF l0 n1 l2) .normal (qdF l0 (n1 + 1) (l2.set n1.toNat [I n9, D.sl 5 l10, I n11, I n12, I n13, I n14])) :=
 .of_loopc (ks := [4, 0, 3]) (bs := []) (ans := [.br true, .el [I n3, D.sl 5 l4, I n5, I n6, I n7, I n8], .res [.agg [I n9, D.sl 5 l10, I n11, I n12, I n13, I n14]], .el [d15, d16, d17, d18, d19, d20]]) (by kernel_rfl) h
def qgf (l0 : List (List D)) : St :=
 { env := envOf 23 [(3, .al (.one (.sl (.own 7) 6 l0)))], boxes := [] }
theorem qqg (l0 : List (List D)) (n1 : Int) (l2 : List (List D))
  (h : Obs [decide (n1 < (l0.length : Int)) = false]) :
  Tr prog (qaa f63 0) (qdF l0 n1 l2) (.exit 0) (qgf l2) :=
 .of_loopc (ks := [3]) (bs := []) (ans := [.br false]) (by kernel_rfl) h
theorem qqh (l0 l1 : List (List D))
  (h : Obs [0 ≤ (l0.length : Int), (l0.length : Int) ≤ (l0.length : Int), (↑64 : Int) * (l0.length : Int) ≤ 281474976710656, (l0.length : Int) ≤ 9223372036854775807, qac prog (qaa f63 0) (qdF l0 0 (List.replicate l0.length [I 0, D.v (Value.slice none 0 0), I 0, I 0, I 0, I 0])) (.exit 0) (qgf l1)]) :
  Ret prog 63 [.one (.sl 6 l0)] [.one (.sl 6 l1)] :=
 .of [.loop [] [4, 0, 3] [] (.exit 0) (qgf l1)] _ func63 rfl (by kernel_rfl) h
theorem qqi (l0 : List (List D)) (n1 n2 : Int) (l3 : List (List D))
  (h : Obs [Ret prog 146 [.one (.sl 4 l0)] [.one (.sl 4 l3)]]) :
  Ret prog 61 [.agg [D.sl 4 l0, I n1, I n2]] [.agg [D.sl 4 l3, I n1, I n2]] :=
 .of [.res [.one (.sl 4 l3)]] _ func61 rfl (by kernel_rfl) h
theorem qqj (l0 l1 l2 l3 l4 l5 l6 l7 l8 l9 l10 l11 l12 l13 l14 l15 : List (List D))
  (h : Obs [Ret prog 30 [.one (.sl 5 l0)] [.one (.sl 5 l8)], Ret prog 30 [.one (.sl 5 l1)] [.one (.sl 5 l9)], Ret prog 30 [.one (.sl 5 l2)] [.one (.sl 5 l10)], Ret prog 247 [.one (.sl 4 l3)] [.one (.sl 4 l11)], Ret prog 248 [.one (.sl 1 l4)] [.one (.sl 1 l12)], Ret prog 249 [.one (.sl 1 l5)] [.one (.sl 1 l13)], Ret prog 249 [.one (.sl 1 l6)] [.one (.sl 1 l14)], Ret prog 250 [.one (.sl 2 l7)] [.one (.sl 2 l15)]]) :
  Ret prog 147 [.agg [D.sl 5 l0, D.sl 5 l1, D.sl 5 l2, D.sl 4 l3, D.sl 1 l4, D.sl 1 l5, D.sl 1 l6, D.sl 2 l7]] [.agg [D.sl 5 l8, D.sl 5 l9, D.sl 5 l10, D.sl 4 l11, D.sl 1 l12, D.sl 1 l13, D.sl 1 l14, D.sl 2 l15]] :=
 .of [.res [.one (.sl 5 l8)], .res [.one (.sl 5 l9)], .res [.one (.sl 5 l10)], .res [.one (.sl 4 l11)], .res [.one (.sl 1 l12)], .res [.one (.sl 1 l13)], .res [.one (.sl 1 l14)], .res [.one (.sl 2 l15)]] _ func147 rfl (by kernel_rfl) h
def qdG (l0 : List (List D)) (n1 : Int) (l2 : List (List D)) : St :=
 { env := envOf 23 [(0, .al (.one (.sl .free 8 l0))), (3, .al (.one (.sl (.own 7) 8 l2))), (4, .al (.one (.v (.int .i64 n1))))], boxes := [] }
theorem qqk (l0 : List (List D)) (n1 : Int) (l2 l3 l4 l5 l6 l7 l8 l9 l10 l11 l12 l13 l14 l15 l16 l17 l18 : List (List D)) (d19 d20 d21 d22 d23 d24 d25 d26 : D)
  (h : Obs [decide (n1 < (l0.length : Int)) = true, 0 ≤ n1, n1 < (l0.length : Int), l0[n1.toNat]? = some [D.sl 5 l3, D.sl 5 l4, D.sl 5 l5, D.sl 4 l6, D.sl 1 l7, D.sl 1 l8, D.sl 1 l9, D.sl 2 l10], Ret prog 147 [.agg [D.sl 5 l3, D.sl 5 l4, D.sl 5 l5, D.sl 4 l6, D.sl 1 l7, D.sl 1 l8, D.sl 1 l9, D.sl 2 l10]] [.agg [D.sl 5 l11, D.sl 5 l12, D.sl 5 l13, D.sl 4 l14, D.sl 1 l15, D.sl 1 l16, D.sl 1 l17, D.sl 2 l18]], 0 ≤ n1, n1 < (l2.length : Int), l2[n1.toNat]? = some [d19, d20, d21, d22, d23, d24, d25, d26], inInt .i64 (n1 + 1)]) :
  Tr prog (qaa f62 0) (qdG l0 n1 l2) .normal (qdG l0 (n1 + 1) (l2.set n1.toNat [D.sl 5 l11, D.sl 5 l12, D.sl 5 l13, D.sl 4 l14, D.sl 1 l15, D.sl 1 l16, D.sl 1 l17, D.sl 2 l18])) :=
 .of_loopc (ks := [4, 0, 3]) (bs := []) (ans := [.br true, .el [D.sl 5 l3, D.sl 5 l4, D.sl 5 l5, D.sl 4 l6, D.sl 1 l7, D.sl 1 l8, D.sl 1 l9, D.sl 2 l10], .res [.agg [D.sl 5 l11, D.sl 5 l12, D.sl 5 l13, D.sl 4 l14, D.sl 1 l15, D.sl 1 l16, D.sl 1 l17, D.sl 2 l18]], .el [d19, d20, d21, d22, d23, d24, d25, d26]]) (by kernel_rfl) h
def qgg (l0 : List (List D)) : St :=
 { env := envOf 23 [(3, .al (.one (.sl (.own 7) 8 l0)))], boxes := [] }
theorem qql (l0 : List (List D)) (n1 : Int) (l2 : List (List D))
  (h : Obs [decide (n1 < (l0.length : Int)) = false]) :
  Tr prog (qaa f62 0) (qdG l0 n1 l2) (.exit 0) (qgg l2) :=
 .of_loopc (ks := [3]) (bs := []) (ans := [.br false]) (by kernel_rfl) h
theorem qqm (l0 l1 : List (List D))
  (h : Obs [0 ≤ (l0.length : Int), (l0.length : Int) ≤ (l0.length : Int), (↑192 : Int) * (l0.length : Int) ≤ 281474976710656, (l0.length : Int) ≤ 9223372036854775807, qac prog (qaa f62 0) (qdG l0 0 (List.replicate l0.length [D.v (Value.slice none 0 0), D.v (Value.slice none 0 0), D.v (Value.slice none 0 0), D.v (Value.slice none 0 0), D.v (Value.slice none 0 0), D.v (Value.slice none 0 0), D.v (Value.slice none 0 0), D.v (Value.slice none 0 0)])) (.exit 0) (qgg l1)]) :
  Ret prog 62 [.one (.sl 8 l0)] [.one (.sl 8 l1)] :=
 .of [.loop [] [4, 0, 3] [] (.exit 0) (qgg l1)] _ func62 rfl (by kernel_rfl) h
theorem qqn (l0 : List (List D)) (n1 n2 : Int) (l3 l4 l5 l6 l7 : List (List D)) (n8 n9 : Int) (l10 l11 l12 l13 : List (List D))
  (h : Obs [Ret prog 61 [.agg [D.sl 4 l0, I n1, I n2]] [.agg [D.sl 4 l7, I n8, I n9]], Ret prog 62 [.one (.sl 8 l3)] [.one (.sl 8 l10)], Ret prog 63 [.one (.sl 6 l4)] [.one (.sl 6 l11)], Ret prog 64 [.one (.sl 5 l5)] [.one (.sl 5 l12)], Ret prog 65 [.one (.sl 3 l6)] [.one (.sl 3 l13)]]) :
  Ret prog 16 [.agg [D.sl 4 l0, I n1, I n2, D.sl 8 l3, D.sl 6 l4, D.sl 5 l5, D.sl 3 l6]] [.agg [D.sl 4 l7, I n8, I n9, D.sl 8 l10, D.sl 6 l11, D.sl 5 l12, D.sl 3 l13]] :=
 .of [.res [.agg [D.sl 4 l7, I n8, I n9]], .res [.one (.sl 8 l10)], .res [.one (.sl 6 l11)], .res [.one (.sl 5 l12)], .res [.one (.sl 3 l13)]] _ func16 rfl (by kernel_rfl) h
theorem qqo (n0 n1 n2 : Int)
  (h : Obs []) :
  Ret prog 17 [.agg [I n0, I n1, I n2]] [.agg [I n0, I n1, I n2]] :=
 .of [] _ func17 rfl (by kernel_rfl) h
end Go.Proofs.YtialmplmfcahpaaGreat
