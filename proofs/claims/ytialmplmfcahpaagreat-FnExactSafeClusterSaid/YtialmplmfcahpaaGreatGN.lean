import Derived.Test.YtialmplmfcahpaaGreatRows
import Derived.Test.YtialmplmfcahpaaGreatR22
set_option linter.unusedVariables false
set_option linter.unusedSimpArgs false
namespace Go.Proofs.YtialmplmfcahpaaGreat
open Go.Sx Go.RowKit
theorem qs6 (l0 : List (List D))
  (h : Obs [(([] : List (List D)).length + l0.length) * 40 ≤ 140737488355328, ([] : List (List D)).length + l0.length ≤ 9223372036854775807, Flat l0]) :
  Ret Tryz.prog 170 [.one (.sl 5 l0)] [.one (.sl 5 ([] ++ l0))] :=
 .of [] _ Tryz.func170 rfl (by kernel_rfl) h
theorem qtj (n0 n1 n2 : Int)
  (h : Obs [decide (n0 ≥ n1) = true]) :
  Ret Tryz.prog 119 [.one (I n0), .one (I n1), .one (I n2)] [.one (B (decide (n0 ≤ n2)))] :=
 .of [.br true] _ Tryz.func119 rfl (by kernel_rfl) h
theorem qtk (n0 n1 n2 : Int)
  (h : Obs [decide (n0 ≥ n1) = false]) :
  Ret Tryz.prog 119 [.one (I n0), .one (I n1), .one (I n2)] [.one (B false)] :=
 .of [.br false] _ Tryz.func119 rfl (by kernel_rfl) h
theorem qtl (n0 n1 n2 : Int)
  (h : Obs [decide (n0 ≥ n1) = true]) :
  Ret Tryz.prog 138 [.one (I n0), .one (I n1), .one (I n2)] [.one (B (decide (n0 ≤ n2)))] :=
 .of [.br true] _ Tryz.func138 rfl (by kernel_rfl) h
theorem qtm (n0 n1 n2 : Int)
  (h : Obs [decide (n0 ≥ n1) = false]) :
  Ret Tryz.prog 138 [.one (I n0), .one (I n1), .one (I n2)] [.one (B false)] :=
 .of [.br false] _ Tryz.func138 rfl (by kernel_rfl) h
theorem qtn (n0 n1 : Int)
  (h : Obs [decide (n0 < n1) = true]) :
  Ret Tryz.prog 305 [.one (I n0), .one (I n1)] [.one (I (-1))] :=
 .of [.br true] _ Tryz.func305 rfl (by kernel_rfl) h
theorem qto (n0 n1 : Int)
  (h : Obs [decide (n0 < n1) = false, decide (n0 > n1) = true]) :
  Ret Tryz.prog 305 [.one (I n0), .one (I n1)] [.one (I 1)] :=
 .of [.br false, .br true] _ Tryz.func305 rfl (by kernel_rfl) h
theorem qtp (n0 n1 : Int)
  (h : Obs [decide (n0 < n1) = false, decide (n0 > n1) = false]) :
  Ret Tryz.prog 305 [.one (I n0), .one (I n1)] [.one (I 0)] :=
 .of [.br false, .br false] _ Tryz.func305 rfl (by kernel_rfl) h
theorem qtq (n0 : Int)
  (h : Obs []) :
  Ret Tryz.prog 336 [.one (I n0)] [.one (B (n0 != n0))] :=
 .of [] _ Tryz.func336 rfl (by kernel_rfl) h
theorem qtr (n0 n1 : Int) (b2 b3 : Bool)
  (h : Obs [Ret Tryz.prog 336 [.one (I n0)] [.one (B b2)], Ret Tryz.prog 336 [.one (I n1)] [.one (B b3)], b2 = false, b3 = false, decide (n0 < n1) = true]) :
  Ret Tryz.prog 333 [.one (I n0), .one (I n1)] [.one (I (-1))] :=
 .of [.res [.one (B b2)], .res [.one (B b3)], .br false, .br false, .br true] _ Tryz.func333 rfl (by kernel_rfl) h
theorem qts (n0 n1 : Int) (b2 b3 : Bool)
  (h : Obs [Ret Tryz.prog 336 [.one (I n0)] [.one (B b2)], Ret Tryz.prog 336 [.one (I n1)] [.one (B b3)], b2 = false, b3 = false, decide (n0 < n1) = false, decide (n0 > n1) = true]) :
  Ret Tryz.prog 333 [.one (I n0), .one (I n1)] [.one (I 1)] :=
 .of [.res [.one (B b2)], .res [.one (B b3)], .br false, .br false, .br false, .br true] _ Tryz.func333 rfl (by kernel_rfl) h
theorem qtt (n0 n1 : Int) (b2 b3 : Bool)
  (h : Obs [Ret Tryz.prog 336 [.one (I n0)] [.one (B b2)], Ret Tryz.prog 336 [.one (I n1)] [.one (B b3)], b2 = false, b3 = false, decide (n0 < n1) = false, decide (n0 > n1) = false]) :
  Ret Tryz.prog 333 [.one (I n0), .one (I n1)] [.one (I 0)] :=
 .of [.res [.one (B b2)], .res [.one (B b3)], .br false, .br false, .br false, .br false] _ Tryz.func333 rfl (by kernel_rfl) h
def qdL (l0 l1 : List (List D)) (n2 : Int) : St :=
 { env := envOf 36 [(0, .al (.one (.sl .free 1 l0))), (1, .al (.one (.sl .free 1 l1))), (9, .al (.one (.sl .free 1 l0))), (10, .al (.one (.v (.int .i64 (↑l0.length : Int))))), (11, .al (.one (.v (.int .i64 n2))))], boxes := [] }
def qgn (n0 : Int) : St :=
 { env := envOf 36 [(4, .al (.one (.v (.int .i64 n0))))], boxes := [] }
theorem qtu (l0 l1 : List (List D)) (n2 n3 n4 n5 : Int)
  (h : Obs [decide (n2 < (↑l0.length : Int)) = true, 0 ≤ n2, n2 < (↑l0.length : Int), l0[n2.toNat]? = some [I n3], decide (n2 ≥ (↑l1.length : Int)) = false, 0 ≤ n2, n2 < (↑l1.length : Int), l1[n2.toNat]? = some [I n4], Ret Tryz.prog 333 [.one (I n3), .one (I n4)] [.one (I n5)], (n5 != 0) = true]) :
  Tr Tryz.prog (qaa Tryz.f326 0) (qdL l0 l1 n2) .ret (qgn n5) :=
 .of_loopc (ks := [4]) (bs := []) (ans := [.br true, .el [I n3], .br false, .el [I n4], .res [.one (I n5)], .br true]) (by kernel_rfl) h
theorem qtv (l0 l1 : List (List D)) (n2 n3 n4 n5 : Int)
  (h : Obs [decide (n2 < (↑l0.length : Int)) = true, 0 ≤ n2, n2 < (↑l0.length : Int), l0[n2.toNat]? = some [I n3], decide (n2 ≥ (↑l1.length : Int)) = false, 0 ≤ n2, n2 < (↑l1.length : Int), l1[n2.toNat]? = some [I n4], Ret Tryz.prog 333 [.one (I n3), .one (I n4)] [.one (I n5)], (n5 != 0) = false, inInt .i64 (n2 + 1)]) :
  Tr Tryz.prog (qaa Tryz.f326 0) (qdL l0 l1 n2) .normal (qdL l0 l1 (n2 + 1)) :=
 .of_loopc (ks := [11, 10, 9, 1, 0]) (bs := []) (ans := [.br true, .el [I n3], .br false, .el [I n4], .res [.one (I n5)], .br false]) (by kernel_rfl) h
def qiX (l0 l1 : List (List D)) : St :=
 { env := envOf 36 [(0, .al (.one (.sl .free 1 l0))), (1, .al (.one (.sl .free 1 l1)))], boxes := [] }
theorem qtw (l0 l1 : List (List D)) (n2 : Int)
  (h : Obs [decide (n2 < (↑l0.length : Int)) = false]) :
  Tr Tryz.prog (qaa Tryz.f326 0) (qdL l0 l1 n2) (.exit 0) (qiX l0 l1) :=
 .of_loopc (ks := [0, 1]) (bs := []) (ans := [.br false]) (by kernel_rfl) h
theorem qtx (l0 l1 : List (List D)) (n2 : Int)
  (h : Obs [qac Tryz.prog (qaa Tryz.f326 0) (qdL l0 l1 0) .ret (qgn n2)]) :
  Ret Tryz.prog 326 [.one (.sl 1 l0), .one (.sl 1 l1)] [.one (I n2)] :=
 .of [.loop [] [11, 10, 9, 1, 0] [] .ret (qgn n2)] _ Tryz.func326 rfl (by kernel_rfl) h
theorem qty (l0 l1 : List (List D))
  (h : Obs [qac Tryz.prog (qaa Tryz.f326 0) (qdL l0 l1 0) (.exit 0) (qiX l0 l1), decide ((↑l0.length : Int) < (↑l1.length : Int)) = false]) :
  Ret Tryz.prog 326 [.one (.sl 1 l0), .one (.sl 1 l1)] [.one (I 0)] :=
 .of [.loop [] [11, 10, 9, 1, 0] [] (.exit 0) (qiX l0 l1), .br false] _ Tryz.func326 rfl (by kernel_rfl) h
theorem qtz (l0 l1 : List (List D)) (n2 : Int)
  (h : Obs [Ret Tryz.prog 326 [.one (.sl 1 l0), .one (.sl 1 l1)] [.one (I n2)]]) :
  Ret Tryz.prog 309 [.one (.sl 1 l0), .one (.sl 1 l1)] [.one (I n2)] :=
 .of [.res [.one (I n2)]] _ Tryz.func309 rfl (by kernel_rfl) h
theorem qtA (n0 n1 n2 n3 n4 : Int)
  (h : Obs [Ret Tryz.prog 305 [.one (I n0), .one (I n2)] [.one (I n4)], (n4 != 0) = true]) :
  Ret Tryz.prog 304 [.agg [I n0, I n1], .agg [I n2, I n3]] [.one (I n4)] :=
 .of [.res [.one (I n4)], .br true] _ Tryz.func304 rfl (by kernel_rfl) h
theorem qtB (n0 n1 n2 n3 n4 n5 : Int)
  (h : Obs [Ret Tryz.prog 305 [.one (I n0), .one (I n2)] [.one (I n4)], (n4 != 0) = false, Ret Tryz.prog 305 [.one (I n1), .one (I n3)] [.one (I n5)]]) :
  Ret Tryz.prog 304 [.agg [I n0, I n1], .agg [I n2, I n3]] [.one (I n5)] :=
 .of [.res [.one (I n4)], .br false, .res [.one (I n5)]] _ Tryz.func304 rfl (by kernel_rfl) h
theorem qtC (n0 n1 n2 n3 n4 : Int)
  (h : Obs [Ret Tryz.prog 309 [.one (.sl 1 [[I n0], [I n1]]), .one (.sl 1 [[I n2], [I n3]])] [.one (I n4)]]) :
  Ret Tryz.prog 308 [.agg [I n0, I n1], .agg [I n2, I n3]] [.one (I n4)] :=
 .of [.res [.one (I n4)]] _ Tryz.func308 rfl (by kernel_rfl) h
def qdM (n0 n1 n2 n3 n4 : Int) : St :=
 { env := envOf 41 [(5, .al (.one (.sl (.own 27) 1 [[I n0], [I n1], [I n2], [I n3]]))), (6, .al (.one (.v (.int .i64 n4))))], boxes := [] }
def qgo (n0 : Int) : St :=
 { env := envOf 41 [(4, .al (.one (.v (.int .i64 n0))))], boxes := [] }
theorem qtD (n10 n11 n12 n13 n14 n15 n16 : Int)
  (h : Obs [decide (n14 < 4) = true, 0 ≤ n14, n14 < (↑[[I n10], [I n11], [I n12], [I n13]].length : Int), [[I n10], [I n11], [I n12], [I n13]][n14.toNat]? = some [I n15], (n15 != 0) = true, 0 ≤ n14, n14 < (↑[[I n10], [I n11], [I n12], [I n13]].length : Int), [[I n10], [I n11], [I n12], [I n13]][n14.toNat]? = some [I n16]]) :
  Tr Tryz.prog (qaa Tryz.f261 0) (qdM n10 n11 n12 n13 n14) .ret (qgo n16) :=
 .of_loopc (ks := [4]) (bs := []) (ans := [.br true, .el [I n15], .br true, .el [I n16]]) (by kernel_rfl) h
theorem qtE (n10 n11 n12 n13 n14 n15 : Int)
  (h : Obs [decide (n14 < 4) = true, 0 ≤ n14, n14 < (↑[[I n10], [I n11], [I n12], [I n13]].length : Int), [[I n10], [I n11], [I n12], [I n13]][n14.toNat]? = some [I n15], (n15 != 0) = false, inInt .i64 (n14 + 1)]) :
  Tr Tryz.prog (qaa Tryz.f261 0) (qdM n10 n11 n12 n13 n14) .normal (qdM n10 n11 n12 n13 (n14 + 1)) :=
 .of_loopc (ks := [6, 5]) (bs := []) (ans := [.br true, .el [I n15], .br false]) (by kernel_rfl) h
def qiY : St :=
 { env := envOf 41 [], boxes := [] }
theorem qtF (n10 n11 n12 n13 n14 : Int)
  (h : Obs [decide (n14 < 4) = false]) :
  Tr Tryz.prog (qaa Tryz.f261 0) (qdM n10 n11 n12 n13 n14) (.exit 0) qiY :=
 .of_loopc (ks := []) (bs := []) (ans := [.br false]) (by kernel_rfl) h
theorem qtG (n0 n1 n2 n3 n4 n5 n6 n7 n8 n9 n10 n11 n12 n13 n14 : Int)
  (h : Obs [Ret Tryz.prog 304 [.agg [I n1, I n2], .agg [I n6, I n7]] [.one (I n10)], Ret Tryz.prog 305 [.one (I n0), .one (I n5)] [.one (I n11)], Ret Tryz.prog 305 [.one (I n3), .one (I n8)] [.one (I n12)], Ret Tryz.prog 305 [.one (I n4), .one (I n9)] [.one (I n13)], qac Tryz.prog (qaa Tryz.f261 0) (qdM n10 n11 n12 n13 0) .ret (qgo n14)]) :
  Ret Tryz.prog 261 [.agg [I n0, I n1, I n2, I n3, I n4], .agg [I n5, I n6, I n7, I n8, I n9]] [.one (I n14)] :=
 .of [.res [.one (I n10)], .res [.one (I n11)], .res [.one (I n12)], .res [.one (I n13)], .loop [] [6, 5] [] .ret (qgo n14)] _ Tryz.func261 rfl (by kernel_rfl) h
theorem qtH (n0 n1 n2 n3 n4 n5 n6 n7 n8 n9 n10 n11 n12 n13 : Int)
  (h : Obs [Ret Tryz.prog 304 [.agg [I n1, I n2], .agg [I n6, I n7]] [.one (I n10)], Ret Tryz.prog 305 [.one (I n0), .one (I n5)] [.one (I n11)], Ret Tryz.prog 305 [.one (I n3), .one (I n8)] [.one (I n12)], Ret Tryz.prog 305 [.one (I n4), .one (I n9)] [.one (I n13)], qac Tryz.prog (qaa Tryz.f261 0) (qdM n10 n11 n12 n13 0) (.exit 0) qiY]) :
  Ret Tryz.prog 261 [.agg [I n0, I n1, I n2, I n3, I n4], .agg [I n5, I n6, I n7, I n8, I n9]] [.one (I 0)] :=
 .of [.res [.one (I n10)], .res [.one (I n11)], .res [.one (I n12)], .res [.one (I n13)], .loop [] [6, 5] [] (.exit 0) qiY] _ Tryz.func261 rfl (by kernel_rfl) h
theorem qtI (n0 n1 n2 n3 n4 n5 n6 n7 n8 n9 n10 : Int)
  (h : Obs [Ret Tryz.prog 308 [.agg [I n1, I n2], .agg [I n6, I n7]] [.one (I n10)], (n10 != 0) = true]) :
  Ret Tryz.prog 263 [.agg [I n0, I n1, I n2, I n3, I n4], .agg [I n5, I n6, I n7, I n8, I n9]] [.one (I n10)] :=
 .of [.res [.one (I n10)], .br true] _ Tryz.func263 rfl (by kernel_rfl) h
theorem qtJ (n0 n1 n2 n3 n4 n5 n6 n7 n8 n9 n10 n11 : Int)
  (h : Obs [Ret Tryz.prog 308 [.agg [I n1, I n2], .agg [I n6, I n7]] [.one (I n10)], (n10 != 0) = false, Ret Tryz.prog 309 [.one (.sl 1 [[I n0], [I n3], [I n4]]), .one (.sl 1 [[I n5], [I n8], [I n9]])] [.one (I n11)]]) :
  Ret Tryz.prog 263 [.agg [I n0, I n1, I n2, I n3, I n4], .agg [I n5, I n6, I n7, I n8, I n9]] [.one (I n11)] :=
 .of [.res [.one (I n10)], .br false, .res [.one (I n11)]] _ Tryz.func263 rfl (by kernel_rfl) h
def qbR (n0 : Int) (l1 : List (List D)) : St :=
 { env := envOf 48 [(3, .al (.one (.sl (.own 7) 5 l1))), (4, .al (.one (.v (.int .i64 n0))))], boxes := [] }
def qda (n0 n1 : Int) (l2 : List (List D)) (n3 n4 n5 n6 n7 : Int) : St :=
 { env := envOf 48 [(3, .al (.one (.sl (.own 7) 5 l2))), (4, .al (.one (.v (.int .i64 n0)))), (5, .al (.one (.ptr 5 0))), (6, .al (.one (.v (.int .i64 n1))))], boxes := [(5, [.v (.int .i64 n3), .v (.int .i64 n4), .v (.int .i64 n5), .v (.int .i64 n6), .v (.int .i64 n7)])] }
theorem qtK (n1 n8 : Int) (l9 : List (List D)) (n10 n11 n12 n13 n14 n15 n16 n17 n18 n19 n20 n21 n22 n23 n24 n25 : Int) (d26 d27 d28 d29 d30 : D)
  (h : Obs [decide (n8 > 0) = true, inInt .i64 (n8 - 1), 0 ≤ n8 - 1, n8 - 1 < (↑l9.length : Int), l9[(n8 - 1).toNat]? = some [I n15, I n16, I n17, I n18, I n19], Ret Tryz.prog 261 [.agg [I n10, I n11, I n12, I n13, I n14], .agg [I n15, I n16, I n17, I n18, I n19]] [.one (I n20)], decide (n20 < 0) = true, inInt .i64 (n8 - 1), 0 ≤ n8 - 1, n8 - 1 < (↑l9.length : Int), l9[(n8 - 1).toNat]? = some [I n21, I n22, I n23, I n24, I n25], 0 ≤ n8, n8 < (↑l9.length : Int), l9[n8.toNat]? = some [d26, d27, d28, d29, d30], inInt .i64 (n8 - 1)]) :
  Tr Tryz.prog (qaa Tryz.f168 1) (qda n1 n8 l9 n10 n11 n12 n13 n14) .normal (qda n1 (n8 - 1) (l9.set n8.toNat [I n21, I n22, I n23, I n24, I n25]) n10 n11 n12 n13 n14) :=
 .of_loopc (ks := [6, 5, 3, 4]) (bs := [5]) (ans := [.br true, .el [I n15, I n16, I n17, I n18, I n19], .res [.one (I n20)], .br true, .el [I n21, I n22, I n23, I n24, I n25], .el [d26, d27, d28, d29, d30]]) (by kernel_rfl) h
def qfj (n0 : Int) (l1 : List (List D)) (n2 n3 n4 n5 n6 n7 : Int) : St :=
 { env := envOf 48 [(3, .al (.one (.sl (.own 7) 5 l1))), (4, .al (.one (.v (.int .i64 n0)))), (5, .al (.one (.ptr 5 0))), (6, .al (.one (.v (.int .i64 n2))))], boxes := [(5, [.v (.int .i64 n3), .v (.int .i64 n4), .v (.int .i64 n5), .v (.int .i64 n6), .v (.int .i64 n7)])] }
theorem qtL (n1 n8 : Int) (l9 : List (List D)) (n10 n11 n12 n13 n14 n15 n16 n17 n18 n19 n20 : Int)
  (h : Obs [decide (n8 > 0) = true, inInt .i64 (n8 - 1), 0 ≤ n8 - 1, n8 - 1 < (↑l9.length : Int), l9[(n8 - 1).toNat]? = some [I n15, I n16, I n17, I n18, I n19], Ret Tryz.prog 261 [.agg [I n10, I n11, I n12, I n13, I n14], .agg [I n15, I n16, I n17, I n18, I n19]] [.one (I n20)], decide (n20 < 0) = false]) :
  Tr Tryz.prog (qaa Tryz.f168 1) (qda n1 n8 l9 n10 n11 n12 n13 n14) (.exit 2) (qfj n1 l9 n8 n10 n11 n12 n13 n14) :=
 .of_loopc (ks := [3, 6, 5, 4]) (bs := [5]) (ans := [.br true, .el [I n15, I n16, I n17, I n18, I n19], .res [.one (I n20)], .br false]) (by kernel_rfl) h
theorem qtM (n1 n8 : Int) (l9 : List (List D)) (n10 n11 n12 n13 n14 : Int)
  (h : Obs [decide (n8 > 0) = false]) :
  Tr Tryz.prog (qaa Tryz.f168 1) (qda n1 n8 l9 n10 n11 n12 n13 n14) (.exit 2) (qfj n1 l9 n8 n10 n11 n12 n13 n14) :=
 .of_loopc (ks := [3, 6, 5, 4]) (bs := [5]) (ans := [.br false]) (by kernel_rfl) h
theorem qtN (n1 : Int) (l2 : List (List D)) (n3 n4 n5 n6 n7 : Int) (l8 : List (List D)) (n9 n10 n11 n12 n13 n14 : Int) (d15 d16 d17 d18 d19 : D)
  (h : Obs [decide (n1 < (↑l2.length : Int)) = true, 0 ≤ n1, n1 < (↑l2.length : Int), l2[n1.toNat]? = some [I n3, I n4, I n5, I n6, I n7], qac Tryz.prog (qaa Tryz.f168 1) (qda n1 n1 l2 n3 n4 n5 n6 n7) (.exit 2) (qfj n1 l8 n9 n10 n11 n12 n13 n14), 0 ≤ n9, n9 < (↑l8.length : Int), l8[n9.toNat]? = some [d15, d16, d17, d18, d19], inInt .i64 (n1 + 1)]) :
  Tr Tryz.prog (qaa Tryz.f168 0) (qbR n1 l2) .normal (qbR (n1 + 1) (l8.set n9.toNat [I n10, I n11, I n12, I n13, I n14])) :=
 .of_loopc (ks := [4, 3]) (bs := []) (ans := [.br true, .el [I n3, I n4, I n5, I n6, I n7], .loop [] [6, 5, 3, 4] [5] (.exit 2) (qfj n1 l8 n9 n10 n11 n12 n13 n14), .el [d15, d16, d17, d18, d19]]) (by kernel_rfl) h
def qfk (l0 : List (List D)) : St :=
 { env := envOf 48 [(3, .al (.one (.sl (.own 7) 5 l0)))], boxes := [] }
theorem qlE (n1 : Int) (l2 : List (List D))
  (h : Obs [decide (n1 < (↑l2.length : Int)) = false]) :
  Tr Tryz.prog (qaa Tryz.f168 0) (qbR n1 l2) (.exit 0) (qfk l2) :=
 .of_loopc (ks := [3]) (bs := []) (ans := [.br false]) (by kernel_rfl) h
theorem qtO (l0 l1 : List (List D))
  (h : Obs [(([] : List (List D)).length + l0.length) * 40 ≤ 140737488355328, ([] : List (List D)).length + l0.length ≤ 9223372036854775807, Flat l0, qac Tryz.prog (qaa Tryz.f168 0) (qbR 1 ([] ++ l0)) (.exit 0) (qfk l1)]) :
  Ret Tryz.prog 168 [.one (.sl 5 l0)] [.one (.sl 5 l1)] :=
 .of [.loop [] [4, 3] [] (.exit 0) (qfk l1)] _ Tryz.func168 rfl (by kernel_rfl) h
theorem qtP (l0 l1 l2 : List (List D))
  (h : Obs [Ret Tryz.prog 170 [.one (.sl 5 l0)] [.one (.sl 5 l1)], RetG Tryz.prog 262 [GA.one (GC.gv 5 l1 (some l2)), GA.one (GC.ro (D.cl 263 []))] []]) :
  Ret Tryz.prog 169 [.one (.sl 5 l0)] [.one (.sl 5 l2)] :=
 .of [.res [.one (.sl 5 l1)], .resG [[some (some l2)], [none]] 0 [] []] _ Tryz.func169 rfl (by kernel_rfl) h
def qeF (l0 : List (List D)) (n1 n2 : Int) (l3 l4 l5 l6 : List (List D)) (n7 : Int) (l8 : List (List D)) : St :=
 { env := envOf 46 [(1, .al (.one (.ptr 1 0))), (3, .al (.one (.sl (.own 6) 5 l8))), (4, .al (.one (.v (.int .i64 n7))))], boxes := [(1, [.sl .free 4 l0, .v (.int .i64 n1), .v (.int .i64 n2), .sl .free 8 l3, .sl .free 6 l4, .sl .free 5 l5, .sl .free 3 l6])] }
theorem qtQ (l0 : List (List D)) (n1 n2 : Int) (l3 l4 l5 l6 : List (List D)) (n7 : Int) (l8 l9 l10 l11 l12 l13 l14 l15 l16 l17 l18 l19 l20 l21 l22 l23 l24 : List (List D))
  (h : Obs [decide (n7 < (↑l3.length : Int)) = true, 0 ≤ n7, n7 < (↑l3.length : Int), l3[n7.toNat]? = some [D.sl 5 l9, D.sl 5 l10, D.sl 5 l11, D.sl 4 l12, D.sl 1 l13, D.sl 1 l14, D.sl 1 l15, D.sl 2 l16], (l8.length + l9.length) * 40 ≤ 140737488355328, l8.length + l9.length ≤ 9223372036854775807, Flat l9, 0 ≤ n7, n7 < (↑l3.length : Int), l3[n7.toNat]? = some [D.sl 5 l17, D.sl 5 l18, D.sl 5 l19, D.sl 4 l20, D.sl 1 l21, D.sl 1 l22, D.sl 1 l23, D.sl 2 l24], ((l8 ++ l9).length + l18.length) * 40 ≤ 140737488355328, (l8 ++ l9).length + l18.length ≤ 9223372036854775807, Flat l18, inInt .i64 (n7 + 1)]) :
  Tr Tryz.prog (qaa Tryz.f79 0) (qeF l0 n1 n2 l3 l4 l5 l6 n7 l8) .normal (qeF l0 n1 n2 l3 l4 l5 l6 (n7 + 1) (l8 ++ l9 ++ l18)) :=
 .of_loopc (ks := [4, 1, 3]) (bs := [1]) (ans := [.br true, .el [D.sl 5 l9, D.sl 5 l10, D.sl 5 l11, D.sl 4 l12, D.sl 1 l13, D.sl 1 l14, D.sl 1 l15, D.sl 2 l16], .el [D.sl 5 l17, D.sl 5 l18, D.sl 5 l19, D.sl 4 l20, D.sl 1 l21, D.sl 1 l22, D.sl 1 l23, D.sl 2 l24]]) (by kernel_rfl) h
def qiZ (l0 : List (List D)) (n1 n2 : Int) (l3 l4 l5 l6 l7 : List (List D)) : St :=
 { env := envOf 46 [(1, .al (.one (.ptr 1 0))), (3, .al (.one (.sl (.own 6) 5 l7)))], boxes := [(1, [.sl .free 4 l0, .v (.int .i64 n1), .v (.int .i64 n2), .sl .free 8 l3, .sl .free 6 l4, .sl .free 5 l5, .sl .free 3 l6])] }
theorem qtR (l0 : List (List D)) (n1 n2 : Int) (l3 l4 l5 l6 : List (List D)) (n7 : Int) (l8 : List (List D))
  (h : Obs [decide (n7 < (↑l3.length : Int)) = false]) :
  Tr Tryz.prog (qaa Tryz.f79 0) (qeF l0 n1 n2 l3 l4 l5 l6 n7 l8) (.exit 0) (qiZ l0 n1 n2 l3 l4 l5 l6 l8) :=
 .of_loopc (ks := [1, 3]) (bs := [1]) (ans := [.br false]) (by kernel_rfl) h
def qeG (l0 : List (List D)) (n1 n2 : Int) (l3 l4 l5 l6 : List (List D)) (n7 : Int) (l8 : List (List D)) : St :=
 { env := envOf 46 [(1, .al (.one (.ptr 1 0))), (3, .al (.one (.sl (.own 6) 5 l8))), (5, .al (.one (.v (.int .i64 n7))))], boxes := [(1, [.sl .free 4 l0, .v (.int .i64 n1), .v (.int .i64 n2), .sl .free 8 l3, .sl .free 6 l4, .sl .free 5 l5, .sl .free 3 l6])] }
theorem qtS (l0 : List (List D)) (n1 n2 : Int) (l3 l4 l5 l6 : List (List D)) (n8 : Int) (l9 : List (List D)) (n10 : Int) (l11 : List (List D)) (n12 n13 n14 n15 : Int)
  (h : Obs [decide (n8 < (↑l4.length : Int)) = true, 0 ≤ n8, n8 < (↑l4.length : Int), l4[n8.toNat]? = some [I n10, D.sl 5 l11, I n12, I n13, I n14, I n15], (l9.length + l11.length) * 40 ≤ 140737488355328, l9.length + l11.length ≤ 9223372036854775807, Flat l11, inInt .i64 (n8 + 1)]) :
  Tr Tryz.prog (qaa Tryz.f79 1) (qeG l0 n1 n2 l3 l4 l5 l6 n8 l9) .normal (qeG l0 n1 n2 l3 l4 l5 l6 (n8 + 1) (l9 ++ l11)) :=
 .of_loopc (ks := [5, 1, 3]) (bs := [1]) (ans := [.br true, .el [I n10, D.sl 5 l11, I n12, I n13, I n14, I n15]]) (by kernel_rfl) h
def qi0 (l0 : List (List D)) : St :=
 { env := envOf 46 [(3, .al (.one (.sl (.own 6) 5 l0)))], boxes := [] }
theorem qtT (l0 : List (List D)) (n1 n2 : Int) (l3 l4 l5 l6 : List (List D)) (n8 : Int) (l9 : List (List D))
  (h : Obs [decide (n8 < (↑l4.length : Int)) = false]) :
  Tr Tryz.prog (qaa Tryz.f79 1) (qeG l0 n1 n2 l3 l4 l5 l6 n8 l9) (.exit 2) (qi0 l9) :=
 .of_loopc (ks := [3]) (bs := []) (ans := [.br false]) (by kernel_rfl) h
theorem qtU (l0 : List (List D)) (n1 n2 : Int) (l3 l4 l5 l6 l7 l8 l9 : List (List D))
  (h : Obs [qac Tryz.prog (qaa Tryz.f79 0) (qeF l0 n1 n2 l3 l4 l5 l6 0 []) (.exit 0) (qiZ l0 n1 n2 l3 l4 l5 l6 l7), qac Tryz.prog (qaa Tryz.f79 1) (qeG l0 n1 n2 l3 l4 l5 l6 0 l7) (.exit 2) (qi0 l8), Ret Tryz.prog 168 [.one (.sl 5 l8)] [.one (.sl 5 l9)]]) :
  Ret Tryz.prog 79 [.agg [D.sl 4 l0, I n1, I n2, D.sl 8 l3, D.sl 6 l4, D.sl 5 l5, D.sl 3 l6]] [.one (.sl 5 l9)] :=
 .of [.loop [] [4, 1, 3] [1] (.exit 0) (qiZ l0 n1 n2 l3 l4 l5 l6 l7), .loop [] [5, 1, 3] [1] (.exit 2) (qi0 l8), .res [.one (.sl 5 l9)]] _ Tryz.func79 rfl (by kernel_rfl) h
def qeH (l0 : List (List D)) (n1 : Int) (l2 l3 : List (List D)) (n4 n5 : Int) (l6 l7 l8 l9 : List (List D)) : St :=
 { env := envOf 37 [(1, .al (.one (.ptr 1 0))), (3, .al (.one (.sl (.own 18) 5 l2))), (9, .al (.one (.sl .free 8 l0))), (10, .al (.one (.v (.int .i64 (↑l0.length : Int))))), (11, .al (.one (.v (.int .i64 n1))))], boxes := [(1, [.sl .free 4 l3, .v (.int .i64 n4), .v (.int .i64 n5), .sl .free 8 l6, .sl .free 6 l7, .sl .free 5 l8, .sl .free 3 l9])] }
theorem qtV (l3 : List (List D)) (n7 : Int) (l8 l9 : List (List D)) (n10 n11 : Int) (l12 l13 l14 l15 l16 l17 l18 l19 l20 l21 l22 l23 : List (List D))
  (h : Obs [decide (n7 < (↑l3.length : Int)) = true, 0 ≤ n7, n7 < (↑l3.length : Int), l3[n7.toNat]? = some [D.sl 5 l16, D.sl 5 l17, D.sl 5 l18, D.sl 4 l19, D.sl 1 l20, D.sl 1 l21, D.sl 1 l22, D.sl 2 l23], (l8.length + l16.length) * 40 ≤ 140737488355328, l8.length + l16.length ≤ 9223372036854775807, Flat l16, ((l8 ++ l16).length + l17.length) * 40 ≤ 140737488355328, (l8 ++ l16).length + l17.length ≤ 9223372036854775807, Flat l17, inInt .i64 (n7 + 1)]) :
  Tr Tryz.prog (qaa Tryz.f84 0) (qeH l3 n7 l8 l9 n10 n11 l12 l13 l14 l15) .normal (qeH l3 (n7 + 1) (l8 ++ l16 ++ l17) l9 n10 n11 l12 l13 l14 l15) :=
 .of_loopc (ks := [11, 10, 9, 3, 1]) (bs := [1]) (ans := [.br true, .el [D.sl 5 l16, D.sl 5 l17, D.sl 5 l18, D.sl 4 l19, D.sl 1 l20, D.sl 1 l21, D.sl 1 l22, D.sl 2 l23]]) (by kernel_rfl) h
def qi1 (l0 l1 : List (List D)) (n2 n3 : Int) (l4 l5 l6 l7 : List (List D)) : St :=
 { env := envOf 37 [(1, .al (.one (.ptr 1 0))), (3, .al (.one (.sl (.own 18) 5 l0)))], boxes := [(1, [.sl .free 4 l1, .v (.int .i64 n2), .v (.int .i64 n3), .sl .free 8 l4, .sl .free 6 l5, .sl .free 5 l6, .sl .free 3 l7])] }
theorem qtW (l3 : List (List D)) (n7 : Int) (l8 l9 : List (List D)) (n10 n11 : Int) (l12 l13 l14 l15 : List (List D))
  (h : Obs [decide (n7 < (↑l3.length : Int)) = false]) :
  Tr Tryz.prog (qaa Tryz.f84 0) (qeH l3 n7 l8 l9 n10 n11 l12 l13 l14 l15) (.exit 0) (qi1 l8 l9 n10 n11 l12 l13 l14 l15) :=
 .of_loopc (ks := [1, 3]) (bs := [1]) (ans := [.br false]) (by kernel_rfl) h
def qeI (l0 : List (List D)) (n1 : Int) (l2 : List (List D)) : St :=
 { env := envOf 37 [(3, .al (.one (.sl (.own 18) 5 l2))), (24, .al (.one (.sl .free 6 l0))), (25, .al (.one (.v (.int .i64 (↑l0.length : Int))))), (26, .al (.one (.v (.int .i64 n1))))], boxes := [] }
theorem qtX (l12 : List (List D)) (n15 : Int) (l16 : List (List D)) (n17 : Int) (l18 : List (List D)) (n19 n20 n21 n22 : Int)
  (h : Obs [decide (n15 < (↑l12.length : Int)) = true, 0 ≤ n15, n15 < (↑l12.length : Int), l12[n15.toNat]? = some [I n17, D.sl 5 l18, I n19, I n20, I n21, I n22], (l16.length + l18.length) * 40 ≤ 140737488355328, l16.length + l18.length ≤ 9223372036854775807, Flat l18, inInt .i64 (n15 + 1)]) :
  Tr Tryz.prog (qaa Tryz.f84 1) (qeI l12 n15 l16) .normal (qeI l12 (n15 + 1) (l16 ++ l18)) :=
 .of_loopc (ks := [26, 25, 24, 3]) (bs := []) (ans := [.br true, .el [I n17, D.sl 5 l18, I n19, I n20, I n21, I n22]]) (by kernel_rfl) h
def qi2 (l0 : List (List D)) : St :=
 { env := envOf 37 [(3, .al (.one (.sl (.own 18) 5 l0)))], boxes := [] }
theorem qtY (l12 : List (List D)) (n15 : Int) (l16 : List (List D))
  (h : Obs [decide (n15 < (↑l12.length : Int)) = false]) :
  Tr Tryz.prog (qaa Tryz.f84 1) (qeI l12 n15 l16) (.exit 2) (qi2 l16) :=
 .of_loopc (ks := [3]) (bs := []) (ans := [.br false]) (by kernel_rfl) h
theorem qtZ (l0 : List (List D)) (n1 n2 : Int) (l3 l4 l5 l6 l7 l8 : List (List D)) (n9 n10 : Int) (l11 l12 l13 l14 l15 l16 : List (List D))
  (h : Obs [qac Tryz.prog (qaa Tryz.f84 0) (qeH l3 0 [] l0 n1 n2 l3 l4 l5 l6) (.exit 0) (qi1 l7 l8 n9 n10 l11 l12 l13 l14), qac Tryz.prog (qaa Tryz.f84 1) (qeI l12 0 l7) (.exit 2) (qi2 l15), Ret Tryz.prog 169 [.one (.sl 5 l15)] [.one (.sl 5 l16)]]) :
  Ret Tryz.prog 84 [.agg [D.sl 4 l0, I n1, I n2, D.sl 8 l3, D.sl 6 l4, D.sl 5 l5, D.sl 3 l6]] [.one (.sl 5 l16)] :=
 .of [.loop [(3, 18, 5)] [11, 10, 9, 3, 1] [1] (.exit 0) (qi1 l7 l8 n9 n10 l11 l12 l13 l14), .loop [] [26, 25, 24, 3] [] (.exit 2) (qi2 l15), .res [.one (.sl 5 l16)]] _ Tryz.func84 rfl (by kernel_rfl) h
def spec_OfEpoch_L0 (l0 : List (List D)) (n1 n2 : Int) (l3 : List (List D)) : St :=
 { env := envOf 30 [(0, .al (.one (.sl .free 5 l0))), (1, .al (.one (.v (.int .i64 n1)))), (5, .al (.one (.sl (.own 7) 5 l3))), (6, .al (.one (.v (.int .i64 n2))))], boxes := [] }
theorem spec_OfEpoch_L0_s0 (l0 : List (List D)) (n1 n2 : Int) (l3 : List (List D)) (n4 n5 n6 n7 n8 n9 n10 n11 n12 n13 : Int)
  (h : Obs [decide (n2 < (↑l0.length : Int)) = true, 0 ≤ n2, n2 < (↑l0.length : Int), l0[n2.toNat]? = some [I n4, I n5, I n6, I n7, I n8], (n5 == n1) = true, 0 ≤ n2, n2 < (↑l0.length : Int), l0[n2.toNat]? = some [I n9, I n10, I n11, I n12, I n13], (l3.length + [[I n9, I n10, I n11, I n12, I n13]].length) * 40 ≤ 140737488355328, l3.length + [[I n9, I n10, I n11, I n12, I n13]].length ≤ 9223372036854775807, Flat [[I n9, I n10, I n11, I n12, I n13]], inInt .i64 (n2 + 1)]) :
  Tr Tryz.prog (qaa Tryz.f266 0) (spec_OfEpoch_L0 l0 n1 n2 l3) .normal (spec_OfEpoch_L0 l0 n1 (n2 + 1) (l3 ++ [[I n9, I n10, I n11, I n12, I n13]])) :=
 .of_loopc (ks := [6, 0, 1, 5]) (bs := []) (ans := [.br true, .el [I n4, I n5, I n6, I n7, I n8], .br true, .el [I n9, I n10, I n11, I n12, I n13]]) (by kernel_rfl) h
theorem spec_OfEpoch_L0_s1 (l0 : List (List D)) (n1 n2 : Int) (l3 : List (List D)) (n4 n5 n6 n7 n8 : Int)
  (h : Obs [decide (n2 < (↑l0.length : Int)) = true, 0 ≤ n2, n2 < (↑l0.length : Int), l0[n2.toNat]? = some [I n4, I n5, I n6, I n7, I n8], (n5 == n1) = false, inInt .i64 (n2 + 1)]) :
  Tr Tryz.prog (qaa Tryz.f266 0) (spec_OfEpoch_L0 l0 n1 n2 l3) .normal (spec_OfEpoch_L0 l0 n1 (n2 + 1) l3) :=
 .of_loopc (ks := [6, 0, 1, 5]) (bs := []) (ans := [.br true, .el [I n4, I n5, I n6, I n7, I n8], .br false]) (by kernel_rfl) h
def spec_OfEpoch_X0 (l0 : List (List D)) : St :=
 { env := envOf 30 [(5, .al (.one (.sl (.own 7) 5 l0)))], boxes := [] }
theorem spec_OfEpoch_L0_x2 (l0 : List (List D)) (n1 n2 : Int) (l3 : List (List D))
  (h : Obs [decide (n2 < (↑l0.length : Int)) = false]) :
  Tr Tryz.prog (qaa Tryz.f266 0) (spec_OfEpoch_L0 l0 n1 n2 l3) (.exit 0) (spec_OfEpoch_X0 l3) :=
 .of_loopc (ks := [5]) (bs := []) (ans := [.br false]) (by kernel_rfl) h
theorem spec_OfEpoch_p0 (l0 : List (List D)) (n1 : Int) (l2 : List (List D))
  (h : Obs [qac Tryz.prog (qaa Tryz.f266 0) (spec_OfEpoch_L0 l0 n1 0 []) (.exit 0) (spec_OfEpoch_X0 l2)]) :
  Ret Tryz.prog 266 [.one (.sl 5 l0), .one (I n1)] [.one (.sl 5 l2)] :=
 .of [.loop [] [6, 0, 1, 5] [] (.exit 0) (spec_OfEpoch_X0 l2)] _ Tryz.func266 rfl (by kernel_rfl) h
def qdN (l0 : List (List D)) (n1 n2 : Int) (l3 : List (List D)) : St :=
 { env := envOf 25 [(1, .al (.one (.v (.int .i64 n1)))), (5, .al (.one (.sl (.own 22) 5 l3))), (8, .al (.one (.sl .free 5 l0))), (9, .al (.one (.v (.int .i64 (↑l0.length : Int))))), (10, .al (.one (.v (.int .i64 n2))))], boxes := [] }
theorem qt0 (l0 : List (List D)) (n1 n2 : Int) (l3 : List (List D)) (n4 n5 n6 n7 n8 : Int)
  (h : Obs [decide (n2 < (↑l0.length : Int)) = true, 0 ≤ n2, n2 < (↑l0.length : Int), l0[n2.toNat]? = some [I n4, I n5, I n6, I n7, I n8], (n5 == n1) = true, (l3.length + [[I n4, I n5, I n6, I n7, I n8]].length) * 40 ≤ 140737488355328, l3.length + [[I n4, I n5, I n6, I n7, I n8]].length ≤ 9223372036854775807, Flat [[I n4, I n5, I n6, I n7, I n8]], inInt .i64 (n2 + 1)]) :
  Tr Tryz.prog (qaa Tryz.f272 0) (qdN l0 n1 n2 l3) .normal (qdN l0 n1 (n2 + 1) (l3 ++ [[I n4, I n5, I n6, I n7, I n8]])) :=
 .of_loopc (ks := [10, 9, 8, 1, 5]) (bs := []) (ans := [.br true, .el [I n4, I n5, I n6, I n7, I n8], .br true]) (by kernel_rfl) h
theorem qt1 (l0 : List (List D)) (n1 n2 : Int) (l3 : List (List D)) (n4 n5 n6 n7 n8 : Int)
  (h : Obs [decide (n2 < (↑l0.length : Int)) = true, 0 ≤ n2, n2 < (↑l0.length : Int), l0[n2.toNat]? = some [I n4, I n5, I n6, I n7, I n8], (n5 == n1) = false, inInt .i64 (n2 + 1)]) :
  Tr Tryz.prog (qaa Tryz.f272 0) (qdN l0 n1 n2 l3) .normal (qdN l0 n1 (n2 + 1) l3) :=
 .of_loopc (ks := [10, 9, 8, 1, 5]) (bs := []) (ans := [.br true, .el [I n4, I n5, I n6, I n7, I n8], .br false]) (by kernel_rfl) h
def qi3 (l0 : List (List D)) : St :=
 { env := envOf 25 [(5, .al (.one (.sl (.own 22) 5 l0)))], boxes := [] }
theorem qt2 (l0 : List (List D)) (n1 n2 : Int) (l3 : List (List D))
  (h : Obs [decide (n2 < (↑l0.length : Int)) = false]) :
  Tr Tryz.prog (qaa Tryz.f272 0) (qdN l0 n1 n2 l3) (.exit 0) (qi3 l3) :=
 .of_loopc (ks := [5]) (bs := []) (ans := [.br false]) (by kernel_rfl) h
theorem qt3 (l0 : List (List D)) (n1 : Int) (l2 : List (List D))
  (h : Obs [qac Tryz.prog (qaa Tryz.f272 0) (qdN l0 n1 0 []) (.exit 0) (qi3 l2)]) :
  Ret Tryz.prog 272 [.one (.sl 5 l0), .one (I n1)] [.one (.sl 5 l2)] :=
 .of [.loop [(5, 22, 5)] [10, 9, 8, 1, 5] [] (.exit 0) (qi3 l2)] _ Tryz.func272 rfl (by kernel_rfl) h
theorem spec_PendingOf_p0 (l0 : List (List D)) (n1 n2 : Int) (l3 l4 l5 l6 : List (List D)) (n7 : Int) (l8 l9 : List (List D))
  (h : Obs [Ret Tryz.prog 79 [.agg [D.sl 4 l0, I n1, I n2, D.sl 8 l3, D.sl 6 l4, D.sl 5 l5, D.sl 3 l6]] [.one (.sl 5 l8)], Ret Tryz.prog 266 [.one (.sl 5 l8), .one (I n7)] [.one (.sl 5 l9)]]) :
  Ret Tryz.prog 178 [.agg [D.sl 4 l0, I n1, I n2, D.sl 8 l3, D.sl 6 l4, D.sl 5 l5, D.sl 3 l6], .one (I n7)] [.one (.sl 5 l9)] :=
 .of [.res [.one (.sl 5 l8)], .res [.one (.sl 5 l9)]] _ Tryz.func178 rfl (by kernel_rfl) h
theorem impl_PendingOf_p0 (l0 : List (List D)) (n1 n2 : Int) (l3 l4 l5 l6 : List (List D)) (n7 : Int) (l8 l9 : List (List D))
  (h : Obs [Ret Tryz.prog 84 [.agg [D.sl 4 l0, I n1, I n2, D.sl 8 l3, D.sl 6 l4, D.sl 5 l5, D.sl 3 l6]] [.one (.sl 5 l8)], Ret Tryz.prog 272 [.one (.sl 5 l8), .one (I n7)] [.one (.sl 5 l9)]]) :
  Ret Tryz.prog 190 [.agg [D.sl 4 l0, I n1, I n2, D.sl 8 l3, D.sl 6 l4, D.sl 5 l5, D.sl 3 l6], .one (I n7)] [.one (.sl 5 l9)] :=
 .of [.res [.one (.sl 5 l8)], .res [.one (.sl 5 l9)]] _ Tryz.func190 rfl (by kernel_rfl) h
def spec_IsDone_L0 (l0 l1 l2 l3 l4 l5 l6 l7 : List (List D)) (n8 n9 : Int) : St :=
 { env := envOf 21 [(1, .al (.one (.v (.int .i64 n8)))), (2, .al (.one (.ptr 2 0))), (5, .al (.one (.v (.int .i64 n9))))], boxes := [(2, [.sl .free 5 l0, .sl .free 5 l1, .sl .free 5 l2, .sl .free 4 l3, .sl .free 1 l4, .sl .free 1 l5, .sl .free 1 l6, .sl .free 2 l7])] }
def spec_IsDone_X0 (b0 : Bool) : St :=
 { env := envOf 21 [(4, .al (.one (.sb b0)))], boxes := [] }
theorem spec_IsDone_L0_x0 (l0 l1 l2 l3 l4 l5 l6 l7 : List (List D)) (n8 n9 n10 : Int) (b11 : Bool)
  (h : Obs [decide (n9 < (↑l7.length : Int)) = true, 0 ≤ n9, n9 < (↑l7.length : Int), l7[n9.toNat]? = some [I n10, B b11], (n10 == n8) = true]) :
  Tr Tryz.prog (qaa Tryz.f177 0) (spec_IsDone_L0 l0 l1 l2 l3 l4 l5 l6 l7 n8 n9) .ret (spec_IsDone_X0 true) :=
 .of_loopc (ks := [4]) (bs := []) (ans := [.br true, .el [I n10, B b11], .br true]) (by kernel_rfl) h
theorem spec_IsDone_L0_s1 (l0 l1 l2 l3 l4 l5 l6 l7 : List (List D)) (n8 n9 n10 : Int) (b11 : Bool)
  (h : Obs [decide (n9 < (↑l7.length : Int)) = true, 0 ≤ n9, n9 < (↑l7.length : Int), l7[n9.toNat]? = some [I n10, B b11], (n10 == n8) = false, inInt .i64 (n9 + 1)]) :
  Tr Tryz.prog (qaa Tryz.f177 0) (spec_IsDone_L0 l0 l1 l2 l3 l4 l5 l6 l7 n8 n9) .normal (spec_IsDone_L0 l0 l1 l2 l3 l4 l5 l6 l7 n8 (n9 + 1)) :=
 .of_loopc (ks := [5, 2, 1]) (bs := [2]) (ans := [.br true, .el [I n10, B b11], .br false]) (by kernel_rfl) h
def spec_IsDone_X0v2 : St :=
 { env := envOf 21 [], boxes := [] }
theorem spec_IsDone_L0_x2 (l0 l1 l2 l3 l4 l5 l6 l7 : List (List D)) (n8 n9 : Int)
  (h : Obs [decide (n9 < (↑l7.length : Int)) = false]) :
  Tr Tryz.prog (qaa Tryz.f177 0) (spec_IsDone_L0 l0 l1 l2 l3 l4 l5 l6 l7 n8 n9) (.exit 0) spec_IsDone_X0v2 :=
 .of_loopc (ks := []) (bs := []) (ans := [.br false]) (by kernel_rfl) h
theorem spec_IsDone_p0 (l0 l1 l2 l3 l4 l5 l6 l7 : List (List D)) (n8 : Int) (b9 : Bool)
  (h : Obs [qac Tryz.prog (qaa Tryz.f177 0) (spec_IsDone_L0 l0 l1 l2 l3 l4 l5 l6 l7 n8 0) .ret (spec_IsDone_X0 b9)]) :
  Ret Tryz.prog 177 [.agg [D.sl 5 l0, D.sl 5 l1, D.sl 5 l2, D.sl 4 l3, D.sl 1 l4, D.sl 1 l5, D.sl 1 l6, D.sl 2 l7], .one (I n8)] [.one (B b9)] :=
 .of [.loop [] [5, 2, 1] [2] .ret (spec_IsDone_X0 b9)] _ Tryz.func177 rfl (by kernel_rfl) h
theorem spec_IsDone_p1 (l0 l1 l2 l3 l4 l5 l6 l7 : List (List D)) (n8 : Int)
  (h : Obs [qac Tryz.prog (qaa Tryz.f177 0) (spec_IsDone_L0 l0 l1 l2 l3 l4 l5 l6 l7 n8 0) (.exit 0) spec_IsDone_X0v2]) :
  Ret Tryz.prog 177 [.agg [D.sl 5 l0, D.sl 5 l1, D.sl 5 l2, D.sl 4 l3, D.sl 1 l4, D.sl 1 l5, D.sl 1 l6, D.sl 2 l7], .one (I n8)] [.one (B false)] :=
 .of [.loop [] [5, 2, 1] [2] (.exit 0) spec_IsDone_X0v2] _ Tryz.func177 rfl (by kernel_rfl) h
theorem impl_doneAt_p0 (l0 : List (List D)) (n1 : Int) (b2 : Bool)
  (h : Obs [Ret Tryz.prog 279 [.one (.sl 2 l0), .one (.cl 280 [D.ptr [I n1]])] [.one (B b2)]]) :
  Ret Tryz.prog 206 [.one (.sl 2 l0), .one (I n1)] [.one (B b2)] :=
 .of [.res [.one (B b2)]] _ Tryz.func206 rfl (by kernel_rfl) h
theorem impl_doneAt_1_p0 (n0 : Int) (b1 : Bool) (n2 : Int)
  (h : Obs []) :
  Ret Tryz.prog 280 [.agg [I n0, B b1], .one (.ptr [I n2])] [.one (B (n0 == n2))] :=
 .of [] _ Tryz.func280 rfl (by kernel_rfl) h
theorem impl_IsDone_p0 (l0 l1 l2 l3 l4 l5 l6 l7 : List (List D)) (n8 : Int) (b9 : Bool)
  (h : Obs [Ret Tryz.prog 206 [.one (.sl 2 l7), .one (I n8)] [.one (B b9)]]) :
  Ret Tryz.prog 112 [.agg [D.sl 5 l0, D.sl 5 l1, D.sl 5 l2, D.sl 4 l3, D.sl 1 l4, D.sl 1 l5, D.sl 1 l6, D.sl 2 l7], .one (I n8)] [.one (B b9)] :=
 .of [.res [.one (B b9)]] _ Tryz.func112 rfl (by kernel_rfl) h
def spec_InputsLeft_L0 (l0 : List (List D)) (n1 n2 : Int) (l3 l4 l5 l6 : List (List D)) (n7 n8 : Int) (l9 : List (List D)) : St :=
 { env := envOf 26 [(1, .al (.one (.v (.int .i64 n7)))), (2, .al (.one (.ptr 2 0))), (5, .al (.one (.sl (.own 7) 5 l9))), (6, .al (.one (.v (.int .i64 n8))))], boxes := [(2, [.sl .free 4 l0, .v (.int .i64 n1), .v (.int .i64 n2), .sl .free 8 l3, .sl .free 6 l4, .sl .free 5 l5, .sl .free 3 l6])] }
theorem spec_InputsLeft_L0_s0 (l0 : List (List D)) (n1 n2 : Int) (l3 l4 l5 l6 : List (List D)) (n7 n8 : Int) (l9 l10 l11 l12 l13 l14 l15 l16 l17 l18 : List (List D))
  (h : Obs [decide (n8 < (↑l3.length : Int)) = true, 0 ≤ n8, n8 < (↑l3.length : Int), l3[n8.toNat]? = some [D.sl 5 l10, D.sl 5 l11, D.sl 5 l12, D.sl 4 l13, D.sl 1 l14, D.sl 1 l15, D.sl 1 l16, D.sl 2 l17], Ret Tryz.prog 266 [.one (.sl 5 l12), .one (I n7)] [.one (.sl 5 l18)], (l9.length + l18.length) * 40 ≤ 140737488355328, l9.length + l18.length ≤ 9223372036854775807, Flat l18, inInt .i64 (n8 + 1)]) :
  Tr Tryz.prog (qaa Tryz.f179 0) (spec_InputsLeft_L0 l0 n1 n2 l3 l4 l5 l6 n7 n8 l9) .normal (spec_InputsLeft_L0 l0 n1 n2 l3 l4 l5 l6 n7 (n8 + 1) (l9 ++ l18)) :=
 .of_loopc (ks := [6, 2, 5, 1]) (bs := [2]) (ans := [.br true, .el [D.sl 5 l10, D.sl 5 l11, D.sl 5 l12, D.sl 4 l13, D.sl 1 l14, D.sl 1 l15, D.sl 1 l16, D.sl 2 l17], .res [.one (.sl 5 l18)]]) (by kernel_rfl) h
def spec_InputsLeft_X0 (l0 : List (List D)) : St :=
 { env := envOf 26 [(5, .al (.one (.sl (.own 7) 5 l0)))], boxes := [] }
theorem spec_InputsLeft_L0_x1 (l0 : List (List D)) (n1 n2 : Int) (l3 l4 l5 l6 : List (List D)) (n7 n8 : Int) (l9 : List (List D))
  (h : Obs [decide (n8 < (↑l3.length : Int)) = false]) :
  Tr Tryz.prog (qaa Tryz.f179 0) (spec_InputsLeft_L0 l0 n1 n2 l3 l4 l5 l6 n7 n8 l9) (.exit 0) (spec_InputsLeft_X0 l9) :=
 .of_loopc (ks := [5]) (bs := []) (ans := [.br false]) (by kernel_rfl) h
theorem spec_InputsLeft_p0 (l0 : List (List D)) (n1 n2 : Int) (l3 l4 l5 l6 : List (List D)) (n7 : Int) (l8 : List (List D))
  (h : Obs [qac Tryz.prog (qaa Tryz.f179 0) (spec_InputsLeft_L0 l0 n1 n2 l3 l4 l5 l6 n7 0 []) (.exit 0) (spec_InputsLeft_X0 l8)]) :
  Ret Tryz.prog 179 [.agg [D.sl 4 l0, I n1, I n2, D.sl 8 l3, D.sl 6 l4, D.sl 5 l5, D.sl 3 l6], .one (I n7)] [.one (.sl 5 l8)] :=
 .of [.loop [] [6, 2, 5, 1] [2] (.exit 0) (spec_InputsLeft_X0 l8)] _ Tryz.func179 rfl (by kernel_rfl) h
def impl_InputsLeft_L0 (l0 : List (List D)) (n1 n2 : Int) (l3 : List (List D)) : St :=
 { env := envOf 23 [(1, .al (.one (.v (.int .i64 n1)))), (5, .al (.one (.sl (.own 20) 5 l3))), (9, .al (.one (.sl .free 8 l0))), (10, .al (.one (.v (.int .i64 (↑l0.length : Int))))), (11, .al (.one (.v (.int .i64 n2))))], boxes := [] }
theorem impl_InputsLeft_L0_s0 (l3 : List (List D)) (n7 n8 : Int) (l9 l10 l11 l12 l13 l14 l15 l16 l17 l18 : List (List D))
  (h : Obs [decide (n8 < (↑l3.length : Int)) = true, 0 ≤ n8, n8 < (↑l3.length : Int), l3[n8.toNat]? = some [D.sl 5 l10, D.sl 5 l11, D.sl 5 l12, D.sl 4 l13, D.sl 1 l14, D.sl 1 l15, D.sl 1 l16, D.sl 2 l17], Ret Tryz.prog 272 [.one (.sl 5 l12), .one (I n7)] [.one (.sl 5 l18)], (l9.length + l18.length) * 40 ≤ 140737488355328, l9.length + l18.length ≤ 9223372036854775807, Flat l18, inInt .i64 (n8 + 1)]) :
  Tr Tryz.prog (qaa Tryz.f191 0) (impl_InputsLeft_L0 l3 n7 n8 l9) .normal (impl_InputsLeft_L0 l3 n7 (n8 + 1) (l9 ++ l18)) :=
 .of_loopc (ks := [11, 10, 9, 5, 1]) (bs := []) (ans := [.br true, .el [D.sl 5 l10, D.sl 5 l11, D.sl 5 l12, D.sl 4 l13, D.sl 1 l14, D.sl 1 l15, D.sl 1 l16, D.sl 2 l17], .res [.one (.sl 5 l18)]]) (by kernel_rfl) h
def impl_InputsLeft_X0 (l0 : List (List D)) : St :=
 { env := envOf 23 [(5, .al (.one (.sl (.own 20) 5 l0)))], boxes := [] }
theorem impl_InputsLeft_L0_x1 (l3 : List (List D)) (n7 n8 : Int) (l9 : List (List D))
  (h : Obs [decide (n8 < (↑l3.length : Int)) = false]) :
  Tr Tryz.prog (qaa Tryz.f191 0) (impl_InputsLeft_L0 l3 n7 n8 l9) (.exit 0) (impl_InputsLeft_X0 l9) :=
 .of_loopc (ks := [5]) (bs := []) (ans := [.br false]) (by kernel_rfl) h
theorem impl_InputsLeft_p0 (l0 : List (List D)) (n1 n2 : Int) (l3 l4 l5 l6 : List (List D)) (n7 : Int) (l8 : List (List D))
  (h : Obs [qac Tryz.prog (qaa Tryz.f191 0) (impl_InputsLeft_L0 l3 n7 0 []) (.exit 0) (impl_InputsLeft_X0 l8)]) :
  Ret Tryz.prog 191 [.agg [D.sl 4 l0, I n1, I n2, D.sl 8 l3, D.sl 6 l4, D.sl 5 l5, D.sl 3 l6], .one (I n7)] [.one (.sl 5 l8)] :=
 .of [.loop [(5, 20, 5)] [11, 10, 9, 5, 1] [] (.exit 0) (impl_InputsLeft_X0 l8)] _ Tryz.func191 rfl (by kernel_rfl) h
def spec_SafeAt_L0 (l0 : List (List D)) (n1 n2 : Int) (l3 l4 l5 l6 : List (List D)) (n7 n8 : Int) (b9 : Bool) : St :=
 { env := envOf 59 [(1, .al (.one (.v (.int .i64 n7)))), (2, .al (.one (.ptr 2 0))), (5, .al (.one (.sb b9))), (6, .al (.one (.v (.int .i64 n8))))], boxes := [(2, [.sl .free 4 l0, .v (.int .i64 n1), .v (.int .i64 n2), .sl .free 8 l3, .sl .free 6 l4, .sl .free 5 l5, .sl .free 3 l6])] }
theorem spec_SafeAt_L0_s0 (l0 : List (List D)) (n1 n2 : Int) (l3 l4 l5 l6 : List (List D)) (n7 n8 : Int) (b9 : Bool)
  (h : Obs [decide (n8 < (↑l3.length : Int)) = true, b9 = true, inInt .i64 (n8 + 1)]) :
  Tr Tryz.prog (qaa Tryz.f92 0) (spec_SafeAt_L0 l0 n1 n2 l3 l4 l5 l6 n7 n8 b9) .normal (spec_SafeAt_L0 l0 n1 n2 l3 l4 l5 l6 n7 (n8 + 1) true) :=
 .of_loopc (ks := [6, 2, 5, 1]) (bs := [2]) (ans := [.br true, .br true]) (by kernel_rfl) h
theorem spec_SafeAt_L0_s1 (l0 : List (List D)) (n1 n2 : Int) (l3 l4 l5 l6 : List (List D)) (n7 n8 : Int) (b9 : Bool) (l10 l11 l12 l13 l14 l15 l16 l17 : List (List D)) (b18 : Bool)
  (h : Obs [decide (n8 < (↑l3.length : Int)) = true, b9 = false, 0 ≤ n8, n8 < (↑l3.length : Int), l3[n8.toNat]? = some [D.sl 5 l10, D.sl 5 l11, D.sl 5 l12, D.sl 4 l13, D.sl 1 l14, D.sl 1 l15, D.sl 1 l16, D.sl 2 l17], Ret Tryz.prog 177 [.agg [D.sl 5 l10, D.sl 5 l11, D.sl 5 l12, D.sl 4 l13, D.sl 1 l14, D.sl 1 l15, D.sl 1 l16, D.sl 2 l17], .one (I n7)] [.one (B b18)], inInt .i64 (n8 + 1)]) :
  Tr Tryz.prog (qaa Tryz.f92 0) (spec_SafeAt_L0 l0 n1 n2 l3 l4 l5 l6 n7 n8 b9) .normal (spec_SafeAt_L0 l0 n1 n2 l3 l4 l5 l6 n7 (n8 + 1) b18) :=
 .of_loopc (ks := [6, 2, 5, 1]) (bs := [2]) (ans := [.br true, .br false, .el [D.sl 5 l10, D.sl 5 l11, D.sl 5 l12, D.sl 4 l13, D.sl 1 l14, D.sl 1 l15, D.sl 1 l16, D.sl 2 l17], .res [.one (B b18)]]) (by kernel_rfl) h
def spec_SafeAt_X0 (l0 : List (List D)) (n1 n2 : Int) (l3 l4 l5 l6 : List (List D)) (n7 : Int) (b8 : Bool) : St :=
 { env := envOf 59 [(1, .al (.one (.v (.int .i64 n7)))), (2, .al (.one (.ptr 2 0))), (5, .al (.one (.sb b8)))], boxes := [(2, [.sl .free 4 l0, .v (.int .i64 n1), .v (.int .i64 n2), .sl .free 8 l3, .sl .free 6 l4, .sl .free 5 l5, .sl .free 3 l6])] }
theorem spec_SafeAt_L0_x2 (l0 : List (List D)) (n1 n2 : Int) (l3 l4 l5 l6 : List (List D)) (n7 n8 : Int) (b9 : Bool)
  (h : Obs [decide (n8 < (↑l3.length : Int)) = false]) :
  Tr Tryz.prog (qaa Tryz.f92 0) (spec_SafeAt_L0 l0 n1 n2 l3 l4 l5 l6 n7 n8 b9) (.exit 0) (spec_SafeAt_X0 l0 n1 n2 l3 l4 l5 l6 n7 b9) :=
 .of_loopc (ks := [2, 5, 1]) (bs := [2]) (ans := [.br false]) (by kernel_rfl) h
def spec_SafeAt_L1 (l0 : List (List D)) (n1 n2 : Int) (l3 l4 l5 l6 : List (List D)) (n7 n8 : Int) (b9 : Bool) : St :=
 { env := envOf 59 [(1, .al (.one (.v (.int .i64 n7)))), (2, .al (.one (.ptr 2 0))), (5, .al (.one (.sb b9))), (7, .al (.one (.v (.int .i64 n8))))], boxes := [(2, [.sl .free 4 l0, .v (.int .i64 n1), .v (.int .i64 n2), .sl .free 8 l3, .sl .free 6 l4, .sl .free 5 l5, .sl .free 3 l6])] }
theorem spec_SafeAt_L1_s0 (l0 : List (List D)) (n1 n2 : Int) (l3 l4 l5 l6 : List (List D)) (n7 n9 : Int) (b10 : Bool)
  (h : Obs [decide (n9 < (↑l6.length : Int)) = true, b10 = true, inInt .i64 (n9 + 1)]) :
  Tr Tryz.prog (qaa Tryz.f92 1) (spec_SafeAt_L1 l0 n1 n2 l3 l4 l5 l6 n7 n9 b10) .normal (spec_SafeAt_L1 l0 n1 n2 l3 l4 l5 l6 n7 (n9 + 1) true) :=
 .of_loopc (ks := [7, 2, 5, 1]) (bs := [2]) (ans := [.br true, .br true]) (by kernel_rfl) h
theorem spec_SafeAt_L1_s1 (l0 : List (List D)) (n1 n2 : Int) (l3 l4 l5 l6 : List (List D)) (n7 n9 : Int) (b10 : Bool) (n11 n12 : Int) (b13 : Bool)
  (h : Obs [decide (n9 < (↑l6.length : Int)) = true, b10 = false, 0 ≤ n9, n9 < (↑l6.length : Int), l6[n9.toNat]? = some [I n11, I n12, B b13], inInt .i64 (n9 + 1)]) :
  Tr Tryz.prog (qaa Tryz.f92 1) (spec_SafeAt_L1 l0 n1 n2 l3 l4 l5 l6 n7 n9 b10) .normal (spec_SafeAt_L1 l0 n1 n2 l3 l4 l5 l6 n7 (n9 + 1) (n12 == n7)) :=
 .of_loopc (ks := [7, 2, 5, 1]) (bs := [2]) (ans := [.br true, .br false, .el [I n11, I n12, B b13]]) (by kernel_rfl) h
def spec_SafeAt_X1 (l0 : List (List D)) (n1 n2 : Int) (l3 l4 l5 l6 : List (List D)) (n7 : Int) (b8 : Bool) : St :=
 { env := envOf 59 [(1, .al (.one (.v (.int .i64 n7)))), (2, .al (.one (.ptr 2 0))), (5, .al (.one (.sb b8)))], boxes := [(2, [.sl .free 4 l0, .v (.int .i64 n1), .v (.int .i64 n2), .sl .free 8 l3, .sl .free 6 l4, .sl .free 5 l5, .sl .free 3 l6])] }
theorem spec_SafeAt_L1_x2 (l0 : List (List D)) (n1 n2 : Int) (l3 l4 l5 l6 : List (List D)) (n7 n9 : Int) (b10 : Bool)
  (h : Obs [decide (n9 < (↑l6.length : Int)) = false]) :
  Tr Tryz.prog (qaa Tryz.f92 1) (spec_SafeAt_L1 l0 n1 n2 l3 l4 l5 l6 n7 n9 b10) (.exit 2) (spec_SafeAt_X1 l0 n1 n2 l3 l4 l5 l6 n7 b10) :=
 .of_loopc (ks := [5, 2, 1]) (bs := [2]) (ans := [.br false]) (by kernel_rfl) h
theorem spec_SafeAt_p0 (l0 : List (List D)) (n1 n2 : Int) (l3 l4 l5 l6 : List (List D)) (n7 : Int) (b8 b9 : Bool)
  (h : Obs [qac Tryz.prog (qaa Tryz.f92 0) (spec_SafeAt_L0 l0 n1 n2 l3 l4 l5 l6 n7 0 false) (.exit 0) (spec_SafeAt_X0 l0 n1 n2 l3 l4 l5 l6 n7 b8), qac Tryz.prog (qaa Tryz.f92 1) (spec_SafeAt_L1 l0 n1 n2 l3 l4 l5 l6 n7 0 b8) (.exit 2) (spec_SafeAt_X1 l0 n1 n2 l3 l4 l5 l6 n7 b9), (!b9) = true]) :
  Ret Tryz.prog 92 [.agg [D.sl 4 l0, I n1, I n2, D.sl 8 l3, D.sl 6 l4, D.sl 5 l5, D.sl 3 l6], .one (I n7)] [.one (B true)] :=
 .of [.loop [] [6, 2, 5, 1] [2] (.exit 0) (spec_SafeAt_X0 l0 n1 n2 l3 l4 l5 l6 n7 b8), .loop [] [7, 2, 5, 1] [2] (.exit 2) (spec_SafeAt_X1 l0 n1 n2 l3 l4 l5 l6 n7 b9), .br true] _ Tryz.func92 rfl (by kernel_rfl) h
theorem spec_SafeAt_p1 (l0 : List (List D)) (n1 n2 : Int) (l3 l4 l5 l6 : List (List D)) (n7 : Int) (b8 b9 : Bool) (l10 l11 : List (List D))
  (h : Obs [qac Tryz.prog (qaa Tryz.f92 0) (spec_SafeAt_L0 l0 n1 n2 l3 l4 l5 l6 n7 0 false) (.exit 0) (spec_SafeAt_X0 l0 n1 n2 l3 l4 l5 l6 n7 b8), qac Tryz.prog (qaa Tryz.f92 1) (spec_SafeAt_L1 l0 n1 n2 l3 l4 l5 l6 n7 0 b8) (.exit 2) (spec_SafeAt_X1 l0 n1 n2 l3 l4 l5 l6 n7 b9), (!b9) = false, Ret Tryz.prog 178 [.agg [D.sl 4 l0, I n1, I n2, D.sl 8 l3, D.sl 6 l4, D.sl 5 l5, D.sl 3 l6], .one (I n7)] [.one (.sl 5 l10)], ((↑l10.length : Int) == 0) = true, Ret Tryz.prog 179 [.agg [D.sl 4 l0, I n1, I n2, D.sl 8 l3, D.sl 6 l4, D.sl 5 l5, D.sl 3 l6], .one (I n7)] [.one (.sl 5 l11)]]) :
  Ret Tryz.prog 92 [.agg [D.sl 4 l0, I n1, I n2, D.sl 8 l3, D.sl 6 l4, D.sl 5 l5, D.sl 3 l6], .one (I n7)] [.one (B ((↑l11.length : Int) == 0))] :=
 .of [.loop [] [6, 2, 5, 1] [2] (.exit 0) (spec_SafeAt_X0 l0 n1 n2 l3 l4 l5 l6 n7 b8), .loop [] [7, 2, 5, 1] [2] (.exit 2) (spec_SafeAt_X1 l0 n1 n2 l3 l4 l5 l6 n7 b9), .br false, .res [.one (.sl 5 l10)], .br true, .res [.one (.sl 5 l11)]] _ Tryz.func92 rfl (by kernel_rfl) h
theorem spec_SafeAt_p2 (l0 : List (List D)) (n1 n2 : Int) (l3 l4 l5 l6 : List (List D)) (n7 : Int) (b8 b9 : Bool) (l10 : List (List D))
  (h : Obs [qac Tryz.prog (qaa Tryz.f92 0) (spec_SafeAt_L0 l0 n1 n2 l3 l4 l5 l6 n7 0 false) (.exit 0) (spec_SafeAt_X0 l0 n1 n2 l3 l4 l5 l6 n7 b8), qac Tryz.prog (qaa Tryz.f92 1) (spec_SafeAt_L1 l0 n1 n2 l3 l4 l5 l6 n7 0 b8) (.exit 2) (spec_SafeAt_X1 l0 n1 n2 l3 l4 l5 l6 n7 b9), (!b9) = false, Ret Tryz.prog 178 [.agg [D.sl 4 l0, I n1, I n2, D.sl 8 l3, D.sl 6 l4, D.sl 5 l5, D.sl 3 l6], .one (I n7)] [.one (.sl 5 l10)], ((↑l10.length : Int) == 0) = false]) :
  Ret Tryz.prog 92 [.agg [D.sl 4 l0, I n1, I n2, D.sl 8 l3, D.sl 6 l4, D.sl 5 l5, D.sl 3 l6], .one (I n7)] [.one (B false)] :=
 .of [.loop [] [6, 2, 5, 1] [2] (.exit 0) (spec_SafeAt_X0 l0 n1 n2 l3 l4 l5 l6 n7 b8), .loop [] [7, 2, 5, 1] [2] (.exit 2) (spec_SafeAt_X1 l0 n1 n2 l3 l4 l5 l6 n7 b9), .br false, .res [.one (.sl 5 l10)], .br false] _ Tryz.func92 rfl (by kernel_rfl) h
theorem impl_SafeAt_p0 (l0 : List (List D)) (n1 n2 : Int) (l3 l4 l5 l6 : List (List D)) (n7 : Int) (b8 : Bool) (l9 l10 : List (List D))
  (h : Obs [Ret Tryz.prog 186 [.one (.sl 8 l3), .one (.cl 187 [D.ptr [I n7]])] [.one (B b8)], b8 = true, Ret Tryz.prog 190 [.agg [D.sl 4 l0, I n1, I n2, D.sl 8 l3, D.sl 6 l4, D.sl 5 l5, D.sl 3 l6], .one (I n7)] [.one (.sl 5 l9)], ((↑l9.length : Int) == 0) = true, Ret Tryz.prog 191 [.agg [D.sl 4 l0, I n1, I n2, D.sl 8 l3, D.sl 6 l4, D.sl 5 l5, D.sl 3 l6], .one (I n7)] [.one (.sl 5 l10)]]) :
  Ret Tryz.prog 97 [.agg [D.sl 4 l0, I n1, I n2, D.sl 8 l3, D.sl 6 l4, D.sl 5 l5, D.sl 3 l6], .one (I n7)] [.one (B ((↑l10.length : Int) == 0))] :=
 .of [.res [.one (B b8)], .br true, .res [.one (.sl 5 l9)], .br true, .res [.one (.sl 5 l10)]] _ Tryz.func97 rfl (by kernel_rfl) h
theorem impl_SafeAt_p1 (l0 : List (List D)) (n1 n2 : Int) (l3 l4 l5 l6 : List (List D)) (n7 : Int) (b8 : Bool) (l9 : List (List D))
  (h : Obs [Ret Tryz.prog 186 [.one (.sl 8 l3), .one (.cl 187 [D.ptr [I n7]])] [.one (B b8)], b8 = true, Ret Tryz.prog 190 [.agg [D.sl 4 l0, I n1, I n2, D.sl 8 l3, D.sl 6 l4, D.sl 5 l5, D.sl 3 l6], .one (I n7)] [.one (.sl 5 l9)], ((↑l9.length : Int) == 0) = false]) :
  Ret Tryz.prog 97 [.agg [D.sl 4 l0, I n1, I n2, D.sl 8 l3, D.sl 6 l4, D.sl 5 l5, D.sl 3 l6], .one (I n7)] [.one (B false)] :=
 .of [.res [.one (B b8)], .br true, .res [.one (.sl 5 l9)], .br false] _ Tryz.func97 rfl (by kernel_rfl) h
theorem impl_SafeAt_p2 (l0 : List (List D)) (n1 n2 : Int) (l3 l4 l5 l6 : List (List D)) (n7 : Int) (b8 b9 : Bool)
  (h : Obs [Ret Tryz.prog 186 [.one (.sl 8 l3), .one (.cl 187 [D.ptr [I n7]])] [.one (B b8)], b8 = false, Ret Tryz.prog 188 [.one (.sl 3 l6), .one (.cl 189 [D.ptr [I n7]])] [.one (B b9)], (!b9) = true]) :
  Ret Tryz.prog 97 [.agg [D.sl 4 l0, I n1, I n2, D.sl 8 l3, D.sl 6 l4, D.sl 5 l5, D.sl 3 l6], .one (I n7)] [.one (B true)] :=
 .of [.res [.one (B b8)], .br false, .res [.one (B b9)], .br true] _ Tryz.func97 rfl (by kernel_rfl) h
theorem impl_SafeAt_p3 (l0 : List (List D)) (n1 n2 : Int) (l3 l4 l5 l6 : List (List D)) (n7 : Int) (b8 b9 : Bool) (l10 l11 : List (List D))
  (h : Obs [Ret Tryz.prog 186 [.one (.sl 8 l3), .one (.cl 187 [D.ptr [I n7]])] [.one (B b8)], b8 = false, Ret Tryz.prog 188 [.one (.sl 3 l6), .one (.cl 189 [D.ptr [I n7]])] [.one (B b9)], (!b9) = false, Ret Tryz.prog 190 [.agg [D.sl 4 l0, I n1, I n2, D.sl 8 l3, D.sl 6 l4, D.sl 5 l5, D.sl 3 l6], .one (I n7)] [.one (.sl 5 l10)], ((↑l10.length : Int) == 0) = true, Ret Tryz.prog 191 [.agg [D.sl 4 l0, I n1, I n2, D.sl 8 l3, D.sl 6 l4, D.sl 5 l5, D.sl 3 l6], .one (I n7)] [.one (.sl 5 l11)]]) :
  Ret Tryz.prog 97 [.agg [D.sl 4 l0, I n1, I n2, D.sl 8 l3, D.sl 6 l4, D.sl 5 l5, D.sl 3 l6], .one (I n7)] [.one (B ((↑l11.length : Int) == 0))] :=
 .of [.res [.one (B b8)], .br false, .res [.one (B b9)], .br false, .res [.one (.sl 5 l10)], .br true, .res [.one (.sl 5 l11)]] _ Tryz.func97 rfl (by kernel_rfl) h
theorem impl_SafeAt_p4 (l0 : List (List D)) (n1 n2 : Int) (l3 l4 l5 l6 : List (List D)) (n7 : Int) (b8 b9 : Bool) (l10 : List (List D))
  (h : Obs [Ret Tryz.prog 186 [.one (.sl 8 l3), .one (.cl 187 [D.ptr [I n7]])] [.one (B b8)], b8 = false, Ret Tryz.prog 188 [.one (.sl 3 l6), .one (.cl 189 [D.ptr [I n7]])] [.one (B b9)], (!b9) = false, Ret Tryz.prog 190 [.agg [D.sl 4 l0, I n1, I n2, D.sl 8 l3, D.sl 6 l4, D.sl 5 l5, D.sl 3 l6], .one (I n7)] [.one (.sl 5 l10)], ((↑l10.length : Int) == 0) = false]) :
  Ret Tryz.prog 97 [.agg [D.sl 4 l0, I n1, I n2, D.sl 8 l3, D.sl 6 l4, D.sl 5 l5, D.sl 3 l6], .one (I n7)] [.one (B false)] :=
 .of [.res [.one (B b8)], .br false, .res [.one (B b9)], .br false, .res [.one (.sl 5 l10)], .br false] _ Tryz.func97 rfl (by kernel_rfl) h
theorem impl_SafeAt_1_p0 (l0 l1 l2 l3 l4 l5 l6 l7 : List (List D)) (n8 : Int) (b9 : Bool)
  (h : Obs [Ret Tryz.prog 112 [.agg [D.sl 5 l0, D.sl 5 l1, D.sl 5 l2, D.sl 4 l3, D.sl 1 l4, D.sl 1 l5, D.sl 1 l6, D.sl 2 l7], .one (I n8)] [.one (B b9)]]) :
  Ret Tryz.prog 187 [.agg [D.sl 5 l0, D.sl 5 l1, D.sl 5 l2, D.sl 4 l3, D.sl 1 l4, D.sl 1 l5, D.sl 1 l6, D.sl 2 l7], .one (.ptr [I n8])] [.one (B b9)] :=
 .of [.res [.one (B b9)]] _ Tryz.func187 rfl (by kernel_rfl) h
theorem impl_SafeAt_2_p0 (n0 n1 : Int) (b2 : Bool) (n3 : Int)
  (h : Obs []) :
  Ret Tryz.prog 189 [.agg [I n0, I n1, B b2], .one (.ptr [I n3])] [.one (B (n1 == n3))] :=
 .of [] _ Tryz.func189 rfl (by kernel_rfl) h
def slices_IndexFunc_Worker_L0 (l0 : List (List D)) (g1 : Nat) (k2 : List D) (n3 : Int) : St :=
 { env := envOf 19 [(0, .al (.one (.sl .free 8 l0))), (1, .al (.one (.fd (D.cl g1 k2)))), (7, .al (.one (.v (.int .i64 (↑l0.length : Int))))), (8, .al (.one (.v (.int .i64 n3))))], boxes := [] }
def slices_IndexFunc_Worker_X0 (n0 : Int) : St :=
 { env := envOf 19 [(4, .al (.one (.v (.int .i64 n0))))], boxes := [] }
theorem slices_IndexFunc_Worker_L0_x0 (l0 : List (List D)) (g1 : Nat) (k2 : List D) (n3 : Int) (l4 l5 l6 l7 l8 l9 l10 l11 : List (List D)) (b12 : Bool)
  (h : Obs [decide (n3 < (↑l0.length : Int)) = true, 0 ≤ n3, n3 < (↑l0.length : Int), l0[n3.toNat]? = some [D.sl 5 l4, D.sl 5 l5, D.sl 5 l6, D.sl 4 l7, D.sl 1 l8, D.sl 1 l9, D.sl 1 l10, D.sl 2 l11], qbk Tryz.prog g1 = true, Ret Tryz.prog g1 ([.agg [D.sl 5 l4, D.sl 5 l5, D.sl 5 l6, D.sl 4 l7, D.sl 1 l8, D.sl 1 l9, D.sl 1 l10, D.sl 2 l11]] ++ List.map .one k2) [.one (B b12)], b12 = true]) :
  Tr Tryz.prog (qaa Tryz.f271 0) (slices_IndexFunc_Worker_L0 l0 g1 k2 n3) .ret (slices_IndexFunc_Worker_X0 n3) :=
 .of_loopc (ks := [4]) (bs := []) (ans := [.br true, .el [D.sl 5 l4, D.sl 5 l5, D.sl 5 l6, D.sl 4 l7, D.sl 1 l8, D.sl 1 l9, D.sl 1 l10, D.sl 2 l11], .res [.one (B b12)], .br true]) (by kernel_rfl) h
theorem slices_IndexFunc_Worker_L0_s1 (l0 : List (List D)) (g1 : Nat) (k2 : List D) (n3 : Int) (l4 l5 l6 l7 l8 l9 l10 l11 : List (List D)) (b12 : Bool)
  (h : Obs [decide (n3 < (↑l0.length : Int)) = true, 0 ≤ n3, n3 < (↑l0.length : Int), l0[n3.toNat]? = some [D.sl 5 l4, D.sl 5 l5, D.sl 5 l6, D.sl 4 l7, D.sl 1 l8, D.sl 1 l9, D.sl 1 l10, D.sl 2 l11], qbk Tryz.prog g1 = true, Ret Tryz.prog g1 ([.agg [D.sl 5 l4, D.sl 5 l5, D.sl 5 l6, D.sl 4 l7, D.sl 1 l8, D.sl 1 l9, D.sl 1 l10, D.sl 2 l11]] ++ List.map .one k2) [.one (B b12)], b12 = false, inInt .i64 (n3 + 1)]) :
  Tr Tryz.prog (qaa Tryz.f271 0) (slices_IndexFunc_Worker_L0 l0 g1 k2 n3) .normal (slices_IndexFunc_Worker_L0 l0 g1 k2 (n3 + 1)) :=
 .of_loopc (ks := [8, 7, 1, 0]) (bs := []) (ans := [.br true, .el [D.sl 5 l4, D.sl 5 l5, D.sl 5 l6, D.sl 4 l7, D.sl 1 l8, D.sl 1 l9, D.sl 1 l10, D.sl 2 l11], .res [.one (B b12)], .br false]) (by kernel_rfl) h
def slices_IndexFunc_Worker_X0v2 : St :=
 { env := envOf 19 [], boxes := [] }
theorem slices_IndexFunc_Worker_L0_x2 (l0 : List (List D)) (g1 : Nat) (k2 : List D) (n3 : Int)
  (h : Obs [decide (n3 < (↑l0.length : Int)) = false]) :
  Tr Tryz.prog (qaa Tryz.f271 0) (slices_IndexFunc_Worker_L0 l0 g1 k2 n3) (.exit 0) slices_IndexFunc_Worker_X0v2 :=
 .of_loopc (ks := []) (bs := []) (ans := [.br false]) (by kernel_rfl) h
theorem slices_IndexFunc_Worker_p0 (l0 : List (List D)) (g1 : Nat) (k2 : List D) (n3 : Int)
  (h : Obs [qac Tryz.prog (qaa Tryz.f271 0) (slices_IndexFunc_Worker_L0 l0 g1 k2 0) .ret (slices_IndexFunc_Worker_X0 n3)]) :
  Ret Tryz.prog 271 [.one (.sl 8 l0), .one (.cl g1 k2)] [.one (I n3)] :=
 .of [.loop [] [8, 7, 1, 0] [] .ret (slices_IndexFunc_Worker_X0 n3)] _ Tryz.func271 rfl (by kernel_rfl) h
theorem slices_IndexFunc_Worker_p1 (l0 : List (List D)) (g1 : Nat) (k2 : List D)
  (h : Obs [qac Tryz.prog (qaa Tryz.f271 0) (slices_IndexFunc_Worker_L0 l0 g1 k2 0) (.exit 0) slices_IndexFunc_Worker_X0v2]) :
  Ret Tryz.prog 271 [.one (.sl 8 l0), .one (.cl g1 k2)] [.one (I (-1))] :=
 .of [.loop [] [8, 7, 1, 0] [] (.exit 0) slices_IndexFunc_Worker_X0v2] _ Tryz.func271 rfl (by kernel_rfl) h
def slices_IndexFunc_Record_L0 (l0 : List (List D)) (g1 : Nat) (k2 : List D) (n3 : Int) : St :=
 { env := envOf 19 [(0, .al (.one (.sl .free 5 l0))), (1, .al (.one (.fd (D.cl g1 k2)))), (7, .al (.one (.v (.int .i64 (↑l0.length : Int))))), (8, .al (.one (.v (.int .i64 n3))))], boxes := [] }
def slices_IndexFunc_Record_X0 (n0 : Int) : St :=
 { env := envOf 19 [(4, .al (.one (.v (.int .i64 n0))))], boxes := [] }
theorem slices_IndexFunc_Record_L0_x0 (l0 : List (List D)) (g1 : Nat) (k2 : List D) (n3 n4 n5 n6 n7 n8 : Int) (b9 : Bool)
  (h : Obs [decide (n3 < (↑l0.length : Int)) = true, 0 ≤ n3, n3 < (↑l0.length : Int), l0[n3.toNat]? = some [I n4, I n5, I n6, I n7, I n8], qbk Tryz.prog g1 = true, Ret Tryz.prog g1 ([.agg [I n4, I n5, I n6, I n7, I n8]] ++ List.map .one k2) [.one (B b9)], b9 = true]) :
  Tr Tryz.prog (qaa Tryz.f310 0) (slices_IndexFunc_Record_L0 l0 g1 k2 n3) .ret (slices_IndexFunc_Record_X0 n3) :=
 .of_loopc (ks := [4]) (bs := []) (ans := [.br true, .el [I n4, I n5, I n6, I n7, I n8], .res [.one (B b9)], .br true]) (by kernel_rfl) h
theorem slices_IndexFunc_Record_L0_s1 (l0 : List (List D)) (g1 : Nat) (k2 : List D) (n3 n4 n5 n6 n7 n8 : Int) (b9 : Bool)
  (h : Obs [decide (n3 < (↑l0.length : Int)) = true, 0 ≤ n3, n3 < (↑l0.length : Int), l0[n3.toNat]? = some [I n4, I n5, I n6, I n7, I n8], qbk Tryz.prog g1 = true, Ret Tryz.prog g1 ([.agg [I n4, I n5, I n6, I n7, I n8]] ++ List.map .one k2) [.one (B b9)], b9 = false, inInt .i64 (n3 + 1)]) :
  Tr Tryz.prog (qaa Tryz.f310 0) (slices_IndexFunc_Record_L0 l0 g1 k2 n3) .normal (slices_IndexFunc_Record_L0 l0 g1 k2 (n3 + 1)) :=
 .of_loopc (ks := [8, 7, 1, 0]) (bs := []) (ans := [.br true, .el [I n4, I n5, I n6, I n7, I n8], .res [.one (B b9)], .br false]) (by kernel_rfl) h
def slices_IndexFunc_Record_X0v2 : St :=
 { env := envOf 19 [], boxes := [] }
theorem slices_IndexFunc_Record_L0_x2 (l0 : List (List D)) (g1 : Nat) (k2 : List D) (n3 : Int)
  (h : Obs [decide (n3 < (↑l0.length : Int)) = false]) :
  Tr Tryz.prog (qaa Tryz.f310 0) (slices_IndexFunc_Record_L0 l0 g1 k2 n3) (.exit 0) slices_IndexFunc_Record_X0v2 :=
 .of_loopc (ks := []) (bs := []) (ans := [.br false]) (by kernel_rfl) h
theorem slices_IndexFunc_Record_p0 (l0 : List (List D)) (g1 : Nat) (k2 : List D) (n3 : Int)
  (h : Obs [qac Tryz.prog (qaa Tryz.f310 0) (slices_IndexFunc_Record_L0 l0 g1 k2 0) .ret (slices_IndexFunc_Record_X0 n3)]) :
  Ret Tryz.prog 310 [.one (.sl 5 l0), .one (.cl g1 k2)] [.one (I n3)] :=
 .of [.loop [] [8, 7, 1, 0] [] .ret (slices_IndexFunc_Record_X0 n3)] _ Tryz.func310 rfl (by kernel_rfl) h
theorem slices_IndexFunc_Record_p1 (l0 : List (List D)) (g1 : Nat) (k2 : List D)
  (h : Obs [qac Tryz.prog (qaa Tryz.f310 0) (slices_IndexFunc_Record_L0 l0 g1 k2 0) (.exit 0) slices_IndexFunc_Record_X0v2]) :
  Ret Tryz.prog 310 [.one (.sl 5 l0), .one (.cl g1 k2)] [.one (I (-1))] :=
 .of [.loop [] [8, 7, 1, 0] [] (.exit 0) slices_IndexFunc_Record_X0v2] _ Tryz.func310 rfl (by kernel_rfl) h
def slices_IndexFunc_Done_L0 (l0 : List (List D)) (g1 : Nat) (k2 : List D) (n3 : Int) : St :=
 { env := envOf 19 [(0, .al (.one (.sl .free 2 l0))), (1, .al (.one (.fd (D.cl g1 k2)))), (7, .al (.one (.v (.int .i64 (↑l0.length : Int))))), (8, .al (.one (.v (.int .i64 n3))))], boxes := [] }
def slices_IndexFunc_Done_X0 (n0 : Int) : St :=
 { env := envOf 19 [(4, .al (.one (.v (.int .i64 n0))))], boxes := [] }
theorem slices_IndexFunc_Done_L0_x0 (l0 : List (List D)) (g1 : Nat) (k2 : List D) (n3 n4 : Int) (b5 b6 : Bool)
  (h : Obs [decide (n3 < (↑l0.length : Int)) = true, 0 ≤ n3, n3 < (↑l0.length : Int), l0[n3.toNat]? = some [I n4, B b5], qbk Tryz.prog g1 = true, Ret Tryz.prog g1 ([.agg [I n4, B b5]] ++ List.map .one k2) [.one (B b6)], b6 = true]) :
  Tr Tryz.prog (qaa Tryz.f311 0) (slices_IndexFunc_Done_L0 l0 g1 k2 n3) .ret (slices_IndexFunc_Done_X0 n3) :=
 .of_loopc (ks := [4]) (bs := []) (ans := [.br true, .el [I n4, B b5], .res [.one (B b6)], .br true]) (by kernel_rfl) h
theorem slices_IndexFunc_Done_L0_s1 (l0 : List (List D)) (g1 : Nat) (k2 : List D) (n3 n4 : Int) (b5 b6 : Bool)
  (h : Obs [decide (n3 < (↑l0.length : Int)) = true, 0 ≤ n3, n3 < (↑l0.length : Int), l0[n3.toNat]? = some [I n4, B b5], qbk Tryz.prog g1 = true, Ret Tryz.prog g1 ([.agg [I n4, B b5]] ++ List.map .one k2) [.one (B b6)], b6 = false, inInt .i64 (n3 + 1)]) :
  Tr Tryz.prog (qaa Tryz.f311 0) (slices_IndexFunc_Done_L0 l0 g1 k2 n3) .normal (slices_IndexFunc_Done_L0 l0 g1 k2 (n3 + 1)) :=
 .of_loopc (ks := [8, 7, 1, 0]) (bs := []) (ans := [.br true, .el [I n4, B b5], .res [.one (B b6)], .br false]) (by kernel_rfl) h
def slices_IndexFunc_Done_X0v2 : St :=
 { env := envOf 19 [], boxes := [] }
theorem slices_IndexFunc_Done_L0_x2 (l0 : List (List D)) (g1 : Nat) (k2 : List D) (n3 : Int)
  (h : Obs [decide (n3 < (↑l0.length : Int)) = false]) :
  Tr Tryz.prog (qaa Tryz.f311 0) (slices_IndexFunc_Done_L0 l0 g1 k2 n3) (.exit 0) slices_IndexFunc_Done_X0v2 :=
 .of_loopc (ks := []) (bs := []) (ans := [.br false]) (by kernel_rfl) h
theorem slices_IndexFunc_Done_p0 (l0 : List (List D)) (g1 : Nat) (k2 : List D) (n3 : Int)
  (h : Obs [qac Tryz.prog (qaa Tryz.f311 0) (slices_IndexFunc_Done_L0 l0 g1 k2 0) .ret (slices_IndexFunc_Done_X0 n3)]) :
  Ret Tryz.prog 311 [.one (.sl 2 l0), .one (.cl g1 k2)] [.one (I n3)] :=
 .of [.loop [] [8, 7, 1, 0] [] .ret (slices_IndexFunc_Done_X0 n3)] _ Tryz.func311 rfl (by kernel_rfl) h
theorem slices_IndexFunc_Done_p1 (l0 : List (List D)) (g1 : Nat) (k2 : List D)
  (h : Obs [qac Tryz.prog (qaa Tryz.f311 0) (slices_IndexFunc_Done_L0 l0 g1 k2 0) (.exit 0) slices_IndexFunc_Done_X0v2]) :
  Ret Tryz.prog 311 [.one (.sl 2 l0), .one (.cl g1 k2)] [.one (I (-1))] :=
 .of [.loop [] [8, 7, 1, 0] [] (.exit 0) slices_IndexFunc_Done_X0v2] _ Tryz.func311 rfl (by kernel_rfl) h
def slices_IndexFunc_News_L0 (l0 : List (List D)) (g1 : Nat) (k2 : List D) (n3 : Int) : St :=
 { env := envOf 19 [(0, .al (.one (.sl .free 3 l0))), (1, .al (.one (.fd (D.cl g1 k2)))), (7, .al (.one (.v (.int .i64 (↑l0.length : Int))))), (8, .al (.one (.v (.int .i64 n3))))], boxes := [] }
def slices_IndexFunc_News_X0 (n0 : Int) : St :=
 { env := envOf 19 [(4, .al (.one (.v (.int .i64 n0))))], boxes := [] }
theorem slices_IndexFunc_News_L0_x0 (l0 : List (List D)) (g1 : Nat) (k2 : List D) (n3 n4 n5 : Int) (b6 b7 : Bool)
  (h : Obs [decide (n3 < (↑l0.length : Int)) = true, 0 ≤ n3, n3 < (↑l0.length : Int), l0[n3.toNat]? = some [I n4, I n5, B b6], qbk Tryz.prog g1 = true, Ret Tryz.prog g1 ([.agg [I n4, I n5, B b6]] ++ List.map .one k2) [.one (B b7)], b7 = true]) :
  Tr Tryz.prog (qaa Tryz.f109 0) (slices_IndexFunc_News_L0 l0 g1 k2 n3) .ret (slices_IndexFunc_News_X0 n3) :=
 .of_loopc (ks := [4]) (bs := []) (ans := [.br true, .el [I n4, I n5, B b6], .res [.one (B b7)], .br true]) (by kernel_rfl) h
theorem slices_IndexFunc_News_L0_s1 (l0 : List (List D)) (g1 : Nat) (k2 : List D) (n3 n4 n5 : Int) (b6 b7 : Bool)
  (h : Obs [decide (n3 < (↑l0.length : Int)) = true, 0 ≤ n3, n3 < (↑l0.length : Int), l0[n3.toNat]? = some [I n4, I n5, B b6], qbk Tryz.prog g1 = true, Ret Tryz.prog g1 ([.agg [I n4, I n5, B b6]] ++ List.map .one k2) [.one (B b7)], b7 = false, inInt .i64 (n3 + 1)]) :
  Tr Tryz.prog (qaa Tryz.f109 0) (slices_IndexFunc_News_L0 l0 g1 k2 n3) .normal (slices_IndexFunc_News_L0 l0 g1 k2 (n3 + 1)) :=
 .of_loopc (ks := [8, 7, 1, 0]) (bs := []) (ans := [.br true, .el [I n4, I n5, B b6], .res [.one (B b7)], .br false]) (by kernel_rfl) h
def slices_IndexFunc_News_X0v2 : St :=
 { env := envOf 19 [], boxes := [] }
theorem slices_IndexFunc_News_L0_x2 (l0 : List (List D)) (g1 : Nat) (k2 : List D) (n3 : Int)
  (h : Obs [decide (n3 < (↑l0.length : Int)) = false]) :
  Tr Tryz.prog (qaa Tryz.f109 0) (slices_IndexFunc_News_L0 l0 g1 k2 n3) (.exit 0) slices_IndexFunc_News_X0v2 :=
 .of_loopc (ks := []) (bs := []) (ans := [.br false]) (by kernel_rfl) h
theorem slices_IndexFunc_News_p0 (l0 : List (List D)) (g1 : Nat) (k2 : List D) (n3 : Int)
  (h : Obs [qac Tryz.prog (qaa Tryz.f109 0) (slices_IndexFunc_News_L0 l0 g1 k2 0) .ret (slices_IndexFunc_News_X0 n3)]) :
  Ret Tryz.prog 109 [.one (.sl 3 l0), .one (.cl g1 k2)] [.one (I n3)] :=
 .of [.loop [] [8, 7, 1, 0] [] .ret (slices_IndexFunc_News_X0 n3)] _ Tryz.func109 rfl (by kernel_rfl) h
theorem slices_IndexFunc_News_p1 (l0 : List (List D)) (g1 : Nat) (k2 : List D)
  (h : Obs [qac Tryz.prog (qaa Tryz.f109 0) (slices_IndexFunc_News_L0 l0 g1 k2 0) (.exit 0) slices_IndexFunc_News_X0v2]) :
  Ret Tryz.prog 109 [.one (.sl 3 l0), .one (.cl g1 k2)] [.one (I (-1))] :=
 .of [.loop [] [8, 7, 1, 0] [] (.exit 0) slices_IndexFunc_News_X0v2] _ Tryz.func109 rfl (by kernel_rfl) h
theorem slices_ContainsFunc_Worker_p0 (l0 : List (List D)) (g1 : Nat) (k2 : List D) (n3 : Int)
  (h : Obs [Ret Tryz.prog 271 [.one (.sl 8 l0), .one (.cl g1 k2)] [.one (I n3)]]) :
  Ret Tryz.prog 186 [.one (.sl 8 l0), .one (.cl g1 k2)] [.one (B (decide (n3 ≥ 0)))] :=
 .of [.res [.one (I n3)]] _ Tryz.func186 rfl (by kernel_rfl) h
theorem slices_ContainsFunc_Record_p0 (l0 : List (List D)) (g1 : Nat) (k2 : List D) (n3 : Int)
  (h : Obs [Ret Tryz.prog 310 [.one (.sl 5 l0), .one (.cl g1 k2)] [.one (I n3)]]) :
  Ret Tryz.prog 269 [.one (.sl 5 l0), .one (.cl g1 k2)] [.one (B (decide (n3 ≥ 0)))] :=
 .of [.res [.one (I n3)]] _ Tryz.func269 rfl (by kernel_rfl) h
theorem slices_ContainsFunc_Done_p0 (l0 : List (List D)) (g1 : Nat) (k2 : List D) (n3 : Int)
  (h : Obs [Ret Tryz.prog 311 [.one (.sl 2 l0), .one (.cl g1 k2)] [.one (I n3)]]) :
  Ret Tryz.prog 279 [.one (.sl 2 l0), .one (.cl g1 k2)] [.one (B (decide (n3 ≥ 0)))] :=
 .of [.res [.one (I n3)]] _ Tryz.func279 rfl (by kernel_rfl) h
theorem slices_ContainsFunc_News_p0 (l0 : List (List D)) (g1 : Nat) (k2 : List D) (n3 : Int)
  (h : Obs [Ret Tryz.prog 109 [.one (.sl 3 l0), .one (.cl g1 k2)] [.one (I n3)]]) :
  Ret Tryz.prog 188 [.one (.sl 3 l0), .one (.cl g1 k2)] [.one (B (decide (n3 ≥ 0)))] :=
 .of [.res [.one (I n3)]] _ Tryz.func188 rfl (by kernel_rfl) h
end Go.Proofs.YtialmplmfcahpaaGreat
