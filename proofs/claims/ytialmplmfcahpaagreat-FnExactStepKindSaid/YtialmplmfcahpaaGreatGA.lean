import Derived.Test.YtialmplmfcahpaaGreatRows
import Derived.Test.YtialmplmfcahpaaGreatR22
set_option linter.unusedVariables false
set_option linter.unusedSimpArgs false
namespace Go.Proofs.YtialmplmfcahpaaGreat
open Go.Sx Go.RowKit Go.Proofs.Tryz
theorem qoK (l0 : List (List D)) (n1 : Int)
  (h : Obs [inInt .i64 (n1 - (l0.length : Int)), decide (n1 - (l0.length : Int) < 0) = true]) :
  Ret prog 28 [.one (.sl 5 l0), .one (I n1)] [.one (I (-1))] :=
 .of [.br true] _ func28 rfl (by kernel_rfl) h
theorem qoL (l0 : List (List D)) (n1 : Int)
  (h : Obs [inInt .i64 (n1 - (l0.length : Int)), decide (n1 - (l0.length : Int) < 0) = false]) :
  Ret prog 28 [.one (.sl 5 l0), .one (I n1)] [.one (I (n1 - (l0.length : Int)))] :=
 .of [.br false] _ func28 rfl (by kernel_rfl) h
theorem qoM (l0 : List (List D)) (n1 : Int)
  (h : Obs [inInt .i64 (n1 - (l0.length : Int)), decide (n1 - (l0.length : Int) < 0) = true]) :
  Ret prog 236 [.one (.sl 4 l0), .one (I n1)] [.one (I (-1))] :=
 .of [.br true] _ func236 rfl (by kernel_rfl) h
theorem qoN (l0 : List (List D)) (n1 : Int)
  (h : Obs [inInt .i64 (n1 - (l0.length : Int)), decide (n1 - (l0.length : Int) < 0) = false]) :
  Ret prog 236 [.one (.sl 4 l0), .one (I n1)] [.one (I (n1 - (l0.length : Int)))] :=
 .of [.br false] _ func236 rfl (by kernel_rfl) h
theorem qoO (l0 : List (List D)) (n1 : Int)
  (h : Obs [inInt .i64 (n1 - (l0.length : Int)), decide (n1 - (l0.length : Int) < 0) = true]) :
  Ret prog 237 [.one (.sl 1 l0), .one (I n1)] [.one (I (-1))] :=
 .of [.br true] _ func237 rfl (by kernel_rfl) h
theorem qoP (l0 : List (List D)) (n1 : Int)
  (h : Obs [inInt .i64 (n1 - (l0.length : Int)), decide (n1 - (l0.length : Int) < 0) = false]) :
  Ret prog 237 [.one (.sl 1 l0), .one (I n1)] [.one (I (n1 - (l0.length : Int)))] :=
 .of [.br false] _ func237 rfl (by kernel_rfl) h
theorem qoQ (l0 : List (List D)) (n1 : Int)
  (h : Obs [inInt .i64 (n1 - (l0.length : Int)), decide (n1 - (l0.length : Int) < 0) = true]) :
  Ret prog 238 [.one (.sl 1 l0), .one (I n1)] [.one (I (-1))] :=
 .of [.br true] _ func238 rfl (by kernel_rfl) h
theorem qoR (l0 : List (List D)) (n1 : Int)
  (h : Obs [inInt .i64 (n1 - (l0.length : Int)), decide (n1 - (l0.length : Int) < 0) = false]) :
  Ret prog 238 [.one (.sl 1 l0), .one (I n1)] [.one (I (n1 - (l0.length : Int)))] :=
 .of [.br false] _ func238 rfl (by kernel_rfl) h
theorem qoS (l0 : List (List D)) (n1 : Int)
  (h : Obs [inInt .i64 (n1 - (l0.length : Int)), decide (n1 - (l0.length : Int) < 0) = true]) :
  Ret prog 239 [.one (.sl 2 l0), .one (I n1)] [.one (I (-1))] :=
 .of [.br true] _ func239 rfl (by kernel_rfl) h
theorem qoT (l0 : List (List D)) (n1 : Int)
  (h : Obs [inInt .i64 (n1 - (l0.length : Int)), decide (n1 - (l0.length : Int) < 0) = false]) :
  Ret prog 239 [.one (.sl 2 l0), .one (I n1)] [.one (I (n1 - (l0.length : Int)))] :=
 .of [.br false] _ func239 rfl (by kernel_rfl) h
theorem qoU (l0 : List (List D)) (n1 : Int)
  (h : Obs [inInt .i64 (n1 - (l0.length : Int)), decide (n1 - (l0.length : Int) < 0) = true]) :
  Ret prog 57 [.one (.sl 5 l0), .one (I n1)] [.one (I (-1))] :=
 .of [.br true] _ func57 rfl (by kernel_rfl) h
theorem qoV (l0 : List (List D)) (n1 : Int)
  (h : Obs [inInt .i64 (n1 - (l0.length : Int)), decide (n1 - (l0.length : Int) < 0) = false]) :
  Ret prog 57 [.one (.sl 5 l0), .one (I n1)] [.one (I (n1 - (l0.length : Int)))] :=
 .of [.br false] _ func57 rfl (by kernel_rfl) h
theorem qoW (l0 : List (List D)) (n1 : Int)
  (h : Obs [inInt .i64 (n1 - (l0.length : Int)), decide (n1 - (l0.length : Int) < 0) = true]) :
  Ret prog 58 [.one (.sl 3 l0), .one (I n1)] [.one (I (-1))] :=
 .of [.br true] _ func58 rfl (by kernel_rfl) h
theorem qoX (l0 : List (List D)) (n1 : Int)
  (h : Obs [inInt .i64 (n1 - (l0.length : Int)), decide (n1 - (l0.length : Int) < 0) = false]) :
  Ret prog 58 [.one (.sl 3 l0), .one (I n1)] [.one (I (n1 - (l0.length : Int)))] :=
 .of [.br false] _ func58 rfl (by kernel_rfl) h
theorem qoY (n0 n1 n2 : Int) (l3 : List (List D)) (n4 n5 : Int)
  (h : Obs [Ret prog 237 [.one (.sl 1 l3), .one (I n4)] [.one (I n5)], decide (n5 < 0) = true]) :
  Ret prog 235 [.agg [I n0, I n1, I n2, D.sl 1 l3], .one (I n4)] [.one (I (-1))] :=
 .of [.res [.one (I n5)], .br true] _ func235 rfl (by kernel_rfl) h
theorem qoZ (n0 n1 n2 : Int) (l3 : List (List D)) (n4 n5 : Int)
  (h : Obs [Ret prog 237 [.one (.sl 1 l3), .one (I n4)] [.one (I n5)], decide (n5 < 0) = false]) :
  Ret prog 235 [.agg [I n0, I n1, I n2, D.sl 1 l3], .one (I n4)] [.one (I n5)] :=
 .of [.res [.one (I n5)], .br false] _ func235 rfl (by kernel_rfl) h
theorem qo0 (l0 : List (List D)) (n1 : Int)
  (h : Obs [inInt .i64 (n1 - (l0.length : Int)), decide (n1 - (l0.length : Int) < 0) = true]) :
  Ret prog 135 [.one (.sl 4 l0), .one (I n1)] [.one (I (-1))] :=
 .of [.br true] _ func135 rfl (by kernel_rfl) h
def qci (l0 : List (List D)) (n1 n2 : Int) : St :=
 { env := envOf 27 [(0, .al (.one (.sl .free 4 l0))), (1, .al (.one (.v (.int .i64 n2)))), (5, .al (.one (.v (.int .i64 n1))))], boxes := [] }
def qiu (n0 : Int) : St :=
 { env := envOf 27 [(4, .al (.one (.v (.int .i64 n0))))], boxes := [] }
theorem qo1 (l0 : List (List D)) (n2 n3 n4 n5 n6 : Int) (l7 : List (List D)) (n8 : Int)
  (h : Obs [decide (n2 < (l0.length : Int)) = true, 0 ≤ n2, n2 < (l0.length : Int), l0[n2.toNat]? = some [I n4, I n5, I n6, D.sl 1 l7], Ret prog 235 [.agg [I n4, I n5, I n6, D.sl 1 l7], .one (I n3)] [.one (I n8)], decide (n8 < 0) = true]) :
  Tr prog (qaa f135 0) (qci l0 n2 n3) .ret (qiu (-1)) :=
 .of_loopc (ks := [4]) (bs := []) (ans := [.br true, .el [I n4, I n5, I n6, D.sl 1 l7], .res [.one (I n8)], .br true]) (by kernel_rfl) h
theorem qo2 (l0 : List (List D)) (n2 n3 n4 n5 n6 : Int) (l7 : List (List D)) (n8 : Int)
  (h : Obs [decide (n2 < (l0.length : Int)) = true, 0 ≤ n2, n2 < (l0.length : Int), l0[n2.toNat]? = some [I n4, I n5, I n6, D.sl 1 l7], Ret prog 235 [.agg [I n4, I n5, I n6, D.sl 1 l7], .one (I n3)] [.one (I n8)], decide (n8 < 0) = false, inInt .i64 (n2 + 1)]) :
  Tr prog (qaa f135 0) (qci l0 n2 n3) .normal (qci l0 (n2 + 1) n8) :=
 .of_loopc (ks := [5, 0, 1]) (bs := []) (ans := [.br true, .el [I n4, I n5, I n6, D.sl 1 l7], .res [.one (I n8)], .br false]) (by kernel_rfl) h
def qiv (n0 : Int) : St :=
 { env := envOf 27 [(1, .al (.one (.v (.int .i64 n0))))], boxes := [] }
theorem qo3 (l0 : List (List D)) (n2 n3 : Int)
  (h : Obs [decide (n2 < (l0.length : Int)) = false]) :
  Tr prog (qaa f135 0) (qci l0 n2 n3) (.exit 0) (qiv n3) :=
 .of_loopc (ks := [1]) (bs := []) (ans := [.br false]) (by kernel_rfl) h
theorem qo4 (l0 : List (List D)) (n1 n2 : Int)
  (h : Obs [inInt .i64 (n1 - (l0.length : Int)), decide (n1 - (l0.length : Int) < 0) = false, qac prog (qaa f135 0) (qci l0 0 (n1 - (l0.length : Int))) .ret (qiu n2)]) :
  Ret prog 135 [.one (.sl 4 l0), .one (I n1)] [.one (I n2)] :=
 .of [.br false, .loop [] [5, 0, 1] [] .ret (qiu n2)] _ func135 rfl (by kernel_rfl) h
theorem qo5 (l0 : List (List D)) (n1 n2 : Int)
  (h : Obs [inInt .i64 (n1 - (l0.length : Int)), decide (n1 - (l0.length : Int) < 0) = false, qac prog (qaa f135 0) (qci l0 0 (n1 - (l0.length : Int))) (.exit 0) (qiv n2)]) :
  Ret prog 135 [.one (.sl 4 l0), .one (I n1)] [.one (I n2)] :=
 .of [.br false, .loop [] [5, 0, 1] [] (.exit 0) (qiv n2)] _ func135 rfl (by kernel_rfl) h
theorem qo6 (n0 : Int) (l1 : List (List D)) (n2 n3 n4 n5 n6 n7 : Int)
  (h : Obs [Ret prog 28 [.one (.sl 5 l1), .one (I n6)] [.one (I n7)], decide (n7 < 0) = true]) :
  Ret prog 137 [.agg [I n0, D.sl 5 l1, I n2, I n3, I n4, I n5], .one (I n6)] [.one (I (-1))] :=
 .of [.res [.one (I n7)], .br true] _ func137 rfl (by kernel_rfl) h
theorem qo7 (n0 : Int) (l1 : List (List D)) (n2 n3 n4 n5 n6 n7 : Int)
  (h : Obs [Ret prog 28 [.one (.sl 5 l1), .one (I n6)] [.one (I n7)], decide (n7 < 0) = false]) :
  Ret prog 137 [.agg [I n0, D.sl 5 l1, I n2, I n3, I n4, I n5], .one (I n6)] [.one (I n7)] :=
 .of [.res [.one (I n7)], .br false] _ func137 rfl (by kernel_rfl) h
theorem qo8 (l0 : List (List D)) (n1 : Int)
  (h : Obs [inInt .i64 (n1 - (l0.length : Int)), decide (n1 - (l0.length : Int) < 0) = true]) :
  Ret prog 56 [.one (.sl 6 l0), .one (I n1)] [.one (I (-1))] :=
 .of [.br true] _ func56 rfl (by kernel_rfl) h
def qcj (l0 : List (List D)) (n1 n2 : Int) : St :=
 { env := envOf 27 [(0, .al (.one (.sl .free 6 l0))), (1, .al (.one (.v (.int .i64 n2)))), (5, .al (.one (.v (.int .i64 n1))))], boxes := [] }
def qiw (n0 : Int) : St :=
 { env := envOf 27 [(4, .al (.one (.v (.int .i64 n0))))], boxes := [] }
theorem qo9 (l0 : List (List D)) (n2 n3 n4 : Int) (l5 : List (List D)) (n6 n7 n8 n9 n10 : Int)
  (h : Obs [decide (n2 < (l0.length : Int)) = true, 0 ≤ n2, n2 < (l0.length : Int), l0[n2.toNat]? = some [I n4, D.sl 5 l5, I n6, I n7, I n8, I n9], Ret prog 137 [.agg [I n4, D.sl 5 l5, I n6, I n7, I n8, I n9], .one (I n3)] [.one (I n10)], decide (n10 < 0) = true]) :
  Tr prog (qaa f56 0) (qcj l0 n2 n3) .ret (qiw (-1)) :=
 .of_loopc (ks := [4]) (bs := []) (ans := [.br true, .el [I n4, D.sl 5 l5, I n6, I n7, I n8, I n9], .res [.one (I n10)], .br true]) (by kernel_rfl) h
theorem qpa (l0 : List (List D)) (n2 n3 n4 : Int) (l5 : List (List D)) (n6 n7 n8 n9 n10 : Int)
  (h : Obs [decide (n2 < (l0.length : Int)) = true, 0 ≤ n2, n2 < (l0.length : Int), l0[n2.toNat]? = some [I n4, D.sl 5 l5, I n6, I n7, I n8, I n9], Ret prog 137 [.agg [I n4, D.sl 5 l5, I n6, I n7, I n8, I n9], .one (I n3)] [.one (I n10)], decide (n10 < 0) = false, inInt .i64 (n2 + 1)]) :
  Tr prog (qaa f56 0) (qcj l0 n2 n3) .normal (qcj l0 (n2 + 1) n10) :=
 .of_loopc (ks := [5, 0, 1]) (bs := []) (ans := [.br true, .el [I n4, D.sl 5 l5, I n6, I n7, I n8, I n9], .res [.one (I n10)], .br false]) (by kernel_rfl) h
def qix (n0 : Int) : St :=
 { env := envOf 27 [(1, .al (.one (.v (.int .i64 n0))))], boxes := [] }
theorem qpb (l0 : List (List D)) (n2 n3 : Int)
  (h : Obs [decide (n2 < (l0.length : Int)) = false]) :
  Tr prog (qaa f56 0) (qcj l0 n2 n3) (.exit 0) (qix n3) :=
 .of_loopc (ks := [1]) (bs := []) (ans := [.br false]) (by kernel_rfl) h
theorem qpc (l0 : List (List D)) (n1 n2 : Int)
  (h : Obs [inInt .i64 (n1 - (l0.length : Int)), decide (n1 - (l0.length : Int) < 0) = false, qac prog (qaa f56 0) (qcj l0 0 (n1 - (l0.length : Int))) .ret (qiw n2)]) :
  Ret prog 56 [.one (.sl 6 l0), .one (I n1)] [.one (I n2)] :=
 .of [.br false, .loop [] [5, 0, 1] [] .ret (qiw n2)] _ func56 rfl (by kernel_rfl) h
theorem qpd (l0 : List (List D)) (n1 n2 : Int)
  (h : Obs [inInt .i64 (n1 - (l0.length : Int)), decide (n1 - (l0.length : Int) < 0) = false, qac prog (qaa f56 0) (qcj l0 0 (n1 - (l0.length : Int))) (.exit 0) (qix n2)]) :
  Ret prog 56 [.one (.sl 6 l0), .one (I n1)] [.one (I n2)] :=
 .of [.br false, .loop [] [5, 0, 1] [] (.exit 0) (qix n2)] _ func56 rfl (by kernel_rfl) h
theorem qpe (l0 : List (List D)) (n1 n2 n3 n4 : Int)
  (h : Obs [Ret prog 135 [.one (.sl 4 l0), .one (I n3)] [.one (I n4)], decide (n4 < 0) = true]) :
  Ret prog 54 [.agg [D.sl 4 l0, I n1, I n2], .one (I n3)] [.one (I (-1))] :=
 .of [.res [.one (I n4)], .br true] _ func54 rfl (by kernel_rfl) h
theorem qpf (l0 : List (List D)) (n1 n2 n3 n4 : Int)
  (h : Obs [Ret prog 135 [.one (.sl 4 l0), .one (I n3)] [.one (I n4)], decide (n4 < 0) = false]) :
  Ret prog 54 [.agg [D.sl 4 l0, I n1, I n2], .one (I n3)] [.one (I n4)] :=
 .of [.res [.one (I n4)], .br false] _ func54 rfl (by kernel_rfl) h
theorem qpg (l0 l1 l2 l3 l4 l5 l6 l7 : List (List D)) (n8 n9 : Int)
  (h : Obs [Ret prog 28 [.one (.sl 5 l0), .one (I n8)] [.one (I n9)], decide (n9 < 0) = true]) :
  Ret prog 136 [.agg [D.sl 5 l0, D.sl 5 l1, D.sl 5 l2, D.sl 4 l3, D.sl 1 l4, D.sl 1 l5, D.sl 1 l6, D.sl 2 l7], .one (I n8)] [.one (I (-1))] :=
 .of [.res [.one (I n9)], .br true] _ func136 rfl (by kernel_rfl) h
theorem qph (l0 l1 l2 l3 l4 l5 l6 l7 : List (List D)) (n8 n9 n10 : Int)
  (h : Obs [Ret prog 28 [.one (.sl 5 l0), .one (I n8)] [.one (I n9)], decide (n9 < 0) = false, Ret prog 28 [.one (.sl 5 l1), .one (I n9)] [.one (I n10)], decide (n10 < 0) = true]) :
  Ret prog 136 [.agg [D.sl 5 l0, D.sl 5 l1, D.sl 5 l2, D.sl 4 l3, D.sl 1 l4, D.sl 1 l5, D.sl 1 l6, D.sl 2 l7], .one (I n8)] [.one (I (-1))] :=
 .of [.res [.one (I n9)], .br false, .res [.one (I n10)], .br true] _ func136 rfl (by kernel_rfl) h
theorem qpi (l0 l1 l2 l3 l4 l5 l6 l7 : List (List D)) (n8 n9 n10 n11 : Int)
  (h : Obs [Ret prog 28 [.one (.sl 5 l0), .one (I n8)] [.one (I n9)], decide (n9 < 0) = false, Ret prog 28 [.one (.sl 5 l1), .one (I n9)] [.one (I n10)], decide (n10 < 0) = false, Ret prog 28 [.one (.sl 5 l2), .one (I n10)] [.one (I n11)], decide (n11 < 0) = true]) :
  Ret prog 136 [.agg [D.sl 5 l0, D.sl 5 l1, D.sl 5 l2, D.sl 4 l3, D.sl 1 l4, D.sl 1 l5, D.sl 1 l6, D.sl 2 l7], .one (I n8)] [.one (I (-1))] :=
 .of [.res [.one (I n9)], .br false, .res [.one (I n10)], .br false, .res [.one (I n11)], .br true] _ func136 rfl (by kernel_rfl) h
theorem qpj (l0 l1 l2 l3 l4 l5 l6 l7 : List (List D)) (n8 n9 n10 n11 n12 : Int)
  (h : Obs [Ret prog 28 [.one (.sl 5 l0), .one (I n8)] [.one (I n9)], decide (n9 < 0) = false, Ret prog 28 [.one (.sl 5 l1), .one (I n9)] [.one (I n10)], decide (n10 < 0) = false, Ret prog 28 [.one (.sl 5 l2), .one (I n10)] [.one (I n11)], decide (n11 < 0) = false, Ret prog 236 [.one (.sl 4 l3), .one (I n11)] [.one (I n12)], decide (n12 < 0) = true]) :
  Ret prog 136 [.agg [D.sl 5 l0, D.sl 5 l1, D.sl 5 l2, D.sl 4 l3, D.sl 1 l4, D.sl 1 l5, D.sl 1 l6, D.sl 2 l7], .one (I n8)] [.one (I (-1))] :=
 .of [.res [.one (I n9)], .br false, .res [.one (I n10)], .br false, .res [.one (I n11)], .br false, .res [.one (I n12)], .br true] _ func136 rfl (by kernel_rfl) h
theorem qpk (l0 l1 l2 l3 l4 l5 l6 l7 : List (List D)) (n8 n9 n10 n11 n12 n13 : Int)
  (h : Obs [Ret prog 28 [.one (.sl 5 l0), .one (I n8)] [.one (I n9)], decide (n9 < 0) = false, Ret prog 28 [.one (.sl 5 l1), .one (I n9)] [.one (I n10)], decide (n10 < 0) = false, Ret prog 28 [.one (.sl 5 l2), .one (I n10)] [.one (I n11)], decide (n11 < 0) = false, Ret prog 236 [.one (.sl 4 l3), .one (I n11)] [.one (I n12)], decide (n12 < 0) = false, Ret prog 237 [.one (.sl 1 l4), .one (I n12)] [.one (I n13)], decide (n13 < 0) = true]) :
  Ret prog 136 [.agg [D.sl 5 l0, D.sl 5 l1, D.sl 5 l2, D.sl 4 l3, D.sl 1 l4, D.sl 1 l5, D.sl 1 l6, D.sl 2 l7], .one (I n8)] [.one (I (-1))] :=
 .of [.res [.one (I n9)], .br false, .res [.one (I n10)], .br false, .res [.one (I n11)], .br false, .res [.one (I n12)], .br false, .res [.one (I n13)], .br true] _ func136 rfl (by kernel_rfl) h
theorem qpl (l0 l1 l2 l3 l4 l5 l6 l7 : List (List D)) (n8 n9 n10 n11 n12 n13 n14 : Int)
  (h : Obs [Ret prog 28 [.one (.sl 5 l0), .one (I n8)] [.one (I n9)], decide (n9 < 0) = false, Ret prog 28 [.one (.sl 5 l1), .one (I n9)] [.one (I n10)], decide (n10 < 0) = false, Ret prog 28 [.one (.sl 5 l2), .one (I n10)] [.one (I n11)], decide (n11 < 0) = false, Ret prog 236 [.one (.sl 4 l3), .one (I n11)] [.one (I n12)], decide (n12 < 0) = false, Ret prog 237 [.one (.sl 1 l4), .one (I n12)] [.one (I n13)], decide (n13 < 0) = false, Ret prog 238 [.one (.sl 1 l5), .one (I n13)] [.one (I n14)], decide (n14 < 0) = true]) :
  Ret prog 136 [.agg [D.sl 5 l0, D.sl 5 l1, D.sl 5 l2, D.sl 4 l3, D.sl 1 l4, D.sl 1 l5, D.sl 1 l6, D.sl 2 l7], .one (I n8)] [.one (I (-1))] :=
 .of [.res [.one (I n9)], .br false, .res [.one (I n10)], .br false, .res [.one (I n11)], .br false, .res [.one (I n12)], .br false, .res [.one (I n13)], .br false, .res [.one (I n14)], .br true] _ func136 rfl (by kernel_rfl) h
theorem qpm (l0 l1 l2 l3 l4 l5 l6 l7 : List (List D)) (n8 n9 n10 n11 n12 n13 n14 n15 : Int)
  (h : Obs [Ret prog 28 [.one (.sl 5 l0), .one (I n8)] [.one (I n9)], decide (n9 < 0) = false, Ret prog 28 [.one (.sl 5 l1), .one (I n9)] [.one (I n10)], decide (n10 < 0) = false, Ret prog 28 [.one (.sl 5 l2), .one (I n10)] [.one (I n11)], decide (n11 < 0) = false, Ret prog 236 [.one (.sl 4 l3), .one (I n11)] [.one (I n12)], decide (n12 < 0) = false, Ret prog 237 [.one (.sl 1 l4), .one (I n12)] [.one (I n13)], decide (n13 < 0) = false, Ret prog 238 [.one (.sl 1 l5), .one (I n13)] [.one (I n14)], decide (n14 < 0) = false, Ret prog 238 [.one (.sl 1 l6), .one (I n14)] [.one (I n15)], decide (n15 < 0) = true]) :
  Ret prog 136 [.agg [D.sl 5 l0, D.sl 5 l1, D.sl 5 l2, D.sl 4 l3, D.sl 1 l4, D.sl 1 l5, D.sl 1 l6, D.sl 2 l7], .one (I n8)] [.one (I (-1))] :=
 .of [.res [.one (I n9)], .br false, .res [.one (I n10)], .br false, .res [.one (I n11)], .br false, .res [.one (I n12)], .br false, .res [.one (I n13)], .br false, .res [.one (I n14)], .br false, .res [.one (I n15)], .br true] _ func136 rfl (by kernel_rfl) h
theorem qpn (l0 l1 l2 l3 l4 l5 l6 l7 : List (List D)) (n8 n9 n10 n11 n12 n13 n14 n15 n16 : Int)
  (h : Obs [Ret prog 28 [.one (.sl 5 l0), .one (I n8)] [.one (I n9)], decide (n9 < 0) = false, Ret prog 28 [.one (.sl 5 l1), .one (I n9)] [.one (I n10)], decide (n10 < 0) = false, Ret prog 28 [.one (.sl 5 l2), .one (I n10)] [.one (I n11)], decide (n11 < 0) = false, Ret prog 236 [.one (.sl 4 l3), .one (I n11)] [.one (I n12)], decide (n12 < 0) = false, Ret prog 237 [.one (.sl 1 l4), .one (I n12)] [.one (I n13)], decide (n13 < 0) = false, Ret prog 238 [.one (.sl 1 l5), .one (I n13)] [.one (I n14)], decide (n14 < 0) = false, Ret prog 238 [.one (.sl 1 l6), .one (I n14)] [.one (I n15)], decide (n15 < 0) = false, Ret prog 239 [.one (.sl 2 l7), .one (I n15)] [.one (I n16)], decide (n16 < 0) = true]) :
  Ret prog 136 [.agg [D.sl 5 l0, D.sl 5 l1, D.sl 5 l2, D.sl 4 l3, D.sl 1 l4, D.sl 1 l5, D.sl 1 l6, D.sl 2 l7], .one (I n8)] [.one (I (-1))] :=
 .of [.res [.one (I n9)], .br false, .res [.one (I n10)], .br false, .res [.one (I n11)], .br false, .res [.one (I n12)], .br false, .res [.one (I n13)], .br false, .res [.one (I n14)], .br false, .res [.one (I n15)], .br false, .res [.one (I n16)], .br true] _ func136 rfl (by kernel_rfl) h
theorem qpo (l0 l1 l2 l3 l4 l5 l6 l7 : List (List D)) (n8 n9 n10 n11 n12 n13 n14 n15 n16 : Int)
  (h : Obs [Ret prog 28 [.one (.sl 5 l0), .one (I n8)] [.one (I n9)], decide (n9 < 0) = false, Ret prog 28 [.one (.sl 5 l1), .one (I n9)] [.one (I n10)], decide (n10 < 0) = false, Ret prog 28 [.one (.sl 5 l2), .one (I n10)] [.one (I n11)], decide (n11 < 0) = false, Ret prog 236 [.one (.sl 4 l3), .one (I n11)] [.one (I n12)], decide (n12 < 0) = false, Ret prog 237 [.one (.sl 1 l4), .one (I n12)] [.one (I n13)], decide (n13 < 0) = false, Ret prog 238 [.one (.sl 1 l5), .one (I n13)] [.one (I n14)], decide (n14 < 0) = false, Ret prog 238 [.one (.sl 1 l6), .one (I n14)] [.one (I n15)], decide (n15 < 0) = false, Ret prog 239 [.one (.sl 2 l7), .one (I n15)] [.one (I n16)], decide (n16 < 0) = false]) :
  Ret prog 136 [.agg [D.sl 5 l0, D.sl 5 l1, D.sl 5 l2, D.sl 4 l3, D.sl 1 l4, D.sl 1 l5, D.sl 1 l6, D.sl 2 l7], .one (I n8)] [.one (I n16)] :=
 .of [.res [.one (I n9)], .br false, .res [.one (I n10)], .br false, .res [.one (I n11)], .br false, .res [.one (I n12)], .br false, .res [.one (I n13)], .br false, .res [.one (I n14)], .br false, .res [.one (I n15)], .br false, .res [.one (I n16)], .br false] _ func136 rfl (by kernel_rfl) h
theorem qpp (l0 : List (List D)) (n1 : Int)
  (h : Obs [inInt .i64 (n1 - (l0.length : Int)), decide (n1 - (l0.length : Int) < 0) = true]) :
  Ret prog 55 [.one (.sl 8 l0), .one (I n1)] [.one (I (-1))] :=
 .of [.br true] _ func55 rfl (by kernel_rfl) h
def qck (l0 : List (List D)) (n1 n2 : Int) : St :=
 { env := envOf 27 [(0, .al (.one (.sl .free 8 l0))), (1, .al (.one (.v (.int .i64 n2)))), (5, .al (.one (.v (.int .i64 n1))))], boxes := [] }
def qiy (n0 : Int) : St :=
 { env := envOf 27 [(4, .al (.one (.v (.int .i64 n0))))], boxes := [] }
theorem qpq (l0 : List (List D)) (n2 n3 : Int) (l4 l5 l6 l7 l8 l9 l10 l11 : List (List D)) (n12 : Int)
  (h : Obs [decide (n2 < (l0.length : Int)) = true, 0 ≤ n2, n2 < (l0.length : Int), l0[n2.toNat]? = some [D.sl 5 l4, D.sl 5 l5, D.sl 5 l6, D.sl 4 l7, D.sl 1 l8, D.sl 1 l9, D.sl 1 l10, D.sl 2 l11], Ret prog 136 [.agg [D.sl 5 l4, D.sl 5 l5, D.sl 5 l6, D.sl 4 l7, D.sl 1 l8, D.sl 1 l9, D.sl 1 l10, D.sl 2 l11], .one (I n3)] [.one (I n12)], decide (n12 < 0) = true]) :
  Tr prog (qaa f55 0) (qck l0 n2 n3) .ret (qiy (-1)) :=
 .of_loopc (ks := [4]) (bs := []) (ans := [.br true, .el [D.sl 5 l4, D.sl 5 l5, D.sl 5 l6, D.sl 4 l7, D.sl 1 l8, D.sl 1 l9, D.sl 1 l10, D.sl 2 l11], .res [.one (I n12)], .br true]) (by kernel_rfl) h
theorem qpr (l0 : List (List D)) (n2 n3 : Int) (l4 l5 l6 l7 l8 l9 l10 l11 : List (List D)) (n12 : Int)
  (h : Obs [decide (n2 < (l0.length : Int)) = true, 0 ≤ n2, n2 < (l0.length : Int), l0[n2.toNat]? = some [D.sl 5 l4, D.sl 5 l5, D.sl 5 l6, D.sl 4 l7, D.sl 1 l8, D.sl 1 l9, D.sl 1 l10, D.sl 2 l11], Ret prog 136 [.agg [D.sl 5 l4, D.sl 5 l5, D.sl 5 l6, D.sl 4 l7, D.sl 1 l8, D.sl 1 l9, D.sl 1 l10, D.sl 2 l11], .one (I n3)] [.one (I n12)], decide (n12 < 0) = false, inInt .i64 (n2 + 1)]) :
  Tr prog (qaa f55 0) (qck l0 n2 n3) .normal (qck l0 (n2 + 1) n12) :=
 .of_loopc (ks := [5, 0, 1]) (bs := []) (ans := [.br true, .el [D.sl 5 l4, D.sl 5 l5, D.sl 5 l6, D.sl 4 l7, D.sl 1 l8, D.sl 1 l9, D.sl 1 l10, D.sl 2 l11], .res [.one (I n12)], .br false]) (by kernel_rfl) h
def qiz (n0 : Int) : St :=
 { env := envOf 27 [(1, .al (.one (.v (.int .i64 n0))))], boxes := [] }
theorem qps (l0 : List (List D)) (n2 n3 : Int)
  (h : Obs [decide (n2 < (l0.length : Int)) = false]) :
  Tr prog (qaa f55 0) (qck l0 n2 n3) (.exit 0) (qiz n3) :=
 .of_loopc (ks := [1]) (bs := []) (ans := [.br false]) (by kernel_rfl) h
theorem qpt (l0 : List (List D)) (n1 n2 : Int)
  (h : Obs [inInt .i64 (n1 - (l0.length : Int)), decide (n1 - (l0.length : Int) < 0) = false, qac prog (qaa f55 0) (qck l0 0 (n1 - (l0.length : Int))) .ret (qiy n2)]) :
  Ret prog 55 [.one (.sl 8 l0), .one (I n1)] [.one (I n2)] :=
 .of [.br false, .loop [] [5, 0, 1] [] .ret (qiy n2)] _ func55 rfl (by kernel_rfl) h
theorem qpu (l0 : List (List D)) (n1 n2 : Int)
  (h : Obs [inInt .i64 (n1 - (l0.length : Int)), decide (n1 - (l0.length : Int) < 0) = false, qac prog (qaa f55 0) (qck l0 0 (n1 - (l0.length : Int))) (.exit 0) (qiz n2)]) :
  Ret prog 55 [.one (.sl 8 l0), .one (I n1)] [.one (I n2)] :=
 .of [.br false, .loop [] [5, 0, 1] [] (.exit 0) (qiz n2)] _ func55 rfl (by kernel_rfl) h
theorem qpv (l0 : List (List D)) (n1 n2 : Int) (l3 l4 l5 l6 : List (List D)) (n7 n8 : Int)
  (h : Obs [Ret prog 54 [.agg [D.sl 4 l0, I n1, I n2], .one (I n7)] [.one (I n8)], decide (n8 < 0) = true]) :
  Ret prog 14 [.agg [D.sl 4 l0, I n1, I n2, D.sl 8 l3, D.sl 6 l4, D.sl 5 l5, D.sl 3 l6], .one (I n7)] [.one (I (-1))] :=
 .of [.res [.one (I n8)], .br true] _ func14 rfl (by kernel_rfl) h
theorem qpw (l0 : List (List D)) (n1 n2 : Int) (l3 l4 l5 l6 : List (List D)) (n7 n8 n9 : Int)
  (h : Obs [Ret prog 54 [.agg [D.sl 4 l0, I n1, I n2], .one (I n7)] [.one (I n8)], decide (n8 < 0) = false, Ret prog 55 [.one (.sl 8 l3), .one (I n8)] [.one (I n9)], decide (n9 < 0) = true]) :
  Ret prog 14 [.agg [D.sl 4 l0, I n1, I n2, D.sl 8 l3, D.sl 6 l4, D.sl 5 l5, D.sl 3 l6], .one (I n7)] [.one (I (-1))] :=
 .of [.res [.one (I n8)], .br false, .res [.one (I n9)], .br true] _ func14 rfl (by kernel_rfl) h
theorem qpx (l0 : List (List D)) (n1 n2 : Int) (l3 l4 l5 l6 : List (List D)) (n7 n8 n9 n10 : Int)
  (h : Obs [Ret prog 54 [.agg [D.sl 4 l0, I n1, I n2], .one (I n7)] [.one (I n8)], decide (n8 < 0) = false, Ret prog 55 [.one (.sl 8 l3), .one (I n8)] [.one (I n9)], decide (n9 < 0) = false, Ret prog 56 [.one (.sl 6 l4), .one (I n9)] [.one (I n10)], decide (n10 < 0) = true]) :
  Ret prog 14 [.agg [D.sl 4 l0, I n1, I n2, D.sl 8 l3, D.sl 6 l4, D.sl 5 l5, D.sl 3 l6], .one (I n7)] [.one (I (-1))] :=
 .of [.res [.one (I n8)], .br false, .res [.one (I n9)], .br false, .res [.one (I n10)], .br true] _ func14 rfl (by kernel_rfl) h
theorem qpy (l0 : List (List D)) (n1 n2 : Int) (l3 l4 l5 l6 : List (List D)) (n7 n8 n9 n10 n11 : Int)
  (h : Obs [Ret prog 54 [.agg [D.sl 4 l0, I n1, I n2], .one (I n7)] [.one (I n8)], decide (n8 < 0) = false, Ret prog 55 [.one (.sl 8 l3), .one (I n8)] [.one (I n9)], decide (n9 < 0) = false, Ret prog 56 [.one (.sl 6 l4), .one (I n9)] [.one (I n10)], decide (n10 < 0) = false, Ret prog 57 [.one (.sl 5 l5), .one (I n10)] [.one (I n11)], decide (n11 < 0) = true]) :
  Ret prog 14 [.agg [D.sl 4 l0, I n1, I n2, D.sl 8 l3, D.sl 6 l4, D.sl 5 l5, D.sl 3 l6], .one (I n7)] [.one (I (-1))] :=
 .of [.res [.one (I n8)], .br false, .res [.one (I n9)], .br false, .res [.one (I n10)], .br false, .res [.one (I n11)], .br true] _ func14 rfl (by kernel_rfl) h
theorem qpz (l0 : List (List D)) (n1 n2 : Int) (l3 l4 l5 l6 : List (List D)) (n7 n8 n9 n10 n11 n12 : Int)
  (h : Obs [Ret prog 54 [.agg [D.sl 4 l0, I n1, I n2], .one (I n7)] [.one (I n8)], decide (n8 < 0) = false, Ret prog 55 [.one (.sl 8 l3), .one (I n8)] [.one (I n9)], decide (n9 < 0) = false, Ret prog 56 [.one (.sl 6 l4), .one (I n9)] [.one (I n10)], decide (n10 < 0) = false, Ret prog 57 [.one (.sl 5 l5), .one (I n10)] [.one (I n11)], decide (n11 < 0) = false, Ret prog 58 [.one (.sl 3 l6), .one (I n11)] [.one (I n12)], decide (n12 < 0) = true]) :
  Ret prog 14 [.agg [D.sl 4 l0, I n1, I n2, D.sl 8 l3, D.sl 6 l4, D.sl 5 l5, D.sl 3 l6], .one (I n7)] [.one (I (-1))] :=
 .of [.res [.one (I n8)], .br false, .res [.one (I n9)], .br false, .res [.one (I n10)], .br false, .res [.one (I n11)], .br false, .res [.one (I n12)], .br true] _ func14 rfl (by kernel_rfl) h
theorem qpA (l0 : List (List D)) (n1 n2 : Int) (l3 l4 l5 l6 : List (List D)) (n7 n8 n9 n10 n11 n12 : Int)
  (h : Obs [Ret prog 54 [.agg [D.sl 4 l0, I n1, I n2], .one (I n7)] [.one (I n8)], decide (n8 < 0) = false, Ret prog 55 [.one (.sl 8 l3), .one (I n8)] [.one (I n9)], decide (n9 < 0) = false, Ret prog 56 [.one (.sl 6 l4), .one (I n9)] [.one (I n10)], decide (n10 < 0) = false, Ret prog 57 [.one (.sl 5 l5), .one (I n10)] [.one (I n11)], decide (n11 < 0) = false, Ret prog 58 [.one (.sl 3 l6), .one (I n11)] [.one (I n12)], decide (n12 < 0) = false]) :
  Ret prog 14 [.agg [D.sl 4 l0, I n1, I n2, D.sl 8 l3, D.sl 6 l4, D.sl 5 l5, D.sl 3 l6], .one (I n7)] [.one (I n12)] :=
 .of [.res [.one (I n8)], .br false, .res [.one (I n9)], .br false, .res [.one (I n10)], .br false, .res [.one (I n11)], .br false, .res [.one (I n12)], .br false] _ func14 rfl (by kernel_rfl) h
end Go.Proofs.YtialmplmfcahpaaGreat
