import Derived.Test.YtialmplmfcahpaaGreatRows
import Derived.Test.YtialmplmfcahpaaGreatR22
set_option linter.unusedVariables false
set_option linter.unusedSimpArgs false
namespace Go.Proofs.YtialmplmfcahpaaGreat
open Go.Sx Go.RowKit
theorem qBT (l0 l1 : List (List D))
  (h : Obs [((↑l0.length : Int) != (↑l1.length : Int)) = true]) :
  Ret Tryz.prog 99 [.one (.sl 4 l0), .one (.sl 4 l1)] [.one (B false)] :=
 .of [.br true] _ Tryz.func99 rfl (by kernel_rfl) h
def qej (l0 l1 : List (List D)) (n2 : Int) : St :=
 { env := envOf 26 [(0, .al (.one (.sl .free 4 l0))), (1, .al (.one (.sl .free 4 l1))), (5, .al (.one (.v (.int .i64 n2))))], boxes := [] }
def qgT (b0 : Bool) : St :=
 { env := envOf 26 [(4, .al (.one (.sb b0)))], boxes := [] }
theorem qBU (l0 l1 : List (List D)) (n2 n3 n4 n5 n6 n7 n8 n9 n10 : Int)
  (h : Obs [decide (n2 < (↑l0.length : Int)) = true, 0 ≤ n2, n2 < (↑l0.length : Int), l0[n2.toNat]? = some [I n3, I n4, I n5, I n6], 0 ≤ n2, n2 < (↑l1.length : Int), l1[n2.toNat]? = some [I n7, I n8, I n9, I n10], (!(n3 == n7 && (n4 == n8 && (n5 == n9 && n6 == n10)))) = true]) :
  Tr Tryz.prog (qaa Tryz.f99 0) (qej l0 l1 n2) .ret (qgT false) :=
 .of_loopc (ks := [4]) (bs := []) (ans := [.br true, .el [I n3, I n4, I n5, I n6], .el [I n7, I n8, I n9, I n10], .br true]) (by kernel_rfl) h
theorem qBV (l0 l1 : List (List D)) (n2 n3 n4 n5 n6 n7 n8 n9 n10 : Int)
  (h : Obs [decide (n2 < (↑l0.length : Int)) = true, 0 ≤ n2, n2 < (↑l0.length : Int), l0[n2.toNat]? = some [I n3, I n4, I n5, I n6], 0 ≤ n2, n2 < (↑l1.length : Int), l1[n2.toNat]? = some [I n7, I n8, I n9, I n10], (!(n3 == n7 && (n4 == n8 && (n5 == n9 && n6 == n10)))) = false, inInt .i64 (n2 + 1)]) :
  Tr Tryz.prog (qaa Tryz.f99 0) (qej l0 l1 n2) .normal (qej l0 l1 (n2 + 1)) :=
 .of_loopc (ks := [5, 0, 1]) (bs := []) (ans := [.br true, .el [I n3, I n4, I n5, I n6], .el [I n7, I n8, I n9, I n10], .br false]) (by kernel_rfl) h
def qjG : St :=
 { env := envOf 26 [], boxes := [] }
theorem qBW (l0 l1 : List (List D)) (n2 : Int)
  (h : Obs [decide (n2 < (↑l0.length : Int)) = false]) :
  Tr Tryz.prog (qaa Tryz.f99 0) (qej l0 l1 n2) (.exit 0) qjG :=
 .of_loopc (ks := []) (bs := []) (ans := [.br false]) (by kernel_rfl) h
theorem qBX (l0 l1 : List (List D)) (b2 : Bool)
  (h : Obs [((↑l0.length : Int) != (↑l1.length : Int)) = false, qac Tryz.prog (qaa Tryz.f99 0) (qej l0 l1 0) .ret (qgT b2)]) :
  Ret Tryz.prog 99 [.one (.sl 4 l0), .one (.sl 4 l1)] [.one (B b2)] :=
 .of [.br false, .loop [] [5, 0, 1] [] .ret (qgT b2)] _ Tryz.func99 rfl (by kernel_rfl) h
theorem qBY (l0 l1 : List (List D))
  (h : Obs [((↑l0.length : Int) != (↑l1.length : Int)) = false, qac Tryz.prog (qaa Tryz.f99 0) (qej l0 l1 0) (.exit 0) qjG]) :
  Ret Tryz.prog 99 [.one (.sl 4 l0), .one (.sl 4 l1)] [.one (B true)] :=
 .of [.br false, .loop [] [5, 0, 1] [] (.exit 0) qjG] _ Tryz.func99 rfl (by kernel_rfl) h
theorem qB5 (l0 l1 : List (List D))
  (h : Obs [((↑l0.length : Int) != (↑l1.length : Int)) = true]) :
  Ret Tryz.prog 198 [.one (.sl 4 l0), .one (.sl 4 l1)] [.one (B false)] :=
 .of [.br true] _ Tryz.func198 rfl (by kernel_rfl) h
def qel (l0 l1 : List (List D)) (n2 : Int) : St :=
 { env := envOf 26 [(0, .al (.one (.sl .free 4 l0))), (1, .al (.one (.sl .free 4 l1))), (12, .al (.one (.v (.int .i64 (↑l0.length : Int))))), (13, .al (.one (.v (.int .i64 n2))))], boxes := [] }
def qgV (b0 : Bool) : St :=
 { env := envOf 26 [(4, .al (.one (.sb b0)))], boxes := [] }
theorem qB6 (l0 l1 : List (List D)) (n2 n3 n4 n5 n6 n7 n8 n9 n10 : Int)
  (h : Obs [decide (n2 < (↑l0.length : Int)) = true, 0 ≤ n2, n2 < (↑l0.length : Int), l0[n2.toNat]? = some [I n3, I n4, I n5, I n6], 0 ≤ n2, n2 < (↑l1.length : Int), l1[n2.toNat]? = some [I n7, I n8, I n9, I n10], (!(n3 == n7 && (n4 == n8 && (n5 == n9 && n6 == n10)))) = true]) :
  Tr Tryz.prog (qaa Tryz.f198 0) (qel l0 l1 n2) .ret (qgV false) :=
 .of_loopc (ks := [4]) (bs := []) (ans := [.br true, .el [I n3, I n4, I n5, I n6], .el [I n7, I n8, I n9, I n10], .br true]) (by kernel_rfl) h
theorem qB7 (l0 l1 : List (List D)) (n2 n3 n4 n5 n6 n7 n8 n9 n10 : Int)
  (h : Obs [decide (n2 < (↑l0.length : Int)) = true, 0 ≤ n2, n2 < (↑l0.length : Int), l0[n2.toNat]? = some [I n3, I n4, I n5, I n6], 0 ≤ n2, n2 < (↑l1.length : Int), l1[n2.toNat]? = some [I n7, I n8, I n9, I n10], (!(n3 == n7 && (n4 == n8 && (n5 == n9 && n6 == n10)))) = false, inInt .i64 (n2 + 1)]) :
  Tr Tryz.prog (qaa Tryz.f198 0) (qel l0 l1 n2) .normal (qel l0 l1 (n2 + 1)) :=
 .of_loopc (ks := [13, 12, 0, 1]) (bs := []) (ans := [.br true, .el [I n3, I n4, I n5, I n6], .el [I n7, I n8, I n9, I n10], .br false]) (by kernel_rfl) h
def qjI : St :=
 { env := envOf 26 [], boxes := [] }
theorem qB8 (l0 l1 : List (List D)) (n2 : Int)
  (h : Obs [decide (n2 < (↑l0.length : Int)) = false]) :
  Tr Tryz.prog (qaa Tryz.f198 0) (qel l0 l1 n2) (.exit 0) qjI :=
 .of_loopc (ks := []) (bs := []) (ans := [.br false]) (by kernel_rfl) h
theorem qB9 (l0 l1 : List (List D)) (b2 : Bool)
  (h : Obs [((↑l0.length : Int) != (↑l1.length : Int)) = false, qac Tryz.prog (qaa Tryz.f198 0) (qel l0 l1 0) .ret (qgV b2)]) :
  Ret Tryz.prog 198 [.one (.sl 4 l0), .one (.sl 4 l1)] [.one (B b2)] :=
 .of [.br false, .loop [] [13, 12, 0, 1] [] .ret (qgV b2)] _ Tryz.func198 rfl (by kernel_rfl) h
theorem qCa (l0 l1 : List (List D))
  (h : Obs [((↑l0.length : Int) != (↑l1.length : Int)) = false, qac Tryz.prog (qaa Tryz.f198 0) (qel l0 l1 0) (.exit 0) qjI]) :
  Ret Tryz.prog 198 [.one (.sl 4 l0), .one (.sl 4 l1)] [.one (B true)] :=
 .of [.br false, .loop [] [13, 12, 0, 1] [] (.exit 0) qjI] _ Tryz.func198 rfl (by kernel_rfl) h
theorem qCe (l0 l1 : List (List D)) (b2 : Bool)
  (h : Obs [Ret Tryz.prog 198 [.one (.sl 4 l0), .one (.sl 4 l1)] [.one (B b2)]]) :
  Ret Tryz.prog 103 [.one (.sl 4 l0), .one (.sl 4 l1)] [.one (B b2)] :=
 .of [.res [.one (B b2)]] _ Tryz.func103 rfl (by kernel_rfl) h
theorem qDo (l0 : List (List D)) (n1 n2 : Int) (l3 : List (List D)) (n4 n5 n6 n7 n8 n9 n10 : Int) (l11 : List (List D)) (b12 : Bool)
  (h : Obs [(([] : List (List D)).length + l3.length) * 32 ≤ 140737488355328, ([] : List (List D)).length + l3.length ≤ 9223372036854775807, Flat l3, Ret Tryz.prog 139 [.agg [D.sl 4 l0, I n1, I n2], .one (I n4)] [.agg [I n8, I n9, I n10, D.sl 1 l11], .one (B b12)], (!b12) = true]) :
  Ret Tryz.prog 273 [.agg [D.sl 4 l0, I n1, I n2], .one (.sl 4 l3), .agg [I n4, I n5, I n6, I n7]] [.one (.sl 4 ([] ++ l3)), .one (.sl 4 [])] :=
 .of [.res [.agg [I n8, I n9, I n10, D.sl 1 l11], .one (B b12)], .br true] _ Tryz.func273 rfl (by kernel_rfl) h
theorem qDp (l0 : List (List D)) (n1 n2 : Int) (l3 : List (List D)) (n4 n5 n6 n7 n8 n9 n10 : Int) (l11 : List (List D)) (b12 b13 : Bool)
  (h : Obs [(([] : List (List D)).length + l3.length) * 32 ≤ 140737488355328, ([] : List (List D)).length + l3.length ≤ 9223372036854775807, Flat l3, Ret Tryz.prog 139 [.agg [D.sl 4 l0, I n1, I n2], .one (I n4)] [.agg [I n8, I n9, I n10, D.sl 1 l11], .one (B b12)], (!b12) = false, Ret Tryz.prog 140 [.agg [D.sl 4 l0, I n1, I n2]] [.one (B b13)], (!b13) = true]) :
  Ret Tryz.prog 273 [.agg [D.sl 4 l0, I n1, I n2], .one (.sl 4 l3), .agg [I n4, I n5, I n6, I n7]] [.one (.sl 4 ([] ++ l3)), .one (.sl 4 [])] :=
 .of [.res [.agg [I n8, I n9, I n10, D.sl 1 l11], .one (B b12)], .br false, .res [.one (B b13)], .br true] _ Tryz.func273 rfl (by kernel_rfl) h
theorem qDq (l0 : List (List D)) (n1 n2 : Int) (l3 : List (List D)) (n4 n5 n6 n7 n8 n9 n10 : Int) (l11 : List (List D)) (b12 b13 b14 : Bool)
  (h : Obs [(([] : List (List D)).length + l3.length) * 32 ≤ 140737488355328, ([] : List (List D)).length + l3.length ≤ 9223372036854775807, Flat l3, Ret Tryz.prog 139 [.agg [D.sl 4 l0, I n1, I n2], .one (I n4)] [.agg [I n8, I n9, I n10, D.sl 1 l11], .one (B b12)], (!b12) = false, Ret Tryz.prog 140 [.agg [D.sl 4 l0, I n1, I n2]] [.one (B b13)], (!b13) = false, Ret Tryz.prog 138 [.one (I n5), .one (I 0), .one (I 3)] [.one (B b14)], (!b14) = true]) :
  Ret Tryz.prog 273 [.agg [D.sl 4 l0, I n1, I n2], .one (.sl 4 l3), .agg [I n4, I n5, I n6, I n7]] [.one (.sl 4 ([] ++ l3)), .one (.sl 4 [])] :=
 .of [.res [.agg [I n8, I n9, I n10, D.sl 1 l11], .one (B b12)], .br false, .res [.one (B b13)], .br false, .res [.one (B b14)], .br true] _ Tryz.func273 rfl (by kernel_rfl) h
theorem qDr (l0 : List (List D)) (n1 n2 : Int) (l3 : List (List D)) (n4 n5 n6 n7 n8 n9 n10 : Int) (l11 : List (List D)) (b12 b13 b14 b15 : Bool)
  (h : Obs [(([] : List (List D)).length + l3.length) * 32 ≤ 140737488355328, ([] : List (List D)).length + l3.length ≤ 9223372036854775807, Flat l3, Ret Tryz.prog 139 [.agg [D.sl 4 l0, I n1, I n2], .one (I n4)] [.agg [I n8, I n9, I n10, D.sl 1 l11], .one (B b12)], (!b12) = false, Ret Tryz.prog 140 [.agg [D.sl 4 l0, I n1, I n2]] [.one (B b13)], (!b13) = false, Ret Tryz.prog 138 [.one (I n5), .one (I 0), .one (I 3)] [.one (B b14)], (!b14) = false, Ret Tryz.prog 138 [.one (I n6), .one (I 0), .one (I 99)] [.one (B b15)], (!b15) = true]) :
  Ret Tryz.prog 273 [.agg [D.sl 4 l0, I n1, I n2], .one (.sl 4 l3), .agg [I n4, I n5, I n6, I n7]] [.one (.sl 4 ([] ++ l3)), .one (.sl 4 [])] :=
 .of [.res [.agg [I n8, I n9, I n10, D.sl 1 l11], .one (B b12)], .br false, .res [.one (B b13)], .br false, .res [.one (B b14)], .br false, .res [.one (B b15)], .br true] _ Tryz.func273 rfl (by kernel_rfl) h
theorem qDs (l0 : List (List D)) (n1 n2 : Int) (l3 : List (List D)) (n4 n5 n6 n7 n8 n9 n10 : Int) (l11 : List (List D)) (b12 b13 b14 b15 b16 : Bool)
  (h : Obs [(([] : List (List D)).length + l3.length) * 32 ≤ 140737488355328, ([] : List (List D)).length + l3.length ≤ 9223372036854775807, Flat l3, Ret Tryz.prog 139 [.agg [D.sl 4 l0, I n1, I n2], .one (I n4)] [.agg [I n8, I n9, I n10, D.sl 1 l11], .one (B b12)], (!b12) = false, Ret Tryz.prog 140 [.agg [D.sl 4 l0, I n1, I n2]] [.one (B b13)], (!b13) = false, Ret Tryz.prog 138 [.one (I n5), .one (I 0), .one (I 3)] [.one (B b14)], (!b14) = false, Ret Tryz.prog 138 [.one (I n6), .one (I 0), .one (I 99)] [.one (B b15)], (!b15) = false, Ret Tryz.prog 138 [.one (I n7), .one (I 0), .one (I 999)] [.one (B b16)], (!b16) = true]) :
  Ret Tryz.prog 273 [.agg [D.sl 4 l0, I n1, I n2], .one (.sl 4 l3), .agg [I n4, I n5, I n6, I n7]] [.one (.sl 4 ([] ++ l3)), .one (.sl 4 [])] :=
 .of [.res [.agg [I n8, I n9, I n10, D.sl 1 l11], .one (B b12)], .br false, .res [.one (B b13)], .br false, .res [.one (B b14)], .br false, .res [.one (B b15)], .br false, .res [.one (B b16)], .br true] _ Tryz.func273 rfl (by kernel_rfl) h
theorem qDt (l0 : List (List D)) (n1 n2 : Int) (l3 : List (List D)) (n4 n5 n6 n7 n8 n9 n10 : Int) (l11 : List (List D)) (b12 b13 b14 b15 b16 : Bool) (l17 : List (List D)) (b18 : Bool)
  (h : Obs [(([] : List (List D)).length + l3.length) * 32 ≤ 140737488355328, ([] : List (List D)).length + l3.length ≤ 9223372036854775807, Flat l3, Ret Tryz.prog 139 [.agg [D.sl 4 l0, I n1, I n2], .one (I n4)] [.agg [I n8, I n9, I n10, D.sl 1 l11], .one (B b12)], (!b12) = false, Ret Tryz.prog 140 [.agg [D.sl 4 l0, I n1, I n2]] [.one (B b13)], (!b13) = false, Ret Tryz.prog 138 [.one (I n5), .one (I 0), .one (I 3)] [.one (B b14)], (!b14) = false, Ret Tryz.prog 138 [.one (I n6), .one (I 0), .one (I 99)] [.one (B b15)], (!b15) = false, Ret Tryz.prog 138 [.one (I n7), .one (I 0), .one (I 999)] [.one (B b16)], (!b16) = false, Ret Tryz.prog 144 [.one (I 5), .one (.sl 4 l3), .agg [I n4, I n5, I n6, I n7]] [.one (.sl 4 l17), .one (B b18)], (!b18) = true]) :
  Ret Tryz.prog 273 [.agg [D.sl 4 l0, I n1, I n2], .one (.sl 4 l3), .agg [I n4, I n5, I n6, I n7]] [.one (.sl 4 ([] ++ l3)), .one (.sl 4 [])] :=
 .of [.res [.agg [I n8, I n9, I n10, D.sl 1 l11], .one (B b12)], .br false, .res [.one (B b13)], .br false, .res [.one (B b14)], .br false, .res [.one (B b15)], .br false, .res [.one (B b16)], .br false, .res [.one (.sl 4 l17), .one (B b18)], .br true] _ Tryz.func273 rfl (by kernel_rfl) h
def qem (n0 n1 n2 n3 n4 n5 n6 : Int) (l7 l8 : List (List D)) (n9 n10 : Int) (b11 : Bool) (n12 : Int) (l13 : List (List D)) : St :=
 { env := envOf 101 [(5, .al (.one (.ptr 5 0))), (9, .al (.one (.sl (.own 21) 4 l13))), (10, .al (.one (.ptr 10 0))), (12, .al (.one (.sl (.own 600000) 4 l8))), (14, .al (.one (.v (.int .i64 n9)))), (15, .al (.one (.v (.int .i64 n10)))), (16, .al (.one (.sb b11))), (17, .al (.one (.v (.int .i64 n12))))], boxes := [(10, [.v (.int .i64 n4), .v (.int .i64 n5), .v (.int .i64 n6), .sl (.own 270003) 1 l7]), (5, [.v (.int .i64 n0), .v (.int .i64 n1), .v (.int .i64 n2), .v (.int .i64 n3)])] }
theorem qDu (n4 n5 n6 n7 n8 n9 n10 : Int) (l11 l17 : List (List D)) (n19 n20 : Int) (b21 : Bool) (n22 : Int) (l23 : List (List D)) (n24 : Int)
  (h : Obs [decide (n22 < (↑l11.length : Int)) = true, b21 = true, 0 ≤ n22, n22 < (↑l11.length : Int), l11[n22.toNat]? = some [I n24], (l23.length + [[I n24, I n5, I n19, I n20]].length) * 32 ≤ 140737488355328, l23.length + [[I n24, I n5, I n19, I n20]].length ≤ 9223372036854775807, Flat [[I n24, I n5, I n19, I n20]], inInt .i64 (n22 + 1)]) :
  Tr Tryz.prog (qaa Tryz.f273 0) (qem n4 n5 n6 n7 n8 n9 n10 l11 l17 n19 n20 b21 n22 l23) .normal (qem n4 n5 n6 n7 n8 n9 n10 l11 l17 n19 n20 b21 (n22 + 1) (l23 ++ [[I n24, I n5, I n19, I n20]])) :=
 .of_loopc (ks := [17, 10, 16, 9, 5, 14, 15, 12]) (bs := [10, 5]) (ans := [.br true, .br true, .el [I n24]]) (by kernel_rfl) h
def qft (l0 l1 : List (List D)) : St :=
 { env := envOf 101 [(9, .al (.one (.sl (.own 21) 4 l1))), (12, .al (.one (.sl (.own 600000) 4 l0)))], boxes := [] }
theorem qDv (n4 n5 n6 n7 n8 n9 n10 : Int) (l11 l17 : List (List D)) (n19 n20 : Int) (b21 : Bool) (n22 : Int) (l23 : List (List D))
  (h : Obs [decide (n22 < (↑l11.length : Int)) = true, b21 = false]) :
  Tr Tryz.prog (qaa Tryz.f273 0) (qem n4 n5 n6 n7 n8 n9 n10 l11 l17 n19 n20 b21 n22 l23) (.exit 0) (qft l17 l23) :=
 .of_loopc (ks := [12, 9]) (bs := []) (ans := [.br true, .br false]) (by kernel_rfl) h
theorem qmI (n4 n5 n6 n7 n8 n9 n10 : Int) (l11 l17 : List (List D)) (n19 n20 : Int) (b21 : Bool) (n22 : Int) (l23 : List (List D))
  (h : Obs [decide (n22 < (↑l11.length : Int)) = false]) :
  Tr Tryz.prog (qaa Tryz.f273 0) (qem n4 n5 n6 n7 n8 n9 n10 l11 l17 n19 n20 b21 n22 l23) (.exit 0) (qft l17 l23) :=
 .of_loopc (ks := [12, 9]) (bs := []) (ans := [.br false]) (by kernel_rfl) h
theorem qDw (l0 : List (List D)) (n1 n2 : Int) (l3 : List (List D)) (n4 n5 n6 n7 n8 n9 n10 : Int) (l11 : List (List D)) (b12 b13 b14 b15 b16 : Bool) (l17 : List (List D)) (b18 : Bool) (n19 n20 : Int) (b21 : Bool) (l22 : List (List D))
  (h : Obs [(([] : List (List D)).length + l3.length) * 32 ≤ 140737488355328, ([] : List (List D)).length + l3.length ≤ 9223372036854775807, Flat l3, Ret Tryz.prog 139 [.agg [D.sl 4 l0, I n1, I n2], .one (I n4)] [.agg [I n8, I n9, I n10, D.sl 1 l11], .one (B b12)], (!b12) = false, Ret Tryz.prog 140 [.agg [D.sl 4 l0, I n1, I n2]] [.one (B b13)], (!b13) = false, Ret Tryz.prog 138 [.one (I n5), .one (I 0), .one (I 3)] [.one (B b14)], (!b14) = false, Ret Tryz.prog 138 [.one (I n6), .one (I 0), .one (I 99)] [.one (B b15)], (!b15) = false, Ret Tryz.prog 138 [.one (I n7), .one (I 0), .one (I 999)] [.one (B b16)], (!b16) = false, Ret Tryz.prog 144 [.one (I 5), .one (.sl 4 l3), .agg [I n4, I n5, I n6, I n7]] [.one (.sl 4 l17), .one (B b18)], (!b18) = false, Ret Tryz.prog 142 [.agg [I n8, I n9, I n10, D.sl 1 l11], .one (I n6), .one (I n7)] [.one (I n19), .one (I n20), .one (B b21)], qac Tryz.prog (qaa Tryz.f273 0) (qem n4 n5 n6 n7 n8 n9 n10 l11 l17 n19 n20 b21 0 []) (.exit 0) (qft l17 l22)]) :
  Ret Tryz.prog 273 [.agg [D.sl 4 l0, I n1, I n2], .one (.sl 4 l3), .agg [I n4, I n5, I n6, I n7]] [.one (.sl 4 l17), .one (.sl 4 l22)] :=
 .of [.res [.agg [I n8, I n9, I n10, D.sl 1 l11], .one (B b12)], .br false, .res [.one (B b13)], .br false, .res [.one (B b14)], .br false, .res [.one (B b15)], .br false, .res [.one (B b16)], .br false, .res [.one (.sl 4 l17), .one (B b18)], .br false, .res [.one (I n19), .one (I n20), .one (B b21)], .loop [] [17, 10, 16, 9, 5, 14, 15, 12] [10, 5] (.exit 0) (qft l17 l22)] _ Tryz.func273 rfl (by kernel_rfl) h
theorem qmJ (l0 : List (List D)) (n1 n2 : Int) (l3 : List (List D)) (n4 n5 n6 n7 : Int) (b8 : Bool) (l9 : List (List D))
  (h : Obs [Ret Tryz.prog 151 [.agg [D.sl 4 l0, I n1, I n2]] [.one (B b8)], (!b8) = true, Ret Tryz.prog 154 [.one (.sl 4 l3)] [.one (.sl 4 l9)]]) :
  Ret Tryz.prog 274 [.agg [D.sl 4 l0, I n1, I n2], .one (.sl 4 l3), .agg [I n4, I n5, I n6, I n7]] [.one (.sl 4 l9), .one (.sl 4 [])] :=
 .of [.res [.one (B b8)], .br true, .res [.one (.sl 4 l9)]] _ Tryz.func274 rfl (by kernel_rfl) h
theorem qDx (l0 : List (List D)) (n1 n2 : Int) (l3 : List (List D)) (n4 n5 n6 n7 : Int) (b8 b9 : Bool) (l10 : List (List D))
  (h : Obs [Ret Tryz.prog 151 [.agg [D.sl 4 l0, I n1, I n2]] [.one (B b8)], (!b8) = false, Ret Tryz.prog 153 [.agg [D.sl 4 l0, I n1, I n2], .one (I n4)] [.one (B b9)], (!b9) = true, Ret Tryz.prog 154 [.one (.sl 4 l3)] [.one (.sl 4 l10)]]) :
  Ret Tryz.prog 274 [.agg [D.sl 4 l0, I n1, I n2], .one (.sl 4 l3), .agg [I n4, I n5, I n6, I n7]] [.one (.sl 4 l10), .one (.sl 4 [])] :=
 .of [.res [.one (B b8)], .br false, .res [.one (B b9)], .br true, .res [.one (.sl 4 l10)]] _ Tryz.func274 rfl (by kernel_rfl) h
theorem qDy (l0 : List (List D)) (n1 n2 : Int) (l3 : List (List D)) (n4 n5 n6 n7 : Int) (b8 b9 b10 : Bool) (l11 : List (List D))
  (h : Obs [Ret Tryz.prog 151 [.agg [D.sl 4 l0, I n1, I n2]] [.one (B b8)], (!b8) = false, Ret Tryz.prog 153 [.agg [D.sl 4 l0, I n1, I n2], .one (I n4)] [.one (B b9)], (!b9) = false, Ret Tryz.prog 119 [.one (I n5), .one (I 0), .one (I 3)] [.one (B b10)], (!b10) = true, Ret Tryz.prog 154 [.one (.sl 4 l3)] [.one (.sl 4 l11)]]) :
  Ret Tryz.prog 274 [.agg [D.sl 4 l0, I n1, I n2], .one (.sl 4 l3), .agg [I n4, I n5, I n6, I n7]] [.one (.sl 4 l11), .one (.sl 4 [])] :=
 .of [.res [.one (B b8)], .br false, .res [.one (B b9)], .br false, .res [.one (B b10)], .br true, .res [.one (.sl 4 l11)]] _ Tryz.func274 rfl (by kernel_rfl) h
theorem qDz (l0 : List (List D)) (n1 n2 : Int) (l3 : List (List D)) (n4 n5 n6 n7 : Int) (b8 b9 b10 b11 : Bool) (l12 : List (List D))
  (h : Obs [Ret Tryz.prog 151 [.agg [D.sl 4 l0, I n1, I n2]] [.one (B b8)], (!b8) = false, Ret Tryz.prog 153 [.agg [D.sl 4 l0, I n1, I n2], .one (I n4)] [.one (B b9)], (!b9) = false, Ret Tryz.prog 119 [.one (I n5), .one (I 0), .one (I 3)] [.one (B b10)], (!b10) = false, Ret Tryz.prog 253 [.one (I n6), .one (I n7)] [.one (B b11)], (!b11) = true, Ret Tryz.prog 154 [.one (.sl 4 l3)] [.one (.sl 4 l12)]]) :
  Ret Tryz.prog 274 [.agg [D.sl 4 l0, I n1, I n2], .one (.sl 4 l3), .agg [I n4, I n5, I n6, I n7]] [.one (.sl 4 l12), .one (.sl 4 [])] :=
 .of [.res [.one (B b8)], .br false, .res [.one (B b9)], .br false, .res [.one (B b10)], .br false, .res [.one (B b11)], .br true, .res [.one (.sl 4 l12)]] _ Tryz.func274 rfl (by kernel_rfl) h
theorem qDA (l0 : List (List D)) (n1 n2 : Int) (l3 : List (List D)) (n4 n5 n6 n7 : Int) (b8 b9 b10 b11 : Bool) (l12 : List (List D)) (b13 : Bool) (n14 n15 n16 : Int) (l17 : List (List D)) (n18 n19 : Int) (b20 : Bool)
  (h : Obs [Ret Tryz.prog 151 [.agg [D.sl 4 l0, I n1, I n2]] [.one (B b8)], (!b8) = false, Ret Tryz.prog 153 [.agg [D.sl 4 l0, I n1, I n2], .one (I n4)] [.one (B b9)], (!b9) = false, Ret Tryz.prog 119 [.one (I n5), .one (I 0), .one (I 3)] [.one (B b10)], (!b10) = false, Ret Tryz.prog 253 [.one (I n6), .one (I n7)] [.one (B b11)], (!b11) = false, Ret Tryz.prog 254 [.one (.sl 4 l3), .agg [I n4, I n5, I n6, I n7]] [.one (.sl 4 l12), .one (B b13)], 0 ≤ n4, n4 < (↑l0.length : Int), l0[n4.toNat]? = some [I n14, I n15, I n16, D.sl 1 l17], Ret Tryz.prog 155 [.agg [I n14, I n15, I n16, D.sl 1 l17], .one (I n6), .one (I n7)] [.one (I n18), .one (I n19), .one (B b20)], (!b13) = true]) :
  Ret Tryz.prog 274 [.agg [D.sl 4 l0, I n1, I n2], .one (.sl 4 l3), .agg [I n4, I n5, I n6, I n7]] [.one (.sl 4 l12), .one (.sl 4 [])] :=
 .of [.res [.one (B b8)], .br false, .res [.one (B b9)], .br false, .res [.one (B b10)], .br false, .res [.one (B b11)], .br false, .res [.one (.sl 4 l12), .one (B b13)], .el [I n14, I n15, I n16, D.sl 1 l17], .res [.one (I n18), .one (I n19), .one (B b20)], .br true] _ Tryz.func274 rfl (by kernel_rfl) h
theorem qDB (l0 : List (List D)) (n1 n2 : Int) (l3 : List (List D)) (n4 n5 n6 n7 : Int) (b8 b9 b10 b11 : Bool) (l12 : List (List D)) (b13 : Bool) (n14 n15 n16 : Int) (l17 : List (List D)) (n18 n19 : Int) (b20 : Bool)
  (h : Obs [Ret Tryz.prog 151 [.agg [D.sl 4 l0, I n1, I n2]] [.one (B b8)], (!b8) = false, Ret Tryz.prog 153 [.agg [D.sl 4 l0, I n1, I n2], .one (I n4)] [.one (B b9)], (!b9) = false, Ret Tryz.prog 119 [.one (I n5), .one (I 0), .one (I 3)] [.one (B b10)], (!b10) = false, Ret Tryz.prog 253 [.one (I n6), .one (I n7)] [.one (B b11)], (!b11) = false, Ret Tryz.prog 254 [.one (.sl 4 l3), .agg [I n4, I n5, I n6, I n7]] [.one (.sl 4 l12), .one (B b13)], 0 ≤ n4, n4 < (↑l0.length : Int), l0[n4.toNat]? = some [I n14, I n15, I n16, D.sl 1 l17], Ret Tryz.prog 155 [.agg [I n14, I n15, I n16, D.sl 1 l17], .one (I n6), .one (I n7)] [.one (I n18), .one (I n19), .one (B b20)], (!b13) = false, (!b20) = true]) :
  Ret Tryz.prog 274 [.agg [D.sl 4 l0, I n1, I n2], .one (.sl 4 l3), .agg [I n4, I n5, I n6, I n7]] [.one (.sl 4 l12), .one (.sl 4 [])] :=
 .of [.res [.one (B b8)], .br false, .res [.one (B b9)], .br false, .res [.one (B b10)], .br false, .res [.one (B b11)], .br false, .res [.one (.sl 4 l12), .one (B b13)], .el [I n14, I n15, I n16, D.sl 1 l17], .res [.one (I n18), .one (I n19), .one (B b20)], .br false, .br true] _ Tryz.func274 rfl (by kernel_rfl) h
def qeV (n0 n1 n2 n3 : Int) (l4 : List (List D)) (n5 n6 : Int) (l7 : List (List D)) (n8 : Int) (l9 : List (List D)) : St :=
 { env := envOf 94 [(5, .al (.one (.ptr 5 0))), (8, .al (.one (.sl (.own 460000) 4 l4))), (10, .al (.one (.v (.int .i64 n5)))), (11, .al (.one (.v (.int .i64 n6)))), (13, .al (.one (.sl (.own 90) 4 l9))), (76, .al (.one (.sl .free 1 l7))), (77, .al (.one (.v (.int .i64 (↑l7.length : Int))))), (78, .al (.one (.v (.int .i64 n8))))], boxes := [(5, [.v (.int .i64 n0), .v (.int .i64 n1), .v (.int .i64 n2), .v (.int .i64 n3)])] }
theorem qDC (n4 n5 n6 n7 : Int) (l12 : List (List D)) (n18 n19 : Int) (l24 : List (List D)) (n25 : Int) (l26 : List (List D)) (n27 : Int)
  (h : Obs [decide (n25 < (↑l24.length : Int)) = true, 0 ≤ n25, n25 < (↑l24.length : Int), l24[n25.toNat]? = some [I n27], (l26.length + [[I n27, I n5, I n18, I n19]].length) * 32 ≤ 140737488355328, l26.length + [[I n27, I n5, I n18, I n19]].length ≤ 9223372036854775807, Flat [[I n27, I n5, I n18, I n19]], inInt .i64 (n25 + 1)]) :
  Tr Tryz.prog (qaa Tryz.f274 0) (qeV n4 n5 n6 n7 l12 n18 n19 l24 n25 l26) .normal (qeV n4 n5 n6 n7 l12 n18 n19 l24 (n25 + 1) (l26 ++ [[I n27, I n5, I n18, I n19]])) :=
 .of_loopc (ks := [78, 77, 76, 13, 5, 10, 11, 8]) (bs := [5]) (ans := [.br true, .el [I n27]]) (by kernel_rfl) h
def qgW (l0 l1 : List (List D)) : St :=
 { env := envOf 94 [(8, .al (.one (.sl (.own 460000) 4 l0))), (13, .al (.one (.sl (.own 90) 4 l1)))], boxes := [] }
theorem qDD (n4 n5 n6 n7 : Int) (l12 : List (List D)) (n18 n19 : Int) (l24 : List (List D)) (n25 : Int) (l26 : List (List D))
  (h : Obs [decide (n25 < (↑l24.length : Int)) = false]) :
  Tr Tryz.prog (qaa Tryz.f274 0) (qeV n4 n5 n6 n7 l12 n18 n19 l24 n25 l26) (.exit 0) (qgW l12 l26) :=
 .of_loopc (ks := [8, 13]) (bs := []) (ans := [.br false]) (by kernel_rfl) h
theorem qDE (l0 : List (List D)) (n1 n2 : Int) (l3 : List (List D)) (n4 n5 n6 n7 : Int) (b8 b9 b10 b11 : Bool) (l12 : List (List D)) (b13 : Bool) (n14 n15 n16 : Int) (l17 : List (List D)) (n18 n19 : Int) (b20 : Bool) (n21 n22 n23 : Int) (l24 l25 : List (List D))
  (h : Obs [Ret Tryz.prog 151 [.agg [D.sl 4 l0, I n1, I n2]] [.one (B b8)], (!b8) = false, Ret Tryz.prog 153 [.agg [D.sl 4 l0, I n1, I n2], .one (I n4)] [.one (B b9)], (!b9) = false, Ret Tryz.prog 119 [.one (I n5), .one (I 0), .one (I 3)] [.one (B b10)], (!b10) = false, Ret Tryz.prog 253 [.one (I n6), .one (I n7)] [.one (B b11)], (!b11) = false, Ret Tryz.prog 254 [.one (.sl 4 l3), .agg [I n4, I n5, I n6, I n7]] [.one (.sl 4 l12), .one (B b13)], 0 ≤ n4, n4 < (↑l0.length : Int), l0[n4.toNat]? = some [I n14, I n15, I n16, D.sl 1 l17], Ret Tryz.prog 155 [.agg [I n14, I n15, I n16, D.sl 1 l17], .one (I n6), .one (I n7)] [.one (I n18), .one (I n19), .one (B b20)], (!b13) = false, (!b20) = false, 0 ≤ n4, n4 < (↑l0.length : Int), l0[n4.toNat]? = some [I n21, I n22, I n23, D.sl 1 l24], qac Tryz.prog (qaa Tryz.f274 0) (qeV n4 n5 n6 n7 l12 n18 n19 l24 0 []) (.exit 0) (qgW l12 l25)]) :
  Ret Tryz.prog 274 [.agg [D.sl 4 l0, I n1, I n2], .one (.sl 4 l3), .agg [I n4, I n5, I n6, I n7]] [.one (.sl 4 l12), .one (.sl 4 l25)] :=
 .of [.res [.one (B b8)], .br false, .res [.one (B b9)], .br false, .res [.one (B b10)], .br false, .res [.one (B b11)], .br false, .res [.one (.sl 4 l12), .one (B b13)], .el [I n14, I n15, I n16, D.sl 1 l17], .res [.one (I n18), .one (I n19), .one (B b20)], .br false, .br false, .el [I n21, I n22, I n23, D.sl 1 l24], .loop [(13, 90, 4)] [78, 77, 76, 13, 5, 10, 11, 8] [5] (.exit 0) (qgW l12 l25)] _ Tryz.func274 rfl (by kernel_rfl) h
def qcJ (n0 : Int) (l1 : List (List D)) (n2 : Int) (l3 l4 : List (List D)) (n5 n6 : Int) : St :=
 { env := envOf 63 [(1, .al (.one (.v (.int .i64 n0)))), (2, .al (.one (.sl .free 5 l1))), (3, .al (.one (.ptr 3 0))), (7, .al (.one (.sl (.own 13) 4 []))), (8, .al (.one (.sl (.own 14) 4 l3))), (9, .al (.one (.v (.int .i64 n2))))], boxes := [(3, [.sl .free 4 l4, .v (.int .i64 n5), .v (.int .i64 n6)])] }
theorem qDF (n3 : Int) (l4 : List (List D)) (n5 : Int) (l6 l7 : List (List D)) (n8 n9 n10 n11 n12 n13 n14 : Int) (b15 : Bool)
  (h : Obs [decide (n5 < (↑l4.length : Int)) = true, 0 ≤ n5, n5 < (↑l4.length : Int), l4[n5.toNat]? = some [I n10, I n11, I n12, I n13, I n14], (n11 == n3) = true, Ret Tryz.prog 141 [.agg [I n10, I n11, I n12, I n13, I n14]] [.one (B b15)], b15 = true, (l6.length + [[I 0, I n3, I n13, I n14]].length) * 32 ≤ 140737488355328, l6.length + [[I 0, I n3, I n13, I n14]].length ≤ 9223372036854775807, Flat [[I 0, I n3, I n13, I n14]], inInt .i64 (n5 + 1)]) :
  Tr Tryz.prog (qaa Tryz.f196 0) (qcJ n3 l4 n5 l6 l7 n8 n9) .normal (qcJ n3 l4 (n5 + 1) (l6 ++ [[I 0, I n3, I n13, I n14]]) l7 n8 n9) :=
 .of_loopc (ks := [9, 2, 1, 8, 3, 7]) (bs := [3]) (ans := [.br true, .el [I n10, I n11, I n12, I n13, I n14], .br true, .res [.one (B b15)], .br true]) (by kernel_rfl) h
theorem qDG (n3 : Int) (l4 : List (List D)) (n5 : Int) (l6 l7 : List (List D)) (n8 n9 n10 n11 n12 n13 n14 : Int) (b15 : Bool)
  (h : Obs [decide (n5 < (↑l4.length : Int)) = true, 0 ≤ n5, n5 < (↑l4.length : Int), l4[n5.toNat]? = some [I n10, I n11, I n12, I n13, I n14], (n11 == n3) = true, Ret Tryz.prog 141 [.agg [I n10, I n11, I n12, I n13, I n14]] [.one (B b15)], b15 = false, inInt .i64 (n5 + 1)]) :
  Tr Tryz.prog (qaa Tryz.f196 0) (qcJ n3 l4 n5 l6 l7 n8 n9) .normal (qcJ n3 l4 (n5 + 1) l6 l7 n8 n9) :=
 .of_loopc (ks := [9, 2, 1, 8, 3, 7]) (bs := [3]) (ans := [.br true, .el [I n10, I n11, I n12, I n13, I n14], .br true, .res [.one (B b15)], .br false]) (by kernel_rfl) h
theorem qDH (n3 : Int) (l4 : List (List D)) (n5 : Int) (l6 l7 : List (List D)) (n8 n9 n10 n11 n12 n13 n14 : Int)
  (h : Obs [decide (n5 < (↑l4.length : Int)) = true, 0 ≤ n5, n5 < (↑l4.length : Int), l4[n5.toNat]? = some [I n10, I n11, I n12, I n13, I n14], (n11 == n3) = false, inInt .i64 (n5 + 1)]) :
  Tr Tryz.prog (qaa Tryz.f196 0) (qcJ n3 l4 n5 l6 l7 n8 n9) .normal (qcJ n3 l4 (n5 + 1) l6 l7 n8 n9) :=
 .of_loopc (ks := [9, 2, 1, 8, 3, 7]) (bs := [3]) (ans := [.br true, .el [I n10, I n11, I n12, I n13, I n14], .br false]) (by kernel_rfl) h
def qgX (l0 l1 : List (List D)) (n2 n3 : Int) : St :=
 { env := envOf 63 [(3, .al (.one (.ptr 3 0))), (7, .al (.one (.sl (.own 13) 4 []))), (8, .al (.one (.sl (.own 14) 4 l0)))], boxes := [(3, [.sl .free 4 l1, .v (.int .i64 n2), .v (.int .i64 n3)])] }
theorem qDI (n3 : Int) (l4 : List (List D)) (n5 : Int) (l6 l7 : List (List D)) (n8 n9 : Int)
  (h : Obs [decide (n5 < (↑l4.length : Int)) = false]) :
  Tr Tryz.prog (qaa Tryz.f196 0) (qcJ n3 l4 n5 l6 l7 n8 n9) (.exit 0) (qgX l6 l7 n8 n9) :=
 .of_loopc (ks := [8, 3, 7]) (bs := [3]) (ans := [.br false]) (by kernel_rfl) h
def qeW (l0 : List (List D)) (n1 n2 : Int) (l3 l4 : List (List D)) : St :=
 { env := envOf 63 [(3, .al (.one (.ptr 3 0))), (7, .al (.one (.sl (.own 7) 4 l4))), (8, .al (.one (.sl (.own 8) 4 l3)))], boxes := [(3, [.sl .free 4 l0, .v (.int .i64 n1), .v (.int .i64 n2)])] }
theorem qDJ (l6 : List (List D)) (n7 n8 : Int) (l9 l10 : List (List D)) (n11 n12 n13 n14 : Int) (l15 l16 : List (List D))
  (h : Obs [decide ((↑l9.length : Int) > 0) = true, (0 : Int) ≤ 0, 0 < (↑l9.length : Int), l9[0]? = some [I n11, I n12, I n13, I n14], Ret Tryz.prog 273 [.agg [D.sl 4 l6, I n7, I n8], .one (.sl 4 l10), .agg [I n11, I n12, I n13, I n14]] [.one (.sl 4 l15), .one (.sl 4 l16)], (0 : Int) ≤ (some 1).getD 0, (some 1).getD 0 ≤ none.getD (↑l9.length : Int), none.getD (↑l9.length : Int) ≤ (↑l9.length : Int), (([] : List (List D)).length + (List.take (l9.length - 1) (List.drop 1 l9)).length) * 32 ≤ 140737488355328, ([] : List (List D)).length + (List.take (l9.length - 1) (List.drop 1 l9)).length ≤ 9223372036854775807, Flat (List.take (l9.length - 1) (List.drop 1 l9)), (([] ++ List.take (l9.length - 1) (List.drop 1 l9)).length + l16.length) * 32 ≤ 140737488355328, ([] ++ List.take (l9.length - 1) (List.drop 1 l9)).length + l16.length ≤ 9223372036854775807, Flat l16]) :
  Tr Tryz.prog (qaa Tryz.f196 1) (qeW l6 n7 n8 l9 l10) .normal (qeW l6 n7 n8 ([] ++ List.take (l9.length - 1) (List.drop 1 l9) ++ l16) l15) :=
 .of_loopr (ns := [(7, 7, 4), (8, 8, 4)]) (ks := [8, 3, 7]) (bs := [3]) (ans := [.br true, .el [I n11, I n12, I n13, I n14], .res [.one (.sl 4 l15), .one (.sl 4 l16)]]) (by kernel_rfl) h
def qgY (l0 : List (List D)) : St :=
 { env := envOf 63 [(7, .al (.one (.sl (.own 7) 4 l0)))], boxes := [] }
theorem qmK (l6 : List (List D)) (n7 n8 : Int) (l9 l10 : List (List D))
  (h : Obs [decide ((↑l9.length : Int) > 0) = false]) :
  Tr Tryz.prog (qaa Tryz.f196 1) (qeW l6 n7 n8 l9 l10) (.exit 2) (qgY l10) :=
 .of_loopc (ks := [7]) (bs := []) (ans := [.br false]) (by kernel_rfl) h
theorem qDK (l0 : List (List D)) (n1 n2 n3 : Int) (l4 l5 l6 : List (List D)) (n7 n8 : Int) (l9 : List (List D))
  (h : Obs [qac Tryz.prog (qaa Tryz.f196 0) (qcJ n3 l4 0 [] l0 n1 n2) (.exit 0) (qgX l5 l6 n7 n8), qac Tryz.prog (qaa Tryz.f196 1) (qeW l6 n7 n8 l5 []) (.exit 2) (qgY l9)]) :
  Ret Tryz.prog 196 [.agg [D.sl 4 l0, I n1, I n2], .one (I n3), .one (.sl 5 l4)] [.one (.sl 4 l9)] :=
 .of [.loop [] [9, 2, 1, 8, 3, 7] [3] (.exit 0) (qgX l5 l6 n7 n8), .loop [(7, 7, 4), (8, 8, 4)] [8, 3, 7] [3] (.exit 2) (qgY l9)] _ Tryz.func196 rfl (by kernel_rfl) h
def qdg (n0 : Int) (l1 : List (List D)) (n2 : Int) (l3 l4 : List (List D)) (n5 n6 : Int) : St :=
 { env := envOf 51 [(1, .al (.one (.v (.int .i64 n0)))), (3, .al (.one (.ptr 3 0))), (7, .al (.one (.v (Value.slice none 0 0)))), (8, .al (.one (.sl (.own 31) 4 l3))), (15, .al (.one (.sl (.own 160000) 5 l1))), (16, .al (.one (.v (.int .i64 (↑l1.length : Int))))), (17, .al (.one (.v (.int .i64 n2))))], boxes := [(3, [.sl .free 4 l4, .v (.int .i64 n5), .v (.int .i64 n6)])] }
theorem qDL (n3 : Int) (l5 : List (List D)) (n6 : Int) (l7 l8 : List (List D)) (n9 n10 n11 n12 n13 n14 n15 : Int) (b16 : Bool)
  (h : Obs [decide (n6 < (↑l5.length : Int)) = true, 0 ≤ n6, n6 < (↑l5.length : Int), l5[n6.toNat]? = some [I n11, I n12, I n13, I n14, I n15], Ret Tryz.prog 152 [.agg [I n11, I n12, I n13, I n14, I n15]] [.one (B b16)], b16 = true, (l7.length + [[I 0, I n3, I n14, I n15]].length) * 32 ≤ 140737488355328, l7.length + [[I 0, I n3, I n14, I n15]].length ≤ 9223372036854775807, Flat [[I 0, I n3, I n14, I n15]], inInt .i64 (n6 + 1)]) :
  Tr Tryz.prog (qaa Tryz.f201 0) (qdg n3 l5 n6 l7 l8 n9 n10) .normal (qdg n3 l5 (n6 + 1) (l7 ++ [[I 0, I n3, I n14, I n15]]) l8 n9 n10) :=
 .of_loopc (ks := [17, 16, 15, 8, 1, 3, 7]) (bs := [3]) (ans := [.br true, .el [I n11, I n12, I n13, I n14, I n15], .res [.one (B b16)], .br true]) (by kernel_rfl) h
theorem qDM (n3 : Int) (l5 : List (List D)) (n6 : Int) (l7 l8 : List (List D)) (n9 n10 n11 n12 n13 n14 n15 : Int) (b16 : Bool)
  (h : Obs [decide (n6 < (↑l5.length : Int)) = true, 0 ≤ n6, n6 < (↑l5.length : Int), l5[n6.toNat]? = some [I n11, I n12, I n13, I n14, I n15], Ret Tryz.prog 152 [.agg [I n11, I n12, I n13, I n14, I n15]] [.one (B b16)], b16 = false, inInt .i64 (n6 + 1)]) :
  Tr Tryz.prog (qaa Tryz.f201 0) (qdg n3 l5 n6 l7 l8 n9 n10) .normal (qdg n3 l5 (n6 + 1) l7 l8 n9 n10) :=
 .of_loopc (ks := [17, 16, 15, 8, 1, 3, 7]) (bs := [3]) (ans := [.br true, .el [I n11, I n12, I n13, I n14, I n15], .res [.one (B b16)], .br false]) (by kernel_rfl) h
def qgZ (l0 l1 : List (List D)) (n2 n3 : Int) : St :=
 { env := envOf 51 [(3, .al (.one (.ptr 3 0))), (7, .al (.one (.v (Value.slice none 0 0)))), (8, .al (.one (.sl (.own 31) 4 l0)))], boxes := [(3, [.sl .free 4 l1, .v (.int .i64 n2), .v (.int .i64 n3)])] }
theorem qDN (n3 : Int) (l5 : List (List D)) (n6 : Int) (l7 l8 : List (List D)) (n9 n10 : Int)
  (h : Obs [decide (n6 < (↑l5.length : Int)) = false]) :
  Tr Tryz.prog (qaa Tryz.f201 0) (qdg n3 l5 n6 l7 l8 n9 n10) (.exit 0) (qgZ l7 l8 n9 n10) :=
 .of_loopc (ks := [8, 3, 7]) (bs := [3]) (ans := [.br false]) (by kernel_rfl) h
def qeX (l0 : List (List D)) (n1 n2 : Int) (l3 l4 : List (List D)) : St :=
 { env := envOf 51 [(3, .al (.one (.ptr 3 0))), (7, .al (.one (.sl (.own 430000) 4 l4))), (8, .al (.one (.sl (.own 31) 4 l3)))], boxes := [(3, [.sl .free 4 l0, .v (.int .i64 n1), .v (.int .i64 n2)])] }
theorem qDO (l7 : List (List D)) (n8 n9 : Int) (l10 l11 : List (List D)) (n12 n13 n14 n15 : Int) (l16 l17 : List (List D))
  (h : Obs [decide ((↑l10.length : Int) > 0) = true, (0 : Int) ≤ 0, 0 < (↑l10.length : Int), l10[0]? = some [I n12, I n13, I n14, I n15], Ret Tryz.prog 274 [.agg [D.sl 4 l7, I n8, I n9], .one (.sl 4 l11), .agg [I n12, I n13, I n14, I n15]] [.one (.sl 4 l16), .one (.sl 4 l17)], (0 : Int) ≤ (some 1).getD 0, (some 1).getD 0 ≤ none.getD (↑l10.length : Int), none.getD (↑l10.length : Int) ≤ (↑l10.length : Int), ((List.take (l10.length - 1) (List.drop 1 l10)).length + l17.length) * 32 ≤ 140737488355328, (List.take (l10.length - 1) (List.drop 1 l10)).length + l17.length ≤ 9223372036854775807, Flat l17]) :
  Tr Tryz.prog (qaa Tryz.f201 1) (qeX l7 n8 n9 l10 l11) .normal (qeX l7 n8 n9 (List.take (l10.length - 1) (List.drop 1 l10) ++ l17) l16) :=
 .of_loopc (ks := [8, 3, 7]) (bs := [3]) (ans := [.br true, .el [I n12, I n13, I n14, I n15], .res [.one (.sl 4 l16), .one (.sl 4 l17)], .own]) (by kernel_rfl) h
def qg0 (l0 : List (List D)) : St :=
 { env := envOf 51 [(7, .al (.one (.sl (.own 430000) 4 l0)))], boxes := [] }
theorem qmL (l7 : List (List D)) (n8 n9 : Int) (l10 l11 : List (List D))
  (h : Obs [decide ((↑l10.length : Int) > 0) = false]) :
  Tr Tryz.prog (qaa Tryz.f201 1) (qeX l7 n8 n9 l10 l11) (.exit 2) (qg0 l11) :=
 .of_loopc (ks := [7]) (bs := []) (ans := [.br false]) (by kernel_rfl) h
theorem qDP (l0 : List (List D)) (n1 n2 n3 : Int) (l4 l5 l6 l7 : List (List D)) (n8 n9 : Int) (l10 : List (List D))
  (h : Obs [Ret Tryz.prog 272 [.one (.sl 5 l4), .one (I n3)] [.one (.sl 5 l5)], qac Tryz.prog (qaa Tryz.f201 0) (qdg n3 l5 0 [] l0 n1 n2) (.exit 0) (qgZ l6 l7 n8 n9), qac Tryz.prog (qaa Tryz.f201 1) (qeX l7 n8 n9 l6 []) (.exit 2) (qg0 l10)]) :
  Ret Tryz.prog 201 [.agg [D.sl 4 l0, I n1, I n2], .one (I n3), .one (.sl 5 l4)] [.one (.sl 4 l10)] :=
 .of [.res [.one (.sl 5 l5)], .loop [(8, 31, 4)] [17, 16, 15, 8, 1, 3, 7] [3] (.exit 0) (qgZ l6 l7 n8 n9), .loop [(7, 430000, 4)] [8, 3, 7] [3] (.exit 2) (qg0 l10)] _ Tryz.func201 rfl (by kernel_rfl) h
theorem qDQ (l0 : List (List D)) (n1 n2 n3 : Int) (l4 l5 l6 : List (List D))
  (h : Obs [Ret Tryz.prog 196 [.agg [D.sl 4 l0, I n1, I n2], .one (I n3), .one (.sl 5 l4)] [.one (.sl 4 l5)], Ret Tryz.prog 194 [.agg [D.sl 4 l0, I n1, I n2], .one (.sl 4 l5)] [.one (.sl 4 l6)]]) :
  Ret Tryz.prog 101 [.agg [D.sl 4 l0, I n1, I n2], .one (I n3), .one (.sl 5 l4)] [.one (.sl 4 l6)] :=
 .of [.res [.one (.sl 4 l5)], .res [.one (.sl 4 l6)]] _ Tryz.func101 rfl (by kernel_rfl) h
theorem qDR (l0 : List (List D)) (n1 n2 n3 : Int) (l4 l5 l6 : List (List D))
  (h : Obs [Ret Tryz.prog 201 [.agg [D.sl 4 l0, I n1, I n2], .one (I n3), .one (.sl 5 l4)] [.one (.sl 4 l5)], Ret Tryz.prog 199 [.agg [D.sl 4 l0, I n1, I n2], .one (.sl 4 l5)] [.one (.sl 4 l6)]]) :
  Ret Tryz.prog 105 [.agg [D.sl 4 l0, I n1, I n2], .one (I n3), .one (.sl 5 l4)] [.one (.sl 4 l6)] :=
 .of [.res [.one (.sl 4 l5)], .res [.one (.sl 4 l6)]] _ Tryz.func105 rfl (by kernel_rfl) h
theorem qDS (l0 : List (List D)) (n1 n2 : Int) (l3 l4 l5 l6 l7 : List (List D)) (n8 : Int) (l9 l10 : List (List D)) (b11 : Bool)
  (h : Obs [Ret Tryz.prog 100 [.agg [D.sl 4 l0, I n1, I n2, D.sl 8 l3, D.sl 6 l4, D.sl 5 l5, D.sl 3 l6], .one (I n8)] [.one (.sl 4 l9)], Ret Tryz.prog 101 [.agg [D.sl 4 l0, I n1, I n2], .one (I n8), .one (.sl 5 l7)] [.one (.sl 4 l10)], Ret Tryz.prog 99 [.one (.sl 4 l9), .one (.sl 4 l10)] [.one (B b11)]]) :
  Ret Tryz.prog 29 [.agg [D.sl 4 l0, I n1, I n2, D.sl 8 l3, D.sl 6 l4, D.sl 5 l5, D.sl 3 l6], .one (.sl 5 l7), .one (I n8)] [.one (B b11)] :=
 .of [.res [.one (.sl 4 l9)], .res [.one (.sl 4 l10)], .res [.one (B b11)]] _ Tryz.func29 rfl (by kernel_rfl) h
theorem qDT (l0 : List (List D)) (n1 n2 : Int) (l3 l4 l5 l6 l7 : List (List D)) (n8 : Int) (l9 l10 : List (List D)) (b11 : Bool)
  (h : Obs [Ret Tryz.prog 104 [.agg [D.sl 4 l0, I n1, I n2, D.sl 8 l3, D.sl 6 l4, D.sl 5 l5, D.sl 3 l6], .one (I n8)] [.one (.sl 4 l9)], Ret Tryz.prog 105 [.agg [D.sl 4 l0, I n1, I n2], .one (I n8), .one (.sl 5 l7)] [.one (.sl 4 l10)], Ret Tryz.prog 103 [.one (.sl 4 l9), .one (.sl 4 l10)] [.one (B b11)]]) :
  Ret Tryz.prog 31 [.agg [D.sl 4 l0, I n1, I n2, D.sl 8 l3, D.sl 6 l4, D.sl 5 l5, D.sl 3 l6], .one (.sl 5 l7), .one (I n8)] [.one (B b11)] :=
 .of [.res [.one (.sl 4 l9)], .res [.one (.sl 4 l10)], .res [.one (B b11)]] _ Tryz.func31 rfl (by kernel_rfl) h
end Go.Proofs.YtialmplmfcahpaaGreat
