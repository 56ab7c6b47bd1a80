import Derived.Test.YtialmplmfcahpaaGreatRows
import Derived.Test.YtialmplmfcahpaaGreatR22
set_option linter.unusedVariables false
set_option linter.unusedSimpArgs false
namespace Go.Proofs.YtialmplmfcahpaaGreat
open Go.Sx Go.RowKit Go.Proofs.Tryz
theorem qyL (n0 n1 n2 : Int) (l3 : List (List D)) (b4 b5 : Bool)
  (h : Obs [(n0 == 2) = true, Ret prog 138 [.one (I n1), .one (I 0), .one (I 999)] [.one (B b4)], Ret prog 138 [.one (I n0), .one (I 1), .one (I 8)] [.one (B b5)], (!b5) = true]) :
  Ret prog 240 [.agg [I n0, I n1, I n2, D.sl 1 l3]] [.one (B false)] :=
 .of [.br true, .res [.one (B b4)], .res [.one (B b5)], .br true] _ func240 rfl (by kernel_rfl) h
theorem qyM (n0 n1 n2 : Int) (l3 : List (List D)) (b4 b5 : Bool)
  (h : Obs [(n0 == 2) = true, Ret prog 138 [.one (I n1), .one (I 0), .one (I 999)] [.one (B b4)], Ret prog 138 [.one (I n0), .one (I 1), .one (I 8)] [.one (B b5)], (!b5) = false, (!b4) = true]) :
  Ret prog 240 [.agg [I n0, I n1, I n2, D.sl 1 l3]] [.one (B false)] :=
 .of [.br true, .res [.one (B b4)], .res [.one (B b5)], .br false, .br true] _ func240 rfl (by kernel_rfl) h
theorem qyN (n0 n1 n2 : Int) (l3 : List (List D)) (b4 b5 : Bool)
  (h : Obs [(n0 == 2) = true, Ret prog 138 [.one (I n1), .one (I 0), .one (I 999)] [.one (B b4)], Ret prog 138 [.one (I n0), .one (I 1), .one (I 8)] [.one (B b5)], (!b5) = false, (!b4) = false, (!n2 == 0) = true]) :
  Ret prog 240 [.agg [I n0, I n1, I n2, D.sl 1 l3]] [.one (B false)] :=
 .of [.br true, .res [.one (B b4)], .res [.one (B b5)], .br false, .br false, .br true] _ func240 rfl (by kernel_rfl) h
theorem qyO (n0 n1 n2 : Int) (l3 : List (List D)) (b4 b5 : Bool)
  (h : Obs [(n0 == 2) = true, Ret prog 138 [.one (I n1), .one (I 0), .one (I 999)] [.one (B b4)], Ret prog 138 [.one (I n0), .one (I 1), .one (I 8)] [.one (B b5)], (!b5) = false, (!b4) = false, (!n2 == 0) = false, decide ((l3.length : Int) > 2) = true]) :
  Ret prog 240 [.agg [I n0, I n1, I n2, D.sl 1 l3]] [.one (B false)] :=
 .of [.br true, .res [.one (B b4)], .res [.one (B b5)], .br false, .br false, .br false, .br true] _ func240 rfl (by kernel_rfl) h
theorem qyP (n0 n1 n2 : Int) (l3 : List (List D)) (b4 b5 : Bool)
  (h : Obs [(n0 == 2) = true, Ret prog 138 [.one (I n1), .one (I 0), .one (I 999)] [.one (B b4)], Ret prog 138 [.one (I n0), .one (I 1), .one (I 8)] [.one (B b5)], (!b5) = false, (!b4) = false, (!n2 == 0) = false, decide ((l3.length : Int) > 2) = false, (n0 == 8) = true, decide ((l3.length : Int) > 0) = true]) :
  Ret prog 240 [.agg [I n0, I n1, I n2, D.sl 1 l3]] [.one (B false)] :=
 .of [.br true, .res [.one (B b4)], .res [.one (B b5)], .br false, .br false, .br false, .br false, .br true, .br true] _ func240 rfl (by kernel_rfl) h
def qaT (n0 n1 n2 : Int) (l3 : List (List D)) (n4 : Int) : St :=
 { env := envOf 93 [(1, .al (.one (.ptr 1 0))), (5, .al (.one (.v (.int .i64 n4))))], boxes := [(1, [.v (.int .i64 n0), .v (.int .i64 n1), .v (.int .i64 n2), .sl .free 1 l3])] }
def qa9 (b0 : Bool) : St :=
 { env := envOf 93 [(2, .al (.one (.sb b0)))], boxes := [] }
theorem qjz (n0 n1 n2 : Int) (l3 : List (List D)) (n6 n7 : Int) (b8 : Bool)
  (h : Obs [decide (n6 < (l3.length : Int)) = true, 0 ≤ n6, n6 < (l3.length : Int), l3[n6.toNat]? = some [I n7], Ret prog 138 [.one (I n7), .one (I 0), .one (I 7)] [.one (B b8)], (!b8) = true]) :
  Tr prog (qaa f240 0) (qaT n0 n1 n2 l3 n6) .ret (qa9 false) :=
 .of_loopc (ks := [2]) (bs := []) (ans := [.br true, .el [I n7], .res [.one (B b8)], .br true]) (by kernel_rfl) h
theorem qyQ (n0 n1 n2 : Int) (l3 : List (List D)) (n6 n7 : Int) (b8 : Bool) (n9 n10 : Int)
  (h : Obs [decide (n6 < (l3.length : Int)) = true, 0 ≤ n6, n6 < (l3.length : Int), l3[n6.toNat]? = some [I n7], Ret prog 138 [.one (I n7), .one (I 0), .one (I 7)] [.one (B b8)], (!b8) = false, decide (n6 > 0) = true, (0 : Int) ≤ 0, 0 < (l3.length : Int), l3[0]? = some [I n9], (0 : Int) ≤ 1, 1 < (l3.length : Int), l3[1]? = some [I n10], (n9 == n10) = true]) :
  Tr prog (qaa f240 0) (qaT n0 n1 n2 l3 n6) .ret (qa9 false) :=
 .of_loopc (ks := [2]) (bs := []) (ans := [.br true, .el [I n7], .res [.one (B b8)], .br false, .br true, .el [I n9], .el [I n10], .br true]) (by kernel_rfl) h
theorem qyR (n0 n1 n2 : Int) (l3 : List (List D)) (n6 n7 : Int) (b8 : Bool) (n9 n10 : Int)
  (h : Obs [decide (n6 < (l3.length : Int)) = true, 0 ≤ n6, n6 < (l3.length : Int), l3[n6.toNat]? = some [I n7], Ret prog 138 [.one (I n7), .one (I 0), .one (I 7)] [.one (B b8)], (!b8) = false, decide (n6 > 0) = true, (0 : Int) ≤ 0, 0 < (l3.length : Int), l3[0]? = some [I n9], (0 : Int) ≤ 1, 1 < (l3.length : Int), l3[1]? = some [I n10], (n9 == n10) = false, inInt .i64 (n6 + 1)]) :
  Tr prog (qaa f240 0) (qaT n0 n1 n2 l3 n6) .normal (qaT n0 n1 n2 l3 (n6 + 1)) :=
 .of_loopc (ks := [5, 1]) (bs := [1]) (ans := [.br true, .el [I n7], .res [.one (B b8)], .br false, .br true, .el [I n9], .el [I n10], .br false]) (by kernel_rfl) h
theorem qmt (n0 n1 n2 : Int) (l3 : List (List D)) (n6 n7 : Int) (b8 : Bool)
  (h : Obs [decide (n6 < (l3.length : Int)) = true, 0 ≤ n6, n6 < (l3.length : Int), l3[n6.toNat]? = some [I n7], Ret prog 138 [.one (I n7), .one (I 0), .one (I 7)] [.one (B b8)], (!b8) = false, decide (n6 > 0) = false, inInt .i64 (n6 + 1)]) :
  Tr prog (qaa f240 0) (qaT n0 n1 n2 l3 n6) .normal (qaT n0 n1 n2 l3 (n6 + 1)) :=
 .of_loopc (ks := [5, 1]) (bs := [1]) (ans := [.br true, .el [I n7], .res [.one (B b8)], .br false, .br false]) (by kernel_rfl) h
def qbe : St :=
 { env := envOf 93 [], boxes := [] }
theorem qjA (n0 n1 n2 : Int) (l3 : List (List D)) (n6 : Int)
  (h : Obs [decide (n6 < (l3.length : Int)) = false]) :
  Tr prog (qaa f240 0) (qaT n0 n1 n2 l3 n6) (.exit 1) qbe :=
 .of_loopc (ks := []) (bs := []) (ans := [.br false]) (by kernel_rfl) h
theorem qyS (n0 n1 n2 : Int) (l3 : List (List D)) (b4 b5 b6 : Bool)
  (h : Obs [(n0 == 2) = true, Ret prog 138 [.one (I n1), .one (I 0), .one (I 999)] [.one (B b4)], Ret prog 138 [.one (I n0), .one (I 1), .one (I 8)] [.one (B b5)], (!b5) = false, (!b4) = false, (!n2 == 0) = false, decide ((l3.length : Int) > 2) = false, (n0 == 8) = true, decide ((l3.length : Int) > 0) = false, qac prog (qaa f240 0) (qaT n0 n1 n2 l3 0) .ret (qa9 b6)]) :
  Ret prog 240 [.agg [I n0, I n1, I n2, D.sl 1 l3]] [.one (B b6)] :=
 .of [.br true, .res [.one (B b4)], .res [.one (B b5)], .br false, .br false, .br false, .br false, .br true, .br false, .loop [] [5, 1] [1] .ret (qa9 b6)] _ func240 rfl (by kernel_rfl) h
theorem qyT (n0 n1 n2 : Int) (l3 : List (List D)) (b4 b5 : Bool)
  (h : Obs [(n0 == 2) = true, Ret prog 138 [.one (I n1), .one (I 0), .one (I 999)] [.one (B b4)], Ret prog 138 [.one (I n0), .one (I 1), .one (I 8)] [.one (B b5)], (!b5) = false, (!b4) = false, (!n2 == 0) = false, decide ((l3.length : Int) > 2) = false, (n0 == 8) = true, decide ((l3.length : Int) > 0) = false, qac prog (qaa f240 0) (qaT n0 n1 n2 l3 0) (.exit 1) qbe]) :
  Ret prog 240 [.agg [I n0, I n1, I n2, D.sl 1 l3]] [.one (B true)] :=
 .of [.br true, .res [.one (B b4)], .res [.one (B b5)], .br false, .br false, .br false, .br false, .br true, .br false, .loop [] [5, 1] [1] (.exit 1) qbe] _ func240 rfl (by kernel_rfl) h
theorem qyU (n0 n1 n2 : Int) (l3 : List (List D)) (b4 b5 b6 : Bool)
  (h : Obs [(n0 == 2) = true, Ret prog 138 [.one (I n1), .one (I 0), .one (I 999)] [.one (B b4)], Ret prog 138 [.one (I n0), .one (I 1), .one (I 8)] [.one (B b5)], (!b5) = false, (!b4) = false, (!n2 == 0) = false, decide ((l3.length : Int) > 2) = false, (n0 == 8) = false, qac prog (qaa f240 0) (qaT n0 n1 n2 l3 0) .ret (qa9 b6)]) :
  Ret prog 240 [.agg [I n0, I n1, I n2, D.sl 1 l3]] [.one (B b6)] :=
 .of [.br true, .res [.one (B b4)], .res [.one (B b5)], .br false, .br false, .br false, .br false, .br false, .loop [] [5, 1] [1] .ret (qa9 b6)] _ func240 rfl (by kernel_rfl) h
theorem qyV (n0 n1 n2 : Int) (l3 : List (List D)) (b4 b5 : Bool)
  (h : Obs [(n0 == 2) = true, Ret prog 138 [.one (I n1), .one (I 0), .one (I 999)] [.one (B b4)], Ret prog 138 [.one (I n0), .one (I 1), .one (I 8)] [.one (B b5)], (!b5) = false, (!b4) = false, (!n2 == 0) = false, decide ((l3.length : Int) > 2) = false, (n0 == 8) = false, qac prog (qaa f240 0) (qaT n0 n1 n2 l3 0) (.exit 1) qbe]) :
  Ret prog 240 [.agg [I n0, I n1, I n2, D.sl 1 l3]] [.one (B true)] :=
 .of [.br true, .res [.one (B b4)], .res [.one (B b5)], .br false, .br false, .br false, .br false, .br false, .loop [] [5, 1] [1] (.exit 1) qbe] _ func240 rfl (by kernel_rfl) h
theorem qyW (n0 n1 n2 : Int) (l3 : List (List D)) (b4 b5 b6 : Bool)
  (h : Obs [(n0 == 2) = false, (n0 == 3) = true, Ret prog 138 [.one (I n1), .one (I 1), .one (I 10)] [.one (B b4)], Ret prog 138 [.one (I n2), .one (I 0), .one (I (IntKind.i64.wrap (n1 - 1)))] [.one (B b5)], Ret prog 138 [.one (I n0), .one (I 1), .one (I 8)] [.one (B b6)], (!b6) = true]) :
  Ret prog 240 [.agg [I n0, I n1, I n2, D.sl 1 l3]] [.one (B false)] :=
 .of [.br false, .br true, .res [.one (B b4)], .wr, .res [.one (B b5)], .res [.one (B b6)], .br true] _ func240 rfl (by kernel_rfl) h
theorem qyX (n0 n1 n2 : Int) (l3 : List (List D)) (b4 b5 b6 : Bool)
  (h : Obs [(n0 == 2) = false, (n0 == 3) = true, Ret prog 138 [.one (I n1), .one (I 1), .one (I 10)] [.one (B b4)], Ret prog 138 [.one (I n2), .one (I 0), .one (I (IntKind.i64.wrap (n1 - 1)))] [.one (B b5)], Ret prog 138 [.one (I n0), .one (I 1), .one (I 8)] [.one (B b6)], (!b6) = false, (!b4) = true]) :
  Ret prog 240 [.agg [I n0, I n1, I n2, D.sl 1 l3]] [.one (B false)] :=
 .of [.br false, .br true, .res [.one (B b4)], .wr, .res [.one (B b5)], .res [.one (B b6)], .br false, .br true] _ func240 rfl (by kernel_rfl) h
theorem qyY (n0 n1 n2 : Int) (l3 : List (List D)) (b4 b5 b6 : Bool)
  (h : Obs [(n0 == 2) = false, (n0 == 3) = true, Ret prog 138 [.one (I n1), .one (I 1), .one (I 10)] [.one (B b4)], Ret prog 138 [.one (I n2), .one (I 0), .one (I (IntKind.i64.wrap (n1 - 1)))] [.one (B b5)], Ret prog 138 [.one (I n0), .one (I 1), .one (I 8)] [.one (B b6)], (!b6) = false, (!b4) = false, (!b5) = true]) :
  Ret prog 240 [.agg [I n0, I n1, I n2, D.sl 1 l3]] [.one (B false)] :=
 .of [.br false, .br true, .res [.one (B b4)], .wr, .res [.one (B b5)], .res [.one (B b6)], .br false, .br false, .br true] _ func240 rfl (by kernel_rfl) h
theorem qyZ (n0 n1 n2 : Int) (l3 : List (List D)) (b4 b5 b6 : Bool)
  (h : Obs [(n0 == 2) = false, (n0 == 3) = true, Ret prog 138 [.one (I n1), .one (I 1), .one (I 10)] [.one (B b4)], Ret prog 138 [.one (I n2), .one (I 0), .one (I (IntKind.i64.wrap (n1 - 1)))] [.one (B b5)], Ret prog 138 [.one (I n0), .one (I 1), .one (I 8)] [.one (B b6)], (!b6) = false, (!b4) = false, (!b5) = false, decide ((l3.length : Int) > 2) = true]) :
  Ret prog 240 [.agg [I n0, I n1, I n2, D.sl 1 l3]] [.one (B false)] :=
 .of [.br false, .br true, .res [.one (B b4)], .wr, .res [.one (B b5)], .res [.one (B b6)], .br false, .br false, .br false, .br true] _ func240 rfl (by kernel_rfl) h
theorem qy0 (n0 n1 n2 : Int) (l3 : List (List D)) (b4 b5 b6 : Bool)
  (h : Obs [(n0 == 2) = false, (n0 == 3) = true, Ret prog 138 [.one (I n1), .one (I 1), .one (I 10)] [.one (B b4)], Ret prog 138 [.one (I n2), .one (I 0), .one (I (IntKind.i64.wrap (n1 - 1)))] [.one (B b5)], Ret prog 138 [.one (I n0), .one (I 1), .one (I 8)] [.one (B b6)], (!b6) = false, (!b4) = false, (!b5) = false, decide ((l3.length : Int) > 2) = false, (n0 == 8) = true, decide ((l3.length : Int) > 0) = true]) :
  Ret prog 240 [.agg [I n0, I n1, I n2, D.sl 1 l3]] [.one (B false)] :=
 .of [.br false, .br true, .res [.one (B b4)], .wr, .res [.one (B b5)], .res [.one (B b6)], .br false, .br false, .br false, .br false, .br true, .br true] _ func240 rfl (by kernel_rfl) h
theorem qy1 (n0 n1 n2 : Int) (l3 : List (List D)) (b4 b5 b6 b7 : Bool)
  (h : Obs [(n0 == 2) = false, (n0 == 3) = true, Ret prog 138 [.one (I n1), .one (I 1), .one (I 10)] [.one (B b4)], Ret prog 138 [.one (I n2), .one (I 0), .one (I (IntKind.i64.wrap (n1 - 1)))] [.one (B b5)], Ret prog 138 [.one (I n0), .one (I 1), .one (I 8)] [.one (B b6)], (!b6) = false, (!b4) = false, (!b5) = false, decide ((l3.length : Int) > 2) = false, (n0 == 8) = true, decide ((l3.length : Int) > 0) = false, qac prog (qaa f240 0) (qaT n0 n1 n2 l3 0) .ret (qa9 b7)]) :
  Ret prog 240 [.agg [I n0, I n1, I n2, D.sl 1 l3]] [.one (B b7)] :=
 .of [.br false, .br true, .res [.one (B b4)], .wr, .res [.one (B b5)], .res [.one (B b6)], .br false, .br false, .br false, .br false, .br true, .br false, .loop [] [5, 1] [1] .ret (qa9 b7)] _ func240 rfl (by kernel_rfl) h
theorem qy2 (n0 n1 n2 : Int) (l3 : List (List D)) (b4 b5 b6 : Bool)
  (h : Obs [(n0 == 2) = false, (n0 == 3) = true, Ret prog 138 [.one (I n1), .one (I 1), .one (I 10)] [.one (B b4)], Ret prog 138 [.one (I n2), .one (I 0), .one (I (IntKind.i64.wrap (n1 - 1)))] [.one (B b5)], Ret prog 138 [.one (I n0), .one (I 1), .one (I 8)] [.one (B b6)], (!b6) = false, (!b4) = false, (!b5) = false, decide ((l3.length : Int) > 2) = false, (n0 == 8) = true, decide ((l3.length : Int) > 0) = false, qac prog (qaa f240 0) (qaT n0 n1 n2 l3 0) (.exit 1) qbe]) :
  Ret prog 240 [.agg [I n0, I n1, I n2, D.sl 1 l3]] [.one (B true)] :=
 .of [.br false, .br true, .res [.one (B b4)], .wr, .res [.one (B b5)], .res [.one (B b6)], .br false, .br false, .br false, .br false, .br true, .br false, .loop [] [5, 1] [1] (.exit 1) qbe] _ func240 rfl (by kernel_rfl) h
theorem qy3 (n0 n1 n2 : Int) (l3 : List (List D)) (b4 b5 b6 b7 : Bool)
  (h : Obs [(n0 == 2) = false, (n0 == 3) = true, Ret prog 138 [.one (I n1), .one (I 1), .one (I 10)] [.one (B b4)], Ret prog 138 [.one (I n2), .one (I 0), .one (I (IntKind.i64.wrap (n1 - 1)))] [.one (B b5)], Ret prog 138 [.one (I n0), .one (I 1), .one (I 8)] [.one (B b6)], (!b6) = false, (!b4) = false, (!b5) = false, decide ((l3.length : Int) > 2) = false, (n0 == 8) = false, qac prog (qaa f240 0) (qaT n0 n1 n2 l3 0) .ret (qa9 b7)]) :
  Ret prog 240 [.agg [I n0, I n1, I n2, D.sl 1 l3]] [.one (B b7)] :=
 .of [.br false, .br true, .res [.one (B b4)], .wr, .res [.one (B b5)], .res [.one (B b6)], .br false, .br false, .br false, .br false, .br false, .loop [] [5, 1] [1] .ret (qa9 b7)] _ func240 rfl (by kernel_rfl) h
theorem qy4 (n0 n1 n2 : Int) (l3 : List (List D)) (b4 b5 b6 : Bool)
  (h : Obs [(n0 == 2) = false, (n0 == 3) = true, Ret prog 138 [.one (I n1), .one (I 1), .one (I 10)] [.one (B b4)], Ret prog 138 [.one (I n2), .one (I 0), .one (I (IntKind.i64.wrap (n1 - 1)))] [.one (B b5)], Ret prog 138 [.one (I n0), .one (I 1), .one (I 8)] [.one (B b6)], (!b6) = false, (!b4) = false, (!b5) = false, decide ((l3.length : Int) > 2) = false, (n0 == 8) = false, qac prog (qaa f240 0) (qaT n0 n1 n2 l3 0) (.exit 1) qbe]) :
  Ret prog 240 [.agg [I n0, I n1, I n2, D.sl 1 l3]] [.one (B true)] :=
 .of [.br false, .br true, .res [.one (B b4)], .wr, .res [.one (B b5)], .res [.one (B b6)], .br false, .br false, .br false, .br false, .br false, .loop [] [5, 1] [1] (.exit 1) qbe] _ func240 rfl (by kernel_rfl) h
theorem qy5 (n0 n1 n2 : Int) (l3 : List (List D)) (b4 b5 : Bool)
  (h : Obs [(n0 == 2) = false, (n0 == 3) = false, (n0 == 4) = true, Ret prog 138 [.one (I n1), .one (I 0), .one (I 99)] [.one (B b4)], Ret prog 138 [.one (I n0), .one (I 1), .one (I 8)] [.one (B b5)], (!b5) = true]) :
  Ret prog 240 [.agg [I n0, I n1, I n2, D.sl 1 l3]] [.one (B false)] :=
 .of [.br false, .br false, .br true, .res [.one (B b4)], .res [.one (B b5)], .br true] _ func240 rfl (by kernel_rfl) h
theorem qy6 (n0 n1 n2 : Int) (l3 : List (List D)) (b4 b5 : Bool)
  (h : Obs [(n0 == 2) = false, (n0 == 3) = false, (n0 == 4) = true, Ret prog 138 [.one (I n1), .one (I 0), .one (I 99)] [.one (B b4)], Ret prog 138 [.one (I n0), .one (I 1), .one (I 8)] [.one (B b5)], (!b5) = false, (!b4) = true]) :
  Ret prog 240 [.agg [I n0, I n1, I n2, D.sl 1 l3]] [.one (B false)] :=
 .of [.br false, .br false, .br true, .res [.one (B b4)], .res [.one (B b5)], .br false, .br true] _ func240 rfl (by kernel_rfl) h
theorem qy7 (n0 n1 n2 : Int) (l3 : List (List D)) (b4 b5 : Bool)
  (h : Obs [(n0 == 2) = false, (n0 == 3) = false, (n0 == 4) = true, Ret prog 138 [.one (I n1), .one (I 0), .one (I 99)] [.one (B b4)], Ret prog 138 [.one (I n0), .one (I 1), .one (I 8)] [.one (B b5)], (!b5) = false, (!b4) = false, (!n2 == 0) = true]) :
  Ret prog 240 [.agg [I n0, I n1, I n2, D.sl 1 l3]] [.one (B false)] :=
 .of [.br false, .br false, .br true, .res [.one (B b4)], .res [.one (B b5)], .br false, .br false, .br true] _ func240 rfl (by kernel_rfl) h
theorem qy8 (n0 n1 n2 : Int) (l3 : List (List D)) (b4 b5 : Bool)
  (h : Obs [(n0 == 2) = false, (n0 == 3) = false, (n0 == 4) = true, Ret prog 138 [.one (I n1), .one (I 0), .one (I 99)] [.one (B b4)], Ret prog 138 [.one (I n0), .one (I 1), .one (I 8)] [.one (B b5)], (!b5) = false, (!b4) = false, (!n2 == 0) = false, decide ((l3.length : Int) > 2) = true]) :
  Ret prog 240 [.agg [I n0, I n1, I n2, D.sl 1 l3]] [.one (B false)] :=
 .of [.br false, .br false, .br true, .res [.one (B b4)], .res [.one (B b5)], .br false, .br false, .br false, .br true] _ func240 rfl (by kernel_rfl) h
theorem qy9 (n0 n1 n2 : Int) (l3 : List (List D)) (b4 b5 : Bool)
  (h : Obs [(n0 == 2) = false, (n0 == 3) = false, (n0 == 4) = true, Ret prog 138 [.one (I n1), .one (I 0), .one (I 99)] [.one (B b4)], Ret prog 138 [.one (I n0), .one (I 1), .one (I 8)] [.one (B b5)], (!b5) = false, (!b4) = false, (!n2 == 0) = false, decide ((l3.length : Int) > 2) = false, (n0 == 8) = true, decide ((l3.length : Int) > 0) = true]) :
  Ret prog 240 [.agg [I n0, I n1, I n2, D.sl 1 l3]] [.one (B false)] :=
 .of [.br false, .br false, .br true, .res [.one (B b4)], .res [.one (B b5)], .br false, .br false, .br false, .br false, .br true, .br true] _ func240 rfl (by kernel_rfl) h
theorem qza (n0 n1 n2 : Int) (l3 : List (List D)) (b4 b5 b6 : Bool)
  (h : Obs [(n0 == 2) = false, (n0 == 3) = false, (n0 == 4) = true, Ret prog 138 [.one (I n1), .one (I 0), .one (I 99)] [.one (B b4)], Ret prog 138 [.one (I n0), .one (I 1), .one (I 8)] [.one (B b5)], (!b5) = false, (!b4) = false, (!n2 == 0) = false, decide ((l3.length : Int) > 2) = false, (n0 == 8) = true, decide ((l3.length : Int) > 0) = false, qac prog (qaa f240 0) (qaT n0 n1 n2 l3 0) .ret (qa9 b6)]) :
  Ret prog 240 [.agg [I n0, I n1, I n2, D.sl 1 l3]] [.one (B b6)] :=
 .of [.br false, .br false, .br true, .res [.one (B b4)], .res [.one (B b5)], .br false, .br false, .br false, .br false, .br true, .br false, .loop [] [5, 1] [1] .ret (qa9 b6)] _ func240 rfl (by kernel_rfl) h
theorem qzb (n0 n1 n2 : Int) (l3 : List (List D)) (b4 b5 : Bool)
  (h : Obs [(n0 == 2) = false, (n0 == 3) = false, (n0 == 4) = true, Ret prog 138 [.one (I n1), .one (I 0), .one (I 99)] [.one (B b4)], Ret prog 138 [.one (I n0), .one (I 1), .one (I 8)] [.one (B b5)], (!b5) = false, (!b4) = false, (!n2 == 0) = false, decide ((l3.length : Int) > 2) = false, (n0 == 8) = true, decide ((l3.length : Int) > 0) = false, qac prog (qaa f240 0) (qaT n0 n1 n2 l3 0) (.exit 1) qbe]) :
  Ret prog 240 [.agg [I n0, I n1, I n2, D.sl 1 l3]] [.one (B true)] :=
 .of [.br false, .br false, .br true, .res [.one (B b4)], .res [.one (B b5)], .br false, .br false, .br false, .br false, .br true, .br false, .loop [] [5, 1] [1] (.exit 1) qbe] _ func240 rfl (by kernel_rfl) h
theorem qzc (n0 n1 n2 : Int) (l3 : List (List D)) (b4 b5 b6 : Bool)
  (h : Obs [(n0 == 2) = false, (n0 == 3) = false, (n0 == 4) = true, Ret prog 138 [.one (I n1), .one (I 0), .one (I 99)] [.one (B b4)], Ret prog 138 [.one (I n0), .one (I 1), .one (I 8)] [.one (B b5)], (!b5) = false, (!b4) = false, (!n2 == 0) = false, decide ((l3.length : Int) > 2) = false, (n0 == 8) = false, qac prog (qaa f240 0) (qaT n0 n1 n2 l3 0) .ret (qa9 b6)]) :
  Ret prog 240 [.agg [I n0, I n1, I n2, D.sl 1 l3]] [.one (B b6)] :=
 .of [.br false, .br false, .br true, .res [.one (B b4)], .res [.one (B b5)], .br false, .br false, .br false, .br false, .br false, .loop [] [5, 1] [1] .ret (qa9 b6)] _ func240 rfl (by kernel_rfl) h
theorem qzd (n0 n1 n2 : Int) (l3 : List (List D)) (b4 b5 : Bool)
  (h : Obs [(n0 == 2) = false, (n0 == 3) = false, (n0 == 4) = true, Ret prog 138 [.one (I n1), .one (I 0), .one (I 99)] [.one (B b4)], Ret prog 138 [.one (I n0), .one (I 1), .one (I 8)] [.one (B b5)], (!b5) = false, (!b4) = false, (!n2 == 0) = false, decide ((l3.length : Int) > 2) = false, (n0 == 8) = false, qac prog (qaa f240 0) (qaT n0 n1 n2 l3 0) (.exit 1) qbe]) :
  Ret prog 240 [.agg [I n0, I n1, I n2, D.sl 1 l3]] [.one (B true)] :=
 .of [.br false, .br false, .br true, .res [.one (B b4)], .res [.one (B b5)], .br false, .br false, .br false, .br false, .br false, .loop [] [5, 1] [1] (.exit 1) qbe] _ func240 rfl (by kernel_rfl) h
theorem qze (n0 n1 n2 : Int) (l3 : List (List D)) (b4 : Bool)
  (h : Obs [(n0 == 2) = false, (n0 == 3) = false, (n0 == 4) = false, Ret prog 138 [.one (I n0), .one (I 1), .one (I 8)] [.one (B b4)], (!b4) = true]) :
  Ret prog 240 [.agg [I n0, I n1, I n2, D.sl 1 l3]] [.one (B false)] :=
 .of [.br false, .br false, .br false, .res [.one (B b4)], .br true] _ func240 rfl (by kernel_rfl) h
theorem qzf (n0 n1 n2 : Int) (l3 : List (List D)) (b4 : Bool)
  (h : Obs [(n0 == 2) = false, (n0 == 3) = false, (n0 == 4) = false, Ret prog 138 [.one (I n0), .one (I 1), .one (I 8)] [.one (B b4)], (!b4) = false, (!n1 == 0) = true]) :
  Ret prog 240 [.agg [I n0, I n1, I n2, D.sl 1 l3]] [.one (B false)] :=
 .of [.br false, .br false, .br false, .res [.one (B b4)], .br false, .br true] _ func240 rfl (by kernel_rfl) h
theorem qzg (n0 n1 n2 : Int) (l3 : List (List D)) (b4 : Bool)
  (h : Obs [(n0 == 2) = false, (n0 == 3) = false, (n0 == 4) = false, Ret prog 138 [.one (I n0), .one (I 1), .one (I 8)] [.one (B b4)], (!b4) = false, (!n1 == 0) = false, (!n2 == 0) = true]) :
  Ret prog 240 [.agg [I n0, I n1, I n2, D.sl 1 l3]] [.one (B false)] :=
 .of [.br false, .br false, .br false, .res [.one (B b4)], .br false, .br false, .br true] _ func240 rfl (by kernel_rfl) h
theorem qzh (n0 n1 n2 : Int) (l3 : List (List D)) (b4 : Bool)
  (h : Obs [(n0 == 2) = false, (n0 == 3) = false, (n0 == 4) = false, Ret prog 138 [.one (I n0), .one (I 1), .one (I 8)] [.one (B b4)], (!b4) = false, (!n1 == 0) = false, (!n2 == 0) = false, decide ((l3.length : Int) > 2) = true]) :
  Ret prog 240 [.agg [I n0, I n1, I n2, D.sl 1 l3]] [.one (B false)] :=
 .of [.br false, .br false, .br false, .res [.one (B b4)], .br false, .br false, .br false, .br true] _ func240 rfl (by kernel_rfl) h
theorem qzi (n0 n1 n2 : Int) (l3 : List (List D)) (b4 : Bool)
  (h : Obs [(n0 == 2) = false, (n0 == 3) = false, (n0 == 4) = false, Ret prog 138 [.one (I n0), .one (I 1), .one (I 8)] [.one (B b4)], (!b4) = false, (!n1 == 0) = false, (!n2 == 0) = false, decide ((l3.length : Int) > 2) = false, (n0 == 8) = true, decide ((l3.length : Int) > 0) = true]) :
  Ret prog 240 [.agg [I n0, I n1, I n2, D.sl 1 l3]] [.one (B false)] :=
 .of [.br false, .br false, .br false, .res [.one (B b4)], .br false, .br false, .br false, .br false, .br true, .br true] _ func240 rfl (by kernel_rfl) h
theorem qzj (n0 n1 n2 : Int) (l3 : List (List D)) (b4 b5 : Bool)
  (h : Obs [(n0 == 2) = false, (n0 == 3) = false, (n0 == 4) = false, Ret prog 138 [.one (I n0), .one (I 1), .one (I 8)] [.one (B b4)], (!b4) = false, (!n1 == 0) = false, (!n2 == 0) = false, decide ((l3.length : Int) > 2) = false, (n0 == 8) = true, decide ((l3.length : Int) > 0) = false, qac prog (qaa f240 0) (qaT n0 n1 n2 l3 0) .ret (qa9 b5)]) :
  Ret prog 240 [.agg [I n0, I n1, I n2, D.sl 1 l3]] [.one (B b5)] :=
 .of [.br false, .br false, .br false, .res [.one (B b4)], .br false, .br false, .br false, .br false, .br true, .br false, .loop [] [5, 1] [1] .ret (qa9 b5)] _ func240 rfl (by kernel_rfl) h
theorem qzk (n0 n1 n2 : Int) (l3 : List (List D)) (b4 : Bool)
  (h : Obs [(n0 == 2) = false, (n0 == 3) = false, (n0 == 4) = false, Ret prog 138 [.one (I n0), .one (I 1), .one (I 8)] [.one (B b4)], (!b4) = false, (!n1 == 0) = false, (!n2 == 0) = false, decide ((l3.length : Int) > 2) = false, (n0 == 8) = true, decide ((l3.length : Int) > 0) = false, qac prog (qaa f240 0) (qaT n0 n1 n2 l3 0) (.exit 1) qbe]) :
  Ret prog 240 [.agg [I n0, I n1, I n2, D.sl 1 l3]] [.one (B true)] :=
 .of [.br false, .br false, .br false, .res [.one (B b4)], .br false, .br false, .br false, .br false, .br true, .br false, .loop [] [5, 1] [1] (.exit 1) qbe] _ func240 rfl (by kernel_rfl) h
theorem qzl (n0 n1 n2 : Int) (l3 : List (List D)) (b4 b5 : Bool)
  (h : Obs [(n0 == 2) = false, (n0 == 3) = false, (n0 == 4) = false, Ret prog 138 [.one (I n0), .one (I 1), .one (I 8)] [.one (B b4)], (!b4) = false, (!n1 == 0) = false, (!n2 == 0) = false, decide ((l3.length : Int) > 2) = false, (n0 == 8) = false, qac prog (qaa f240 0) (qaT n0 n1 n2 l3 0) .ret (qa9 b5)]) :
  Ret prog 240 [.agg [I n0, I n1, I n2, D.sl 1 l3]] [.one (B b5)] :=
 .of [.br false, .br false, .br false, .res [.one (B b4)], .br false, .br false, .br false, .br false, .br false, .loop [] [5, 1] [1] .ret (qa9 b5)] _ func240 rfl (by kernel_rfl) h
theorem qzm (n0 n1 n2 : Int) (l3 : List (List D)) (b4 : Bool)
  (h : Obs [(n0 == 2) = false, (n0 == 3) = false, (n0 == 4) = false, Ret prog 138 [.one (I n0), .one (I 1), .one (I 8)] [.one (B b4)], (!b4) = false, (!n1 == 0) = false, (!n2 == 0) = false, decide ((l3.length : Int) > 2) = false, (n0 == 8) = false, qac prog (qaa f240 0) (qaT n0 n1 n2 l3 0) (.exit 1) qbe]) :
  Ret prog 240 [.agg [I n0, I n1, I n2, D.sl 1 l3]] [.one (B true)] :=
 .of [.br false, .br false, .br false, .res [.one (B b4)], .br false, .br false, .br false, .br false, .br false, .loop [] [5, 1] [1] (.exit 1) qbe] _ func240 rfl (by kernel_rfl) h
theorem qzn (n0 n1 n2 : Int) (l3 : List (List D)) (b4 : Bool)
  (h : Obs [(n0 == 2) = true, Ret prog 119 [.one (I n1), .one (I 0), .one (I 999)] [.one (B b4)], (!b4) = true]) :
  Ret prog 251 [.agg [I n0, I n1, I n2, D.sl 1 l3]] [.one (B false)] :=
 .of [.br true, .res [.one (B b4)], .br true] _ func251 rfl (by kernel_rfl) h
theorem qzo (n0 n1 n2 : Int) (l3 : List (List D)) (b4 : Bool)
  (h : Obs [(n0 == 2) = true, Ret prog 119 [.one (I n1), .one (I 0), .one (I 999)] [.one (B b4)], (!b4) = false, (n2 != 0) = true]) :
  Ret prog 251 [.agg [I n0, I n1, I n2, D.sl 1 l3]] [.one (B false)] :=
 .of [.br true, .res [.one (B b4)], .br false, .br true] _ func251 rfl (by kernel_rfl) h
theorem qzp (n0 n1 n2 : Int) (l3 : List (List D)) (b4 : Bool)
  (h : Obs [(n0 == 2) = true, Ret prog 119 [.one (I n1), .one (I 0), .one (I 999)] [.one (B b4)], (!b4) = false, (n2 != 0) = false, decide ((l3.length : Int) > 2) = true]) :
  Ret prog 251 [.agg [I n0, I n1, I n2, D.sl 1 l3]] [.one (B false)] :=
 .of [.br true, .res [.one (B b4)], .br false, .br false, .br true] _ func251 rfl (by kernel_rfl) h
theorem qzq (n0 n1 n2 : Int) (l3 : List (List D)) (b4 : Bool)
  (h : Obs [(n0 == 2) = true, Ret prog 119 [.one (I n1), .one (I 0), .one (I 999)] [.one (B b4)], (!b4) = false, (n2 != 0) = false, decide ((l3.length : Int) > 2) = false, (n0 == 8) = true, decide ((l3.length : Int) > 0) = true]) :
  Ret prog 251 [.agg [I n0, I n1, I n2, D.sl 1 l3]] [.one (B false)] :=
 .of [.br true, .res [.one (B b4)], .br false, .br false, .br false, .br true, .br true] _ func251 rfl (by kernel_rfl) h
theorem qzr (n0 n1 n2 : Int) (l3 : List (List D)) (b4 : Bool) (n5 n6 : Int)
  (h : Obs [(n0 == 2) = true, Ret prog 119 [.one (I n1), .one (I 0), .one (I 999)] [.one (B b4)], (!b4) = false, (n2 != 0) = false, decide ((l3.length : Int) > 2) = false, (n0 == 8) = true, decide ((l3.length : Int) > 0) = false, ((l3.length : Int) == 2) = true, (0 : Int) ≤ 0, 0 < (l3.length : Int), l3[0]? = some [I n5], (0 : Int) ≤ 1, 1 < (l3.length : Int), l3[1]? = some [I n6], (n5 == n6) = true]) :
  Ret prog 251 [.agg [I n0, I n1, I n2, D.sl 1 l3]] [.one (B false)] :=
 .of [.br true, .res [.one (B b4)], .br false, .br false, .br false, .br true, .br false, .br true, .el [I n5], .el [I n6], .br true] _ func251 rfl (by kernel_rfl) h
def qan (l0 : List (List D)) (n1 : Int) : St :=
 { env := envOf 101 [(91, .al (.one (.sl .free 1 l0))), (92, .al (.one (.v (.int .i64 (l0.length : Int))))), (93, .al (.one (.v (.int .i64 n1))))], boxes := [] }
def qap (b0 : Bool) : St :=
 { env := envOf 101 [(2, .al (.one (.sb b0)))], boxes := [] }
theorem qzs (l3 : List (List D)) (n7 n8 : Int) (b9 : Bool)
  (h : Obs [decide (n7 < (l3.length : Int)) = true, 0 ≤ n7, n7 < (l3.length : Int), l3[n7.toNat]? = some [I n8], Ret prog 119 [.one (I n8), .one (I 0), .one (I 7)] [.one (B b9)], (!b9) = true]) :
  Tr prog (qaa f251 0) (qan l3 n7) .ret (qap false) :=
 .of_loopc (ks := [2]) (bs := []) (ans := [.br true, .el [I n8], .res [.one (B b9)], .br true]) (by kernel_rfl) h
theorem qzt (l3 : List (List D)) (n7 n8 : Int) (b9 : Bool)
  (h : Obs [decide (n7 < (l3.length : Int)) = true, 0 ≤ n7, n7 < (l3.length : Int), l3[n7.toNat]? = some [I n8], Ret prog 119 [.one (I n8), .one (I 0), .one (I 7)] [.one (B b9)], (!b9) = false, inInt .i64 (n7 + 1)]) :
  Tr prog (qaa f251 0) (qan l3 n7) .normal (qan l3 (n7 + 1)) :=
 .of_loopc (ks := [93, 92, 91]) (bs := []) (ans := [.br true, .el [I n8], .res [.one (B b9)], .br false]) (by kernel_rfl) h
def qaq : St :=
 { env := envOf 101 [], boxes := [] }
theorem qzu (l3 : List (List D)) (n7 : Int)
  (h : Obs [decide (n7 < (l3.length : Int)) = false]) :
  Tr prog (qaa f251 0) (qan l3 n7) (.exit 1) qaq :=
 .of_loopc (ks := []) (bs := []) (ans := [.br false]) (by kernel_rfl) h
theorem qzv (n0 n1 n2 : Int) (l3 : List (List D)) (b4 : Bool) (n5 n6 : Int) (b7 : Bool)
  (h : Obs [(n0 == 2) = true, Ret prog 119 [.one (I n1), .one (I 0), .one (I 999)] [.one (B b4)], (!b4) = false, (n2 != 0) = false, decide ((l3.length : Int) > 2) = false, (n0 == 8) = true, decide ((l3.length : Int) > 0) = false, ((l3.length : Int) == 2) = true, (0 : Int) ≤ 0, 0 < (l3.length : Int), l3[0]? = some [I n5], (0 : Int) ≤ 1, 1 < (l3.length : Int), l3[1]? = some [I n6], (n5 == n6) = false, qac prog (qaa f251 0) (qan l3 0) .ret (qap b7)]) :
  Ret prog 251 [.agg [I n0, I n1, I n2, D.sl 1 l3]] [.one (B b7)] :=
 .of [.br true, .res [.one (B b4)], .br false, .br false, .br false, .br true, .br false, .br true, .el [I n5], .el [I n6], .br false, .loop [] [93, 92, 91] [] .ret (qap b7)] _ func251 rfl (by kernel_rfl) h
theorem qzw (n0 n1 n2 : Int) (l3 : List (List D)) (b4 : Bool) (n5 n6 : Int)
  (h : Obs [(n0 == 2) = true, Ret prog 119 [.one (I n1), .one (I 0), .one (I 999)] [.one (B b4)], (!b4) = false, (n2 != 0) = false, decide ((l3.length : Int) > 2) = false, (n0 == 8) = true, decide ((l3.length : Int) > 0) = false, ((l3.length : Int) == 2) = true, (0 : Int) ≤ 0, 0 < (l3.length : Int), l3[0]? = some [I n5], (0 : Int) ≤ 1, 1 < (l3.length : Int), l3[1]? = some [I n6], (n5 == n6) = false, qac prog (qaa f251 0) (qan l3 0) (.exit 1) qaq]) :
  Ret prog 251 [.agg [I n0, I n1, I n2, D.sl 1 l3]] [.one (B true)] :=
 .of [.br true, .res [.one (B b4)], .br false, .br false, .br false, .br true, .br false, .br true, .el [I n5], .el [I n6], .br false, .loop [] [93, 92, 91] [] (.exit 1) qaq] _ func251 rfl (by kernel_rfl) h
theorem qzx (n0 n1 n2 : Int) (l3 : List (List D)) (b4 b5 : Bool)
  (h : Obs [(n0 == 2) = true, Ret prog 119 [.one (I n1), .one (I 0), .one (I 999)] [.one (B b4)], (!b4) = false, (n2 != 0) = false, decide ((l3.length : Int) > 2) = false, (n0 == 8) = true, decide ((l3.length : Int) > 0) = false, ((l3.length : Int) == 2) = false, qac prog (qaa f251 0) (qan l3 0) .ret (qap b5)]) :
  Ret prog 251 [.agg [I n0, I n1, I n2, D.sl 1 l3]] [.one (B b5)] :=
 .of [.br true, .res [.one (B b4)], .br false, .br false, .br false, .br true, .br false, .br false, .loop [] [93, 92, 91] [] .ret (qap b5)] _ func251 rfl (by kernel_rfl) h
theorem qzy (n0 n1 n2 : Int) (l3 : List (List D)) (b4 : Bool)
  (h : Obs [(n0 == 2) = true, Ret prog 119 [.one (I n1), .one (I 0), .one (I 999)] [.one (B b4)], (!b4) = false, (n2 != 0) = false, decide ((l3.length : Int) > 2) = false, (n0 == 8) = true, decide ((l3.length : Int) > 0) = false, ((l3.length : Int) == 2) = false, qac prog (qaa f251 0) (qan l3 0) (.exit 1) qaq]) :
  Ret prog 251 [.agg [I n0, I n1, I n2, D.sl 1 l3]] [.one (B true)] :=
 .of [.br true, .res [.one (B b4)], .br false, .br false, .br false, .br true, .br false, .br false, .loop [] [93, 92, 91] [] (.exit 1) qaq] _ func251 rfl (by kernel_rfl) h
theorem qzz (n0 n1 n2 : Int) (l3 : List (List D)) (b4 : Bool) (n5 n6 : Int)
  (h : Obs [(n0 == 2) = true, Ret prog 119 [.one (I n1), .one (I 0), .one (I 999)] [.one (B b4)], (!b4) = false, (n2 != 0) = false, decide ((l3.length : Int) > 2) = false, (n0 == 8) = false, ((l3.length : Int) == 2) = true, (0 : Int) ≤ 0, 0 < (l3.length : Int), l3[0]? = some [I n5], (0 : Int) ≤ 1, 1 < (l3.length : Int), l3[1]? = some [I n6], (n5 == n6) = true]) :
  Ret prog 251 [.agg [I n0, I n1, I n2, D.sl 1 l3]] [.one (B false)] :=
 .of [.br true, .res [.one (B b4)], .br false, .br false, .br false, .br false, .br true, .el [I n5], .el [I n6], .br true] _ func251 rfl (by kernel_rfl) h
theorem qzA (n0 n1 n2 : Int) (l3 : List (List D)) (b4 : Bool) (n5 n6 : Int) (b7 : Bool)
  (h : Obs [(n0 == 2) = true, Ret prog 119 [.one (I n1), .one (I 0), .one (I 999)] [.one (B b4)], (!b4) = false, (n2 != 0) = false, decide ((l3.length : Int) > 2) = false, (n0 == 8) = false, ((l3.length : Int) == 2) = true, (0 : Int) ≤ 0, 0 < (l3.length : Int), l3[0]? = some [I n5], (0 : Int) ≤ 1, 1 < (l3.length : Int), l3[1]? = some [I n6], (n5 == n6) = false, qac prog (qaa f251 0) (qan l3 0) .ret (qap b7)]) :
  Ret prog 251 [.agg [I n0, I n1, I n2, D.sl 1 l3]] [.one (B b7)] :=
 .of [.br true, .res [.one (B b4)], .br false, .br false, .br false, .br false, .br true, .el [I n5], .el [I n6], .br false, .loop [] [93, 92, 91] [] .ret (qap b7)] _ func251 rfl (by kernel_rfl) h
theorem qzB (n0 n1 n2 : Int) (l3 : List (List D)) (b4 : Bool) (n5 n6 : Int)
  (h : Obs [(n0 == 2) = true, Ret prog 119 [.one (I n1), .one (I 0), .one (I 999)] [.one (B b4)], (!b4) = false, (n2 != 0) = false, decide ((l3.length : Int) > 2) = false, (n0 == 8) = false, ((l3.length : Int) == 2) = true, (0 : Int) ≤ 0, 0 < (l3.length : Int), l3[0]? = some [I n5], (0 : Int) ≤ 1, 1 < (l3.length : Int), l3[1]? = some [I n6], (n5 == n6) = false, qac prog (qaa f251 0) (qan l3 0) (.exit 1) qaq]) :
  Ret prog 251 [.agg [I n0, I n1, I n2, D.sl 1 l3]] [.one (B true)] :=
 .of [.br true, .res [.one (B b4)], .br false, .br false, .br false, .br false, .br true, .el [I n5], .el [I n6], .br false, .loop [] [93, 92, 91] [] (.exit 1) qaq] _ func251 rfl (by kernel_rfl) h
theorem qzC (n0 n1 n2 : Int) (l3 : List (List D)) (b4 b5 : Bool)
  (h : Obs [(n0 == 2) = true, Ret prog 119 [.one (I n1), .one (I 0), .one (I 999)] [.one (B b4)], (!b4) = false, (n2 != 0) = false, decide ((l3.length : Int) > 2) = false, (n0 == 8) = false, ((l3.length : Int) == 2) = false, qac prog (qaa f251 0) (qan l3 0) .ret (qap b5)]) :
  Ret prog 251 [.agg [I n0, I n1, I n2, D.sl 1 l3]] [.one (B b5)] :=
 .of [.br true, .res [.one (B b4)], .br false, .br false, .br false, .br false, .br false, .loop [] [93, 92, 91] [] .ret (qap b5)] _ func251 rfl (by kernel_rfl) h
theorem qzD (n0 n1 n2 : Int) (l3 : List (List D)) (b4 : Bool)
  (h : Obs [(n0 == 2) = true, Ret prog 119 [.one (I n1), .one (I 0), .one (I 999)] [.one (B b4)], (!b4) = false, (n2 != 0) = false, decide ((l3.length : Int) > 2) = false, (n0 == 8) = false, ((l3.length : Int) == 2) = false, qac prog (qaa f251 0) (qan l3 0) (.exit 1) qaq]) :
  Ret prog 251 [.agg [I n0, I n1, I n2, D.sl 1 l3]] [.one (B true)] :=
 .of [.br true, .res [.one (B b4)], .br false, .br false, .br false, .br false, .br false, .loop [] [93, 92, 91] [] (.exit 1) qaq] _ func251 rfl (by kernel_rfl) h
theorem qzE (n0 n1 n2 : Int) (l3 : List (List D)) (b4 : Bool)
  (h : Obs [(n0 == 2) = false, (n0 == 3) = true, Ret prog 119 [.one (I n1), .one (I 1), .one (I 10)] [.one (B b4)], (!b4) = true]) :
  Ret prog 251 [.agg [I n0, I n1, I n2, D.sl 1 l3]] [.one (B false)] :=
 .of [.br false, .br true, .res [.one (B b4)], .br true] _ func251 rfl (by kernel_rfl) h
theorem qzF (n0 n1 n2 : Int) (l3 : List (List D)) (b4 b5 : Bool)
  (h : Obs [(n0 == 2) = false, (n0 == 3) = true, Ret prog 119 [.one (I n1), .one (I 1), .one (I 10)] [.one (B b4)], (!b4) = false, Ret prog 119 [.one (I n2), .one (I 0), .one (I (IntKind.i64.wrap (n1 - 1)))] [.one (B b5)], (!b5) = true]) :
  Ret prog 251 [.agg [I n0, I n1, I n2, D.sl 1 l3]] [.one (B false)] :=
 .of [.br false, .br true, .res [.one (B b4)], .br false, .wr, .res [.one (B b5)], .br true] _ func251 rfl (by kernel_rfl) h
theorem qzG (n0 n1 n2 : Int) (l3 : List (List D)) (b4 b5 : Bool)
  (h : Obs [(n0 == 2) = false, (n0 == 3) = true, Ret prog 119 [.one (I n1), .one (I 1), .one (I 10)] [.one (B b4)], (!b4) = false, Ret prog 119 [.one (I n2), .one (I 0), .one (I (IntKind.i64.wrap (n1 - 1)))] [.one (B b5)], (!b5) = false, decide ((l3.length : Int) > 2) = true]) :
  Ret prog 251 [.agg [I n0, I n1, I n2, D.sl 1 l3]] [.one (B false)] :=
 .of [.br false, .br true, .res [.one (B b4)], .br false, .wr, .res [.one (B b5)], .br false, .br true] _ func251 rfl (by kernel_rfl) h
theorem qzH (n0 n1 n2 : Int) (l3 : List (List D)) (b4 b5 : Bool)
  (h : Obs [(n0 == 2) = false, (n0 == 3) = true, Ret prog 119 [.one (I n1), .one (I 1), .one (I 10)] [.one (B b4)], (!b4) = false, Ret prog 119 [.one (I n2), .one (I 0), .one (I (IntKind.i64.wrap (n1 - 1)))] [.one (B b5)], (!b5) = false, decide ((l3.length : Int) > 2) = false, (n0 == 8) = true, decide ((l3.length : Int) > 0) = true]) :
  Ret prog 251 [.agg [I n0, I n1, I n2, D.sl 1 l3]] [.one (B false)] :=
 .of [.br false, .br true, .res [.one (B b4)], .br false, .wr, .res [.one (B b5)], .br false, .br false, .br true, .br true] _ func251 rfl (by kernel_rfl) h
theorem qzI (n0 n1 n2 : Int) (l3 : List (List D)) (b4 b5 : Bool) (n6 n7 : Int)
  (h : Obs [(n0 == 2) = false, (n0 == 3) = true, Ret prog 119 [.one (I n1), .one (I 1), .one (I 10)] [.one (B b4)], (!b4) = false, Ret prog 119 [.one (I n2), .one (I 0), .one (I (IntKind.i64.wrap (n1 - 1)))] [.one (B b5)], (!b5) = false, decide ((l3.length : Int) > 2) = false, (n0 == 8) = true, decide ((l3.length : Int) > 0) = false, ((l3.length : Int) == 2) = true, (0 : Int) ≤ 0, 0 < (l3.length : Int), l3[0]? = some [I n6], (0 : Int) ≤ 1, 1 < (l3.length : Int), l3[1]? = some [I n7], (n6 == n7) = true]) :
  Ret prog 251 [.agg [I n0, I n1, I n2, D.sl 1 l3]] [.one (B false)] :=
 .of [.br false, .br true, .res [.one (B b4)], .br false, .wr, .res [.one (B b5)], .br false, .br false, .br true, .br false, .br true, .el [I n6], .el [I n7], .br true] _ func251 rfl (by kernel_rfl) h
theorem qzJ (n0 n1 n2 : Int) (l3 : List (List D)) (b4 b5 : Bool) (n6 n7 : Int) (b8 : Bool)
  (h : Obs [(n0 == 2) = false, (n0 == 3) = true, Ret prog 119 [.one (I n1), .one (I 1), .one (I 10)] [.one (B b4)], (!b4) = false, Ret prog 119 [.one (I n2), .one (I 0), .one (I (IntKind.i64.wrap (n1 - 1)))] [.one (B b5)], (!b5) = false, decide ((l3.length : Int) > 2) = false, (n0 == 8) = true, decide ((l3.length : Int) > 0) = false, ((l3.length : Int) == 2) = true, (0 : Int) ≤ 0, 0 < (l3.length : Int), l3[0]? = some [I n6], (0 : Int) ≤ 1, 1 < (l3.length : Int), l3[1]? = some [I n7], (n6 == n7) = false, qac prog (qaa f251 0) (qan l3 0) .ret (qap b8)]) :
  Ret prog 251 [.agg [I n0, I n1, I n2, D.sl 1 l3]] [.one (B b8)] :=
 .of [.br false, .br true, .res [.one (B b4)], .br false, .wr, .res [.one (B b5)], .br false, .br false, .br true, .br false, .br true, .el [I n6], .el [I n7], .br false, .loop [] [93, 92, 91] [] .ret (qap b8)] _ func251 rfl (by kernel_rfl) h
theorem qzK (n0 n1 n2 : Int) (l3 : List (List D)) (b4 b5 : Bool) (n6 n7 : Int)
  (h : Obs [(n0 == 2) = false, (n0 == 3) = true, Ret prog 119 [.one (I n1), .one (I 1), .one (I 10)] [.one (B b4)], (!b4) = false, Ret prog 119 [.one (I n2), .one (I 0), .one (I (IntKind.i64.wrap (n1 - 1)))] [.one (B b5)], (!b5) = false, decide ((l3.length : Int) > 2) = false, (n0 == 8) = true, decide ((l3.length : Int) > 0) = false, ((l3.length : Int) == 2) = true, (0 : Int) ≤ 0, 0 < (l3.length : Int), l3[0]? = some [I n6], (0 : Int) ≤ 1, 1 < (l3.length : Int), l3[1]? = some [I n7], (n6 == n7) = false, qac prog (qaa f251 0) (qan l3 0) (.exit 1) qaq]) :
  Ret prog 251 [.agg [I n0, I n1, I n2, D.sl 1 l3]] [.one (B true)] :=
 .of [.br false, .br true, .res [.one (B b4)], .br false, .wr, .res [.one (B b5)], .br false, .br false, .br true, .br false, .br true, .el [I n6], .el [I n7], .br false, .loop [] [93, 92, 91] [] (.exit 1) qaq] _ func251 rfl (by kernel_rfl) h
theorem qzL (n0 n1 n2 : Int) (l3 : List (List D)) (b4 b5 b6 : Bool)
  (h : Obs [(n0 == 2) = false, (n0 == 3) = true, Ret prog 119 [.one (I n1), .one (I 1), .one (I 10)] [.one (B b4)], (!b4) = false, Ret prog 119 [.one (I n2), .one (I 0), .one (I (IntKind.i64.wrap (n1 - 1)))] [.one (B b5)], (!b5) = false, decide ((l3.length : Int) > 2) = false, (n0 == 8) = true, decide ((l3.length : Int) > 0) = false, ((l3.length : Int) == 2) = false, qac prog (qaa f251 0) (qan l3 0) .ret (qap b6)]) :
  Ret prog 251 [.agg [I n0, I n1, I n2, D.sl 1 l3]] [.one (B b6)] :=
 .of [.br false, .br true, .res [.one (B b4)], .br false, .wr, .res [.one (B b5)], .br false, .br false, .br true, .br false, .br false, .loop [] [93, 92, 91] [] .ret (qap b6)] _ func251 rfl (by kernel_rfl) h
theorem qzM (n0 n1 n2 : Int) (l3 : List (List D)) (b4 b5 : Bool)
  (h : Obs [(n0 == 2) = false, (n0 == 3) = true, Ret prog 119 [.one (I n1), .one (I 1), .one (I 10)] [.one (B b4)], (!b4) = false, Ret prog 119 [.one (I n2), .one (I 0), .one (I (IntKind.i64.wrap (n1 - 1)))] [.one (B b5)], (!b5) = false, decide ((l3.length : Int) > 2) = false, (n0 == 8) = true, decide ((l3.length : Int) > 0) = false, ((l3.length : Int) == 2) = false, qac prog (qaa f251 0) (qan l3 0) (.exit 1) qaq]) :
  Ret prog 251 [.agg [I n0, I n1, I n2, D.sl 1 l3]] [.one (B true)] :=
 .of [.br false, .br true, .res [.one (B b4)], .br false, .wr, .res [.one (B b5)], .br false, .br false, .br true, .br false, .br false, .loop [] [93, 92, 91] [] (.exit 1) qaq] _ func251 rfl (by kernel_rfl) h
theorem qzN (n0 n1 n2 : Int) (l3 : List (List D)) (b4 b5 : Bool) (n6 n7 : Int)
  (h : Obs [(n0 == 2) = false, (n0 == 3) = true, Ret prog 119 [.one (I n1), .one (I 1), .one (I 10)] [.one (B b4)], (!b4) = false, Ret prog 119 [.one (I n2), .one (I 0), .one (I (IntKind.i64.wrap (n1 - 1)))] [.one (B b5)], (!b5) = false, decide ((l3.length : Int) > 2) = false, (n0 == 8) = false, ((l3.length : Int) == 2) = true, (0 : Int) ≤ 0, 0 < (l3.length : Int), l3[0]? = some [I n6], (0 : Int) ≤ 1, 1 < (l3.length : Int), l3[1]? = some [I n7], (n6 == n7) = true]) :
  Ret prog 251 [.agg [I n0, I n1, I n2, D.sl 1 l3]] [.one (B false)] :=
 .of [.br false, .br true, .res [.one (B b4)], .br false, .wr, .res [.one (B b5)], .br false, .br false, .br false, .br true, .el [I n6], .el [I n7], .br true] _ func251 rfl (by kernel_rfl) h
theorem qzO (n0 n1 n2 : Int) (l3 : List (List D)) (b4 b5 : Bool) (n6 n7 : Int) (b8 : Bool)
  (h : Obs [(n0 == 2) = false, (n0 == 3) = true, Ret prog 119 [.one (I n1), .one (I 1), .one (I 10)] [.one (B b4)], (!b4) = false, Ret prog 119 [.one (I n2), .one (I 0), .one (I (IntKind.i64.wrap (n1 - 1)))] [.one (B b5)], (!b5) = false, decide ((l3.length : Int) > 2) = false, (n0 == 8) = false, ((l3.length : Int) == 2) = true, (0 : Int) ≤ 0, 0 < (l3.length : Int), l3[0]? = some [I n6], (0 : Int) ≤ 1, 1 < (l3.length : Int), l3[1]? = some [I n7], (n6 == n7) = false, qac prog (qaa f251 0) (qan l3 0) .ret (qap b8)]) :
  Ret prog 251 [.agg [I n0, I n1, I n2, D.sl 1 l3]] [.one (B b8)] :=
 .of [.br false, .br true, .res [.one (B b4)], .br false, .wr, .res [.one (B b5)], .br false, .br false, .br false, .br true, .el [I n6], .el [I n7], .br false, .loop [] [93, 92, 91] [] .ret (qap b8)] _ func251 rfl (by kernel_rfl) h
theorem qzP (n0 n1 n2 : Int) (l3 : List (List D)) (b4 b5 : Bool) (n6 n7 : Int)
  (h : Obs [(n0 == 2) = false, (n0 == 3) = true, Ret prog 119 [.one (I n1), .one (I 1), .one (I 10)] [.one (B b4)], (!b4) = false, Ret prog 119 [.one (I n2), .one (I 0), .one (I (IntKind.i64.wrap (n1 - 1)))] [.one (B b5)], (!b5) = false, decide ((l3.length : Int) > 2) = false, (n0 == 8) = false, ((l3.length : Int) == 2) = true, (0 : Int) ≤ 0, 0 < (l3.length : Int), l3[0]? = some [I n6], (0 : Int) ≤ 1, 1 < (l3.length : Int), l3[1]? = some [I n7], (n6 == n7) = false, qac prog (qaa f251 0) (qan l3 0) (.exit 1) qaq]) :
  Ret prog 251 [.agg [I n0, I n1, I n2, D.sl 1 l3]] [.one (B true)] :=
 .of [.br false, .br true, .res [.one (B b4)], .br false, .wr, .res [.one (B b5)], .br false, .br false, .br false, .br true, .el [I n6], .el [I n7], .br false, .loop [] [93, 92, 91] [] (.exit 1) qaq] _ func251 rfl (by kernel_rfl) h
theorem qzQ (n0 n1 n2 : Int) (l3 : List (List D)) (b4 b5 b6 : Bool)
  (h : Obs [(n0 == 2) = false, (n0 == 3) = true, Ret prog 119 [.one (I n1), .one (I 1), .one (I 10)] [.one (B b4)], (!b4) = false, Ret prog 119 [.one (I n2), .one (I 0), .one (I (IntKind.i64.wrap (n1 - 1)))] [.one (B b5)], (!b5) = false, decide ((l3.length : Int) > 2) = false, (n0 == 8) = false, ((l3.length : Int) == 2) = false, qac prog (qaa f251 0) (qan l3 0) .ret (qap b6)]) :
  Ret prog 251 [.agg [I n0, I n1, I n2, D.sl 1 l3]] [.one (B b6)] :=
 .of [.br false, .br true, .res [.one (B b4)], .br false, .wr, .res [.one (B b5)], .br false, .br false, .br false, .br false, .loop [] [93, 92, 91] [] .ret (qap b6)] _ func251 rfl (by kernel_rfl) h
theorem qzR (n0 n1 n2 : Int) (l3 : List (List D)) (b4 b5 : Bool)
  (h : Obs [(n0 == 2) = false, (n0 == 3) = true, Ret prog 119 [.one (I n1), .one (I 1), .one (I 10)] [.one (B b4)], (!b4) = false, Ret prog 119 [.one (I n2), .one (I 0), .one (I (IntKind.i64.wrap (n1 - 1)))] [.one (B b5)], (!b5) = false, decide ((l3.length : Int) > 2) = false, (n0 == 8) = false, ((l3.length : Int) == 2) = false, qac prog (qaa f251 0) (qan l3 0) (.exit 1) qaq]) :
  Ret prog 251 [.agg [I n0, I n1, I n2, D.sl 1 l3]] [.one (B true)] :=
 .of [.br false, .br true, .res [.one (B b4)], .br false, .wr, .res [.one (B b5)], .br false, .br false, .br false, .br false, .loop [] [93, 92, 91] [] (.exit 1) qaq] _ func251 rfl (by kernel_rfl) h
theorem qzS (n0 n1 n2 : Int) (l3 : List (List D)) (b4 : Bool)
  (h : Obs [(n0 == 2) = false, (n0 == 3) = false, (n0 == 4) = true, Ret prog 119 [.one (I n1), .one (I 0), .one (I 99)] [.one (B b4)], (!b4) = true]) :
  Ret prog 251 [.agg [I n0, I n1, I n2, D.sl 1 l3]] [.one (B false)] :=
 .of [.br false, .br false, .br true, .res [.one (B b4)], .br true] _ func251 rfl (by kernel_rfl) h
theorem qzT (n0 n1 n2 : Int) (l3 : List (List D)) (b4 : Bool)
  (h : Obs [(n0 == 2) = false, (n0 == 3) = false, (n0 == 4) = true, Ret prog 119 [.one (I n1), .one (I 0), .one (I 99)] [.one (B b4)], (!b4) = false, (n2 != 0) = true]) :
  Ret prog 251 [.agg [I n0, I n1, I n2, D.sl 1 l3]] [.one (B false)] :=
 .of [.br false, .br false, .br true, .res [.one (B b4)], .br false, .br true] _ func251 rfl (by kernel_rfl) h
theorem qzU (n0 n1 n2 : Int) (l3 : List (List D)) (b4 : Bool)
  (h : Obs [(n0 == 2) = false, (n0 == 3) = false, (n0 == 4) = true, Ret prog 119 [.one (I n1), .one (I 0), .one (I 99)] [.one (B b4)], (!b4) = false, (n2 != 0) = false, decide ((l3.length : Int) > 2) = true]) :
  Ret prog 251 [.agg [I n0, I n1, I n2, D.sl 1 l3]] [.one (B false)] :=
 .of [.br false, .br false, .br true, .res [.one (B b4)], .br false, .br false, .br true] _ func251 rfl (by kernel_rfl) h
theorem qzV (n0 n1 n2 : Int) (l3 : List (List D)) (b4 : Bool)
  (h : Obs [(n0 == 2) = false, (n0 == 3) = false, (n0 == 4) = true, Ret prog 119 [.one (I n1), .one (I 0), .one (I 99)] [.one (B b4)], (!b4) = false, (n2 != 0) = false, decide ((l3.length : Int) > 2) = false, (n0 == 8) = true, decide ((l3.length : Int) > 0) = true]) :
  Ret prog 251 [.agg [I n0, I n1, I n2, D.sl 1 l3]] [.one (B false)] :=
 .of [.br false, .br false, .br true, .res [.one (B b4)], .br false, .br false, .br false, .br true, .br true] _ func251 rfl (by kernel_rfl) h
theorem qzW (n0 n1 n2 : Int) (l3 : List (List D)) (b4 : Bool) (n5 n6 : Int)
  (h : Obs [(n0 == 2) = false, (n0 == 3) = false, (n0 == 4) = true, Ret prog 119 [.one (I n1), .one (I 0), .one (I 99)] [.one (B b4)], (!b4) = false, (n2 != 0) = false, decide ((l3.length : Int) > 2) = false, (n0 == 8) = true, decide ((l3.length : Int) > 0) = false, ((l3.length : Int) == 2) = true, (0 : Int) ≤ 0, 0 < (l3.length : Int), l3[0]? = some [I n5], (0 : Int) ≤ 1, 1 < (l3.length : Int), l3[1]? = some [I n6], (n5 == n6) = true]) :
  Ret prog 251 [.agg [I n0, I n1, I n2, D.sl 1 l3]] [.one (B false)] :=
 .of [.br false, .br false, .br true, .res [.one (B b4)], .br false, .br false, .br false, .br true, .br false, .br true, .el [I n5], .el [I n6], .br true] _ func251 rfl (by kernel_rfl) h
theorem qzX (n0 n1 n2 : Int) (l3 : List (List D)) (b4 : Bool) (n5 n6 : Int) (b7 : Bool)
  (h : Obs [(n0 == 2) = false, (n0 == 3) = false, (n0 == 4) = true, Ret prog 119 [.one (I n1), .one (I 0), .one (I 99)] [.one (B b4)], (!b4) = false, (n2 != 0) = false, decide ((l3.length : Int) > 2) = false, (n0 == 8) = true, decide ((l3.length : Int) > 0) = false, ((l3.length : Int) == 2) = true, (0 : Int) ≤ 0, 0 < (l3.length : Int), l3[0]? = some [I n5], (0 : Int) ≤ 1, 1 < (l3.length : Int), l3[1]? = some [I n6], (n5 == n6) = false, qac prog (qaa f251 0) (qan l3 0) .ret (qap b7)]) :
  Ret prog 251 [.agg [I n0, I n1, I n2, D.sl 1 l3]] [.one (B b7)] :=
 .of [.br false, .br false, .br true, .res [.one (B b4)], .br false, .br false, .br false, .br true, .br false, .br true, .el [I n5], .el [I n6], .br false, .loop [] [93, 92, 91] [] .ret (qap b7)] _ func251 rfl (by kernel_rfl) h
theorem qzY (n0 n1 n2 : Int) (l3 : List (List D)) (b4 : Bool) (n5 n6 : Int)
  (h : Obs [(n0 == 2) = false, (n0 == 3) = false, (n0 == 4) = true, Ret prog 119 [.one (I n1), .one (I 0), .one (I 99)] [.one (B b4)], (!b4) = false, (n2 != 0) = false, decide ((l3.length : Int) > 2) = false, (n0 == 8) = true, decide ((l3.length : Int) > 0) = false, ((l3.length : Int) == 2) = true, (0 : Int) ≤ 0, 0 < (l3.length : Int), l3[0]? = some [I n5], (0 : Int) ≤ 1, 1 < (l3.length : Int), l3[1]? = some [I n6], (n5 == n6) = false, qac prog (qaa f251 0) (qan l3 0) (.exit 1) qaq]) :
  Ret prog 251 [.agg [I n0, I n1, I n2, D.sl 1 l3]] [.one (B true)] :=
 .of [.br false, .br false, .br true, .res [.one (B b4)], .br false, .br false, .br false, .br true, .br false, .br true, .el [I n5], .el [I n6], .br false, .loop [] [93, 92, 91] [] (.exit 1) qaq] _ func251 rfl (by kernel_rfl) h
theorem qzZ (n0 n1 n2 : Int) (l3 : List (List D)) (b4 b5 : Bool)
  (h : Obs [(n0 == 2) = false, (n0 == 3) = false, (n0 == 4) = true, Ret prog 119 [.one (I n1), .one (I 0), .one (I 99)] [.one (B b4)], (!b4) = false, (n2 != 0) = false, decide ((l3.length : Int) > 2) = false, (n0 == 8) = true, decide ((l3.length : Int) > 0) = false, ((l3.length : Int) == 2) = false, qac prog (qaa f251 0) (qan l3 0) .ret (qap b5)]) :
  Ret prog 251 [.agg [I n0, I n1, I n2, D.sl 1 l3]] [.one (B b5)] :=
 .of [.br false, .br false, .br true, .res [.one (B b4)], .br false, .br false, .br false, .br true, .br false, .br false, .loop [] [93, 92, 91] [] .ret (qap b5)] _ func251 rfl (by kernel_rfl) h
theorem qz0 (n0 n1 n2 : Int) (l3 : List (List D)) (b4 : Bool)
  (h : Obs [(n0 == 2) = false, (n0 == 3) = false, (n0 == 4) = true, Ret prog 119 [.one (I n1), .one (I 0), .one (I 99)] [.one (B b4)], (!b4) = false, (n2 != 0) = false, decide ((l3.length : Int) > 2) = false, (n0 == 8) = true, decide ((l3.length : Int) > 0) = false, ((l3.length : Int) == 2) = false, qac prog (qaa f251 0) (qan l3 0) (.exit 1) qaq]) :
  Ret prog 251 [.agg [I n0, I n1, I n2, D.sl 1 l3]] [.one (B true)] :=
 .of [.br false, .br false, .br true, .res [.one (B b4)], .br false, .br false, .br false, .br true, .br false, .br false, .loop [] [93, 92, 91] [] (.exit 1) qaq] _ func251 rfl (by kernel_rfl) h
theorem qz1 (n0 n1 n2 : Int) (l3 : List (List D)) (b4 : Bool) (n5 n6 : Int)
  (h : Obs [(n0 == 2) = false, (n0 == 3) = false, (n0 == 4) = true, Ret prog 119 [.one (I n1), .one (I 0), .one (I 99)] [.one (B b4)], (!b4) = false, (n2 != 0) = false, decide ((l3.length : Int) > 2) = false, (n0 == 8) = false, ((l3.length : Int) == 2) = true, (0 : Int) ≤ 0, 0 < (l3.length : Int), l3[0]? = some [I n5], (0 : Int) ≤ 1, 1 < (l3.length : Int), l3[1]? = some [I n6], (n5 == n6) = true]) :
  Ret prog 251 [.agg [I n0, I n1, I n2, D.sl 1 l3]] [.one (B false)] :=
 .of [.br false, .br false, .br true, .res [.one (B b4)], .br false, .br false, .br false, .br false, .br true, .el [I n5], .el [I n6], .br true] _ func251 rfl (by kernel_rfl) h
theorem qz2 (n0 n1 n2 : Int) (l3 : List (List D)) (b4 : Bool) (n5 n6 : Int) (b7 : Bool)
  (h : Obs [(n0 == 2) = false, (n0 == 3) = false, (n0 == 4) = true, Ret prog 119 [.one (I n1), .one (I 0), .one (I 99)] [.one (B b4)], (!b4) = false, (n2 != 0) = false, decide ((l3.length : Int) > 2) = false, (n0 == 8) = false, ((l3.length : Int) == 2) = true, (0 : Int) ≤ 0, 0 < (l3.length : Int), l3[0]? = some [I n5], (0 : Int) ≤ 1, 1 < (l3.length : Int), l3[1]? = some [I n6], (n5 == n6) = false, qac prog (qaa f251 0) (qan l3 0) .ret (qap b7)]) :
  Ret prog 251 [.agg [I n0, I n1, I n2, D.sl 1 l3]] [.one (B b7)] :=
 .of [.br false, .br false, .br true, .res [.one (B b4)], .br false, .br false, .br false, .br false, .br true, .el [I n5], .el [I n6], .br false, .loop [] [93, 92, 91] [] .ret (qap b7)] _ func251 rfl (by kernel_rfl) h
theorem qz3 (n0 n1 n2 : Int) (l3 : List (List D)) (b4 : Bool) (n5 n6 : Int)
  (h : Obs [(n0 == 2) = false, (n0 == 3) = false, (n0 == 4) = true, Ret prog 119 [.one (I n1), .one (I 0), .one (I 99)] [.one (B b4)], (!b4) = false, (n2 != 0) = false, decide ((l3.length : Int) > 2) = false, (n0 == 8) = false, ((l3.length : Int) == 2) = true, (0 : Int) ≤ 0, 0 < (l3.length : Int), l3[0]? = some [I n5], (0 : Int) ≤ 1, 1 < (l3.length : Int), l3[1]? = some [I n6], (n5 == n6) = false, qac prog (qaa f251 0) (qan l3 0) (.exit 1) qaq]) :
  Ret prog 251 [.agg [I n0, I n1, I n2, D.sl 1 l3]] [.one (B true)] :=
 .of [.br false, .br false, .br true, .res [.one (B b4)], .br false, .br false, .br false, .br false, .br true, .el [I n5], .el [I n6], .br false, .loop [] [93, 92, 91] [] (.exit 1) qaq] _ func251 rfl (by kernel_rfl) h
theorem qz4 (n0 n1 n2 : Int) (l3 : List (List D)) (b4 b5 : Bool)
  (h : Obs [(n0 == 2) = false, (n0 == 3) = false, (n0 == 4) = true, Ret prog 119 [.one (I n1), .one (I 0), .one (I 99)] [.one (B b4)], (!b4) = false, (n2 != 0) = false, decide ((l3.length : Int) > 2) = false, (n0 == 8) = false, ((l3.length : Int) == 2) = false, qac prog (qaa f251 0) (qan l3 0) .ret (qap b5)]) :
  Ret prog 251 [.agg [I n0, I n1, I n2, D.sl 1 l3]] [.one (B b5)] :=
 .of [.br false, .br false, .br true, .res [.one (B b4)], .br false, .br false, .br false, .br false, .br false, .loop [] [93, 92, 91] [] .ret (qap b5)] _ func251 rfl (by kernel_rfl) h
theorem qz5 (n0 n1 n2 : Int) (l3 : List (List D)) (b4 : Bool)
  (h : Obs [(n0 == 2) = false, (n0 == 3) = false, (n0 == 4) = true, Ret prog 119 [.one (I n1), .one (I 0), .one (I 99)] [.one (B b4)], (!b4) = false, (n2 != 0) = false, decide ((l3.length : Int) > 2) = false, (n0 == 8) = false, ((l3.length : Int) == 2) = false, qac prog (qaa f251 0) (qan l3 0) (.exit 1) qaq]) :
  Ret prog 251 [.agg [I n0, I n1, I n2, D.sl 1 l3]] [.one (B true)] :=
 .of [.br false, .br false, .br true, .res [.one (B b4)], .br false, .br false, .br false, .br false, .br false, .loop [] [93, 92, 91] [] (.exit 1) qaq] _ func251 rfl (by kernel_rfl) h
theorem qz6 (n0 n1 n2 : Int) (l3 : List (List D))
  (h : Obs [(n0 == 2) = false, (n0 == 3) = false, (n0 == 4) = false, (n0 == 1) = true, (n0 == 1) = true, (n1 != 0) = true]) :
  Ret prog 251 [.agg [I n0, I n1, I n2, D.sl 1 l3]] [.one (B false)] :=
 .of [.br false, .br false, .br false, .br true, .br true, .br true] _ func251 rfl (by kernel_rfl) h
theorem qz7 (n0 n1 n2 : Int) (l3 : List (List D))
  (h : Obs [(n0 == 2) = false, (n0 == 3) = false, (n0 == 4) = false, (n0 == 1) = true, (n0 == 1) = true, (n1 != 0) = false, (n2 != 0) = true]) :
  Ret prog 251 [.agg [I n0, I n1, I n2, D.sl 1 l3]] [.one (B false)] :=
 .of [.br false, .br false, .br false, .br true, .br true, .br false, .br true] _ func251 rfl (by kernel_rfl) h
theorem qz8 (n0 n1 n2 : Int) (l3 : List (List D))
  (h : Obs [(n0 == 2) = false, (n0 == 3) = false, (n0 == 4) = false, (n0 == 1) = true, (n0 == 1) = true, (n1 != 0) = false, (n2 != 0) = false, decide ((l3.length : Int) > 2) = true]) :
  Ret prog 251 [.agg [I n0, I n1, I n2, D.sl 1 l3]] [.one (B false)] :=
 .of [.br false, .br false, .br false, .br true, .br true, .br false, .br false, .br true] _ func251 rfl (by kernel_rfl) h
theorem qz9 (n0 n1 n2 : Int) (l3 : List (List D))
  (h : Obs [(n0 == 2) = false, (n0 == 3) = false, (n0 == 4) = false, (n0 == 1) = true, (n0 == 1) = true, (n1 != 0) = false, (n2 != 0) = false, decide ((l3.length : Int) > 2) = false, (n0 == 8) = true, decide ((l3.length : Int) > 0) = true]) :
  Ret prog 251 [.agg [I n0, I n1, I n2, D.sl 1 l3]] [.one (B false)] :=
 .of [.br false, .br false, .br false, .br true, .br true, .br false, .br false, .br false, .br true, .br true] _ func251 rfl (by kernel_rfl) h
theorem qAa (n0 n1 n2 : Int) (l3 : List (List D)) (n4 n5 : Int)
  (h : Obs [(n0 == 2) = false, (n0 == 3) = false, (n0 == 4) = false, (n0 == 1) = true, (n0 == 1) = true, (n1 != 0) = false, (n2 != 0) = false, decide ((l3.length : Int) > 2) = false, (n0 == 8) = true, decide ((l3.length : Int) > 0) = false, ((l3.length : Int) == 2) = true, (0 : Int) ≤ 0, 0 < (l3.length : Int), l3[0]? = some [I n4], (0 : Int) ≤ 1, 1 < (l3.length : Int), l3[1]? = some [I n5], (n4 == n5) = true]) :
  Ret prog 251 [.agg [I n0, I n1, I n2, D.sl 1 l3]] [.one (B false)] :=
 .of [.br false, .br false, .br false, .br true, .br true, .br false, .br false, .br false, .br true, .br false, .br true, .el [I n4], .el [I n5], .br true] _ func251 rfl (by kernel_rfl) h
theorem qAb (n0 n1 n2 : Int) (l3 : List (List D)) (n4 n5 : Int) (b6 : Bool)
  (h : Obs [(n0 == 2) = false, (n0 == 3) = false, (n0 == 4) = false, (n0 == 1) = true, (n0 == 1) = true, (n1 != 0) = false, (n2 != 0) = false, decide ((l3.length : Int) > 2) = false, (n0 == 8) = true, decide ((l3.length : Int) > 0) = false, ((l3.length : Int) == 2) = true, (0 : Int) ≤ 0, 0 < (l3.length : Int), l3[0]? = some [I n4], (0 : Int) ≤ 1, 1 < (l3.length : Int), l3[1]? = some [I n5], (n4 == n5) = false, qac prog (qaa f251 0) (qan l3 0) .ret (qap b6)]) :
  Ret prog 251 [.agg [I n0, I n1, I n2, D.sl 1 l3]] [.one (B b6)] :=
 .of [.br false, .br false, .br false, .br true, .br true, .br false, .br false, .br false, .br true, .br false, .br true, .el [I n4], .el [I n5], .br false, .loop [] [93, 92, 91] [] .ret (qap b6)] _ func251 rfl (by kernel_rfl) h
theorem qAc (n0 n1 n2 : Int) (l3 : List (List D)) (n4 n5 : Int)
  (h : Obs [(n0 == 2) = false, (n0 == 3) = false, (n0 == 4) = false, (n0 == 1) = true, (n0 == 1) = true, (n1 != 0) = false, (n2 != 0) = false, decide ((l3.length : Int) > 2) = false, (n0 == 8) = true, decide ((l3.length : Int) > 0) = false, ((l3.length : Int) == 2) = true, (0 : Int) ≤ 0, 0 < (l3.length : Int), l3[0]? = some [I n4], (0 : Int) ≤ 1, 1 < (l3.length : Int), l3[1]? = some [I n5], (n4 == n5) = false, qac prog (qaa f251 0) (qan l3 0) (.exit 1) qaq]) :
  Ret prog 251 [.agg [I n0, I n1, I n2, D.sl 1 l3]] [.one (B true)] :=
 .of [.br false, .br false, .br false, .br true, .br true, .br false, .br false, .br false, .br true, .br false, .br true, .el [I n4], .el [I n5], .br false, .loop [] [93, 92, 91] [] (.exit 1) qaq] _ func251 rfl (by kernel_rfl) h
theorem qAd (n0 n1 n2 : Int) (l3 : List (List D)) (b4 : Bool)
  (h : Obs [(n0 == 2) = false, (n0 == 3) = false, (n0 == 4) = false, (n0 == 1) = true, (n0 == 1) = true, (n1 != 0) = false, (n2 != 0) = false, decide ((l3.length : Int) > 2) = false, (n0 == 8) = true, decide ((l3.length : Int) > 0) = false, ((l3.length : Int) == 2) = false, qac prog (qaa f251 0) (qan l3 0) .ret (qap b4)]) :
  Ret prog 251 [.agg [I n0, I n1, I n2, D.sl 1 l3]] [.one (B b4)] :=
 .of [.br false, .br false, .br false, .br true, .br true, .br false, .br false, .br false, .br true, .br false, .br false, .loop [] [93, 92, 91] [] .ret (qap b4)] _ func251 rfl (by kernel_rfl) h
theorem qAe (n0 n1 n2 : Int) (l3 : List (List D))
  (h : Obs [(n0 == 2) = false, (n0 == 3) = false, (n0 == 4) = false, (n0 == 1) = true, (n0 == 1) = true, (n1 != 0) = false, (n2 != 0) = false, decide ((l3.length : Int) > 2) = false, (n0 == 8) = true, decide ((l3.length : Int) > 0) = false, ((l3.length : Int) == 2) = false, qac prog (qaa f251 0) (qan l3 0) (.exit 1) qaq]) :
  Ret prog 251 [.agg [I n0, I n1, I n2, D.sl 1 l3]] [.one (B true)] :=
 .of [.br false, .br false, .br false, .br true, .br true, .br false, .br false, .br false, .br true, .br false, .br false, .loop [] [93, 92, 91] [] (.exit 1) qaq] _ func251 rfl (by kernel_rfl) h
theorem qAf (n0 n1 n2 : Int) (l3 : List (List D)) (n4 n5 : Int)
  (h : Obs [(n0 == 2) = false, (n0 == 3) = false, (n0 == 4) = false, (n0 == 1) = true, (n0 == 1) = true, (n1 != 0) = false, (n2 != 0) = false, decide ((l3.length : Int) > 2) = false, (n0 == 8) = false, ((l3.length : Int) == 2) = true, (0 : Int) ≤ 0, 0 < (l3.length : Int), l3[0]? = some [I n4], (0 : Int) ≤ 1, 1 < (l3.length : Int), l3[1]? = some [I n5], (n4 == n5) = true]) :
  Ret prog 251 [.agg [I n0, I n1, I n2, D.sl 1 l3]] [.one (B false)] :=
 .of [.br false, .br false, .br false, .br true, .br true, .br false, .br false, .br false, .br false, .br true, .el [I n4], .el [I n5], .br true] _ func251 rfl (by kernel_rfl) h
theorem qAg (n0 n1 n2 : Int) (l3 : List (List D)) (n4 n5 : Int) (b6 : Bool)
  (h : Obs [(n0 == 2) = false, (n0 == 3) = false, (n0 == 4) = false, (n0 == 1) = true, (n0 == 1) = true, (n1 != 0) = false, (n2 != 0) = false, decide ((l3.length : Int) > 2) = false, (n0 == 8) = false, ((l3.length : Int) == 2) = true, (0 : Int) ≤ 0, 0 < (l3.length : Int), l3[0]? = some [I n4], (0 : Int) ≤ 1, 1 < (l3.length : Int), l3[1]? = some [I n5], (n4 == n5) = false, qac prog (qaa f251 0) (qan l3 0) .ret (qap b6)]) :
  Ret prog 251 [.agg [I n0, I n1, I n2, D.sl 1 l3]] [.one (B b6)] :=
 .of [.br false, .br false, .br false, .br true, .br true, .br false, .br false, .br false, .br false, .br true, .el [I n4], .el [I n5], .br false, .loop [] [93, 92, 91] [] .ret (qap b6)] _ func251 rfl (by kernel_rfl) h
theorem qAh (n0 n1 n2 : Int) (l3 : List (List D)) (n4 n5 : Int)
  (h : Obs [(n0 == 2) = false, (n0 == 3) = false, (n0 == 4) = false, (n0 == 1) = true, (n0 == 1) = true, (n1 != 0) = false, (n2 != 0) = false, decide ((l3.length : Int) > 2) = false, (n0 == 8) = false, ((l3.length : Int) == 2) = true, (0 : Int) ≤ 0, 0 < (l3.length : Int), l3[0]? = some [I n4], (0 : Int) ≤ 1, 1 < (l3.length : Int), l3[1]? = some [I n5], (n4 == n5) = false, qac prog (qaa f251 0) (qan l3 0) (.exit 1) qaq]) :
  Ret prog 251 [.agg [I n0, I n1, I n2, D.sl 1 l3]] [.one (B true)] :=
 .of [.br false, .br false, .br false, .br true, .br true, .br false, .br false, .br false, .br false, .br true, .el [I n4], .el [I n5], .br false, .loop [] [93, 92, 91] [] (.exit 1) qaq] _ func251 rfl (by kernel_rfl) h
theorem qAi (n0 n1 n2 : Int) (l3 : List (List D)) (b4 : Bool)
  (h : Obs [(n0 == 2) = false, (n0 == 3) = false, (n0 == 4) = false, (n0 == 1) = true, (n0 == 1) = true, (n1 != 0) = false, (n2 != 0) = false, decide ((l3.length : Int) > 2) = false, (n0 == 8) = false, ((l3.length : Int) == 2) = false, qac prog (qaa f251 0) (qan l3 0) .ret (qap b4)]) :
  Ret prog 251 [.agg [I n0, I n1, I n2, D.sl 1 l3]] [.one (B b4)] :=
 .of [.br false, .br false, .br false, .br true, .br true, .br false, .br false, .br false, .br false, .br false, .loop [] [93, 92, 91] [] .ret (qap b4)] _ func251 rfl (by kernel_rfl) h
theorem qAj (n0 n1 n2 : Int) (l3 : List (List D))
  (h : Obs [(n0 == 2) = false, (n0 == 3) = false, (n0 == 4) = false, (n0 == 1) = true, (n0 == 1) = true, (n1 != 0) = false, (n2 != 0) = false, decide ((l3.length : Int) > 2) = false, (n0 == 8) = false, ((l3.length : Int) == 2) = false, qac prog (qaa f251 0) (qan l3 0) (.exit 1) qaq]) :
  Ret prog 251 [.agg [I n0, I n1, I n2, D.sl 1 l3]] [.one (B true)] :=
 .of [.br false, .br false, .br false, .br true, .br true, .br false, .br false, .br false, .br false, .br false, .loop [] [93, 92, 91] [] (.exit 1) qaq] _ func251 rfl (by kernel_rfl) h
theorem qAk (n0 n1 n2 : Int) (l3 : List (List D))
  (h : Obs [(n0 == 2) = false, (n0 == 3) = false, (n0 == 4) = false, (n0 == 1) = false, (n0 == 5) = true, (n0 == 5) = true, (n1 != 0) = true]) :
  Ret prog 251 [.agg [I n0, I n1, I n2, D.sl 1 l3]] [.one (B false)] :=
 .of [.br false, .br false, .br false, .br false, .br true, .br true, .br true] _ func251 rfl (by kernel_rfl) h
theorem qAl (n0 n1 n2 : Int) (l3 : List (List D))
  (h : Obs [(n0 == 2) = false, (n0 == 3) = false, (n0 == 4) = false, (n0 == 1) = false, (n0 == 5) = true, (n0 == 5) = true, (n1 != 0) = false, (n2 != 0) = true]) :
  Ret prog 251 [.agg [I n0, I n1, I n2, D.sl 1 l3]] [.one (B false)] :=
 .of [.br false, .br false, .br false, .br false, .br true, .br true, .br false, .br true] _ func251 rfl (by kernel_rfl) h
theorem qAm (n0 n1 n2 : Int) (l3 : List (List D))
  (h : Obs [(n0 == 2) = false, (n0 == 3) = false, (n0 == 4) = false, (n0 == 1) = false, (n0 == 5) = true, (n0 == 5) = true, (n1 != 0) = false, (n2 != 0) = false, decide ((l3.length : Int) > 2) = true]) :
  Ret prog 251 [.agg [I n0, I n1, I n2, D.sl 1 l3]] [.one (B false)] :=
 .of [.br false, .br false, .br false, .br false, .br true, .br true, .br false, .br false, .br true] _ func251 rfl (by kernel_rfl) h
theorem qAn (n0 n1 n2 : Int) (l3 : List (List D))
  (h : Obs [(n0 == 2) = false, (n0 == 3) = false, (n0 == 4) = false, (n0 == 1) = false, (n0 == 5) = true, (n0 == 5) = true, (n1 != 0) = false, (n2 != 0) = false, decide ((l3.length : Int) > 2) = false, (n0 == 8) = true, decide ((l3.length : Int) > 0) = true]) :
  Ret prog 251 [.agg [I n0, I n1, I n2, D.sl 1 l3]] [.one (B false)] :=
 .of [.br false, .br false, .br false, .br false, .br true, .br true, .br false, .br false, .br false, .br true, .br true] _ func251 rfl (by kernel_rfl) h
theorem qAo (n0 n1 n2 : Int) (l3 : List (List D)) (n4 n5 : Int)
  (h : Obs [(n0 == 2) = false, (n0 == 3) = false, (n0 == 4) = false, (n0 == 1) = false, (n0 == 5) = true, (n0 == 5) = true, (n1 != 0) = false, (n2 != 0) = false, decide ((l3.length : Int) > 2) = false, (n0 == 8) = true, decide ((l3.length : Int) > 0) = false, ((l3.length : Int) == 2) = true, (0 : Int) ≤ 0, 0 < (l3.length : Int), l3[0]? = some [I n4], (0 : Int) ≤ 1, 1 < (l3.length : Int), l3[1]? = some [I n5], (n4 == n5) = true]) :
  Ret prog 251 [.agg [I n0, I n1, I n2, D.sl 1 l3]] [.one (B false)] :=
 .of [.br false, .br false, .br false, .br false, .br true, .br true, .br false, .br false, .br false, .br true, .br false, .br true, .el [I n4], .el [I n5], .br true] _ func251 rfl (by kernel_rfl) h
theorem qAp (n0 n1 n2 : Int) (l3 : List (List D)) (n4 n5 : Int) (b6 : Bool)
  (h : Obs [(n0 == 2) = false, (n0 == 3) = false, (n0 == 4) = false, (n0 == 1) = false, (n0 == 5) = true, (n0 == 5) = true, (n1 != 0) = false, (n2 != 0) = false, decide ((l3.length : Int) > 2) = false, (n0 == 8) = true, decide ((l3.length : Int) > 0) = false, ((l3.length : Int) == 2) = true, (0 : Int) ≤ 0, 0 < (l3.length : Int), l3[0]? = some [I n4], (0 : Int) ≤ 1, 1 < (l3.length : Int), l3[1]? = some [I n5], (n4 == n5) = false, qac prog (qaa f251 0) (qan l3 0) .ret (qap b6)]) :
  Ret prog 251 [.agg [I n0, I n1, I n2, D.sl 1 l3]] [.one (B b6)] :=
 .of [.br false, .br false, .br false, .br false, .br true, .br true, .br false, .br false, .br false, .br true, .br false, .br true, .el [I n4], .el [I n5], .br false, .loop [] [93, 92, 91] [] .ret (qap b6)] _ func251 rfl (by kernel_rfl) h
theorem qAq (n0 n1 n2 : Int) (l3 : List (List D)) (n4 n5 : Int)
  (h : Obs [(n0 == 2) = false, (n0 == 3) = false, (n0 == 4) = false, (n0 == 1) = false, (n0 == 5) = true, (n0 == 5) = true, (n1 != 0) = false, (n2 != 0) = false, decide ((l3.length : Int) > 2) = false, (n0 == 8) = true, decide ((l3.length : Int) > 0) = false, ((l3.length : Int) == 2) = true, (0 : Int) ≤ 0, 0 < (l3.length : Int), l3[0]? = some [I n4], (0 : Int) ≤ 1, 1 < (l3.length : Int), l3[1]? = some [I n5], (n4 == n5) = false, qac prog (qaa f251 0) (qan l3 0) (.exit 1) qaq]) :
  Ret prog 251 [.agg [I n0, I n1, I n2, D.sl 1 l3]] [.one (B true)] :=
 .of [.br false, .br false, .br false, .br false, .br true, .br true, .br false, .br false, .br false, .br true, .br false, .br true, .el [I n4], .el [I n5], .br false, .loop [] [93, 92, 91] [] (.exit 1) qaq] _ func251 rfl (by kernel_rfl) h
theorem qAr (n0 n1 n2 : Int) (l3 : List (List D)) (b4 : Bool)
  (h : Obs [(n0 == 2) = false, (n0 == 3) = false, (n0 == 4) = false, (n0 == 1) = false, (n0 == 5) = true, (n0 == 5) = true, (n1 != 0) = false, (n2 != 0) = false, decide ((l3.length : Int) > 2) = false, (n0 == 8) = true, decide ((l3.length : Int) > 0) = false, ((l3.length : Int) == 2) = false, qac prog (qaa f251 0) (qan l3 0) .ret (qap b4)]) :
  Ret prog 251 [.agg [I n0, I n1, I n2, D.sl 1 l3]] [.one (B b4)] :=
 .of [.br false, .br false, .br false, .br false, .br true, .br true, .br false, .br false, .br false, .br true, .br false, .br false, .loop [] [93, 92, 91] [] .ret (qap b4)] _ func251 rfl (by kernel_rfl) h
theorem qAs (n0 n1 n2 : Int) (l3 : List (List D))
  (h : Obs [(n0 == 2) = false, (n0 == 3) = false, (n0 == 4) = false, (n0 == 1) = false, (n0 == 5) = true, (n0 == 5) = true, (n1 != 0) = false, (n2 != 0) = false, decide ((l3.length : Int) > 2) = false, (n0 == 8) = true, decide ((l3.length : Int) > 0) = false, ((l3.length : Int) == 2) = false, qac prog (qaa f251 0) (qan l3 0) (.exit 1) qaq]) :
  Ret prog 251 [.agg [I n0, I n1, I n2, D.sl 1 l3]] [.one (B true)] :=
 .of [.br false, .br false, .br false, .br false, .br true, .br true, .br false, .br false, .br false, .br true, .br false, .br false, .loop [] [93, 92, 91] [] (.exit 1) qaq] _ func251 rfl (by kernel_rfl) h
theorem qAt (n0 n1 n2 : Int) (l3 : List (List D)) (n4 n5 : Int)
  (h : Obs [(n0 == 2) = false, (n0 == 3) = false, (n0 == 4) = false, (n0 == 1) = false, (n0 == 5) = true, (n0 == 5) = true, (n1 != 0) = false, (n2 != 0) = false, decide ((l3.length : Int) > 2) = false, (n0 == 8) = false, ((l3.length : Int) == 2) = true, (0 : Int) ≤ 0, 0 < (l3.length : Int), l3[0]? = some [I n4], (0 : Int) ≤ 1, 1 < (l3.length : Int), l3[1]? = some [I n5], (n4 == n5) = true]) :
  Ret prog 251 [.agg [I n0, I n1, I n2, D.sl 1 l3]] [.one (B false)] :=
 .of [.br false, .br false, .br false, .br false, .br true, .br true, .br false, .br false, .br false, .br false, .br true, .el [I n4], .el [I n5], .br true] _ func251 rfl (by kernel_rfl) h
theorem qAu (n0 n1 n2 : Int) (l3 : List (List D)) (n4 n5 : Int) (b6 : Bool)
  (h : Obs [(n0 == 2) = false, (n0 == 3) = false, (n0 == 4) = false, (n0 == 1) = false, (n0 == 5) = true, (n0 == 5) = true, (n1 != 0) = false, (n2 != 0) = false, decide ((l3.length : Int) > 2) = false, (n0 == 8) = false, ((l3.length : Int) == 2) = true, (0 : Int) ≤ 0, 0 < (l3.length : Int), l3[0]? = some [I n4], (0 : Int) ≤ 1, 1 < (l3.length : Int), l3[1]? = some [I n5], (n4 == n5) = false, qac prog (qaa f251 0) (qan l3 0) .ret (qap b6)]) :
  Ret prog 251 [.agg [I n0, I n1, I n2, D.sl 1 l3]] [.one (B b6)] :=
 .of [.br false, .br false, .br false, .br false, .br true, .br true, .br false, .br false, .br false, .br false, .br true, .el [I n4], .el [I n5], .br false, .loop [] [93, 92, 91] [] .ret (qap b6)] _ func251 rfl (by kernel_rfl) h
theorem qAv (n0 n1 n2 : Int) (l3 : List (List D)) (n4 n5 : Int)
  (h : Obs [(n0 == 2) = false, (n0 == 3) = false, (n0 == 4) = false, (n0 == 1) = false, (n0 == 5) = true, (n0 == 5) = true, (n1 != 0) = false, (n2 != 0) = false, decide ((l3.length : Int) > 2) = false, (n0 == 8) = false, ((l3.length : Int) == 2) = true, (0 : Int) ≤ 0, 0 < (l3.length : Int), l3[0]? = some [I n4], (0 : Int) ≤ 1, 1 < (l3.length : Int), l3[1]? = some [I n5], (n4 == n5) = false, qac prog (qaa f251 0) (qan l3 0) (.exit 1) qaq]) :
  Ret prog 251 [.agg [I n0, I n1, I n2, D.sl 1 l3]] [.one (B true)] :=
 .of [.br false, .br false, .br false, .br false, .br true, .br true, .br false, .br false, .br false, .br false, .br true, .el [I n4], .el [I n5], .br false, .loop [] [93, 92, 91] [] (.exit 1) qaq] _ func251 rfl (by kernel_rfl) h
theorem qAw (n0 n1 n2 : Int) (l3 : List (List D)) (b4 : Bool)
  (h : Obs [(n0 == 2) = false, (n0 == 3) = false, (n0 == 4) = false, (n0 == 1) = false, (n0 == 5) = true, (n0 == 5) = true, (n1 != 0) = false, (n2 != 0) = false, decide ((l3.length : Int) > 2) = false, (n0 == 8) = false, ((l3.length : Int) == 2) = false, qac prog (qaa f251 0) (qan l3 0) .ret (qap b4)]) :
  Ret prog 251 [.agg [I n0, I n1, I n2, D.sl 1 l3]] [.one (B b4)] :=
 .of [.br false, .br false, .br false, .br false, .br true, .br true, .br false, .br false, .br false, .br false, .br false, .loop [] [93, 92, 91] [] .ret (qap b4)] _ func251 rfl (by kernel_rfl) h
theorem qAx (n0 n1 n2 : Int) (l3 : List (List D))
  (h : Obs [(n0 == 2) = false, (n0 == 3) = false, (n0 == 4) = false, (n0 == 1) = false, (n0 == 5) = true, (n0 == 5) = true, (n1 != 0) = false, (n2 != 0) = false, decide ((l3.length : Int) > 2) = false, (n0 == 8) = false, ((l3.length : Int) == 2) = false, qac prog (qaa f251 0) (qan l3 0) (.exit 1) qaq]) :
  Ret prog 251 [.agg [I n0, I n1, I n2, D.sl 1 l3]] [.one (B true)] :=
 .of [.br false, .br false, .br false, .br false, .br true, .br true, .br false, .br false, .br false, .br false, .br false, .loop [] [93, 92, 91] [] (.exit 1) qaq] _ func251 rfl (by kernel_rfl) h
theorem qAy (n0 n1 n2 : Int) (l3 : List (List D))
  (h : Obs [(n0 == 2) = false, (n0 == 3) = false, (n0 == 4) = false, (n0 == 1) = false, (n0 == 5) = false, (n0 == 6) = true, (n0 == 6) = true, (n1 != 0) = true]) :
  Ret prog 251 [.agg [I n0, I n1, I n2, D.sl 1 l3]] [.one (B false)] :=
 .of [.br false, .br false, .br false, .br false, .br false, .br true, .br true, .br true] _ func251 rfl (by kernel_rfl) h
theorem qAz (n0 n1 n2 : Int) (l3 : List (List D))
  (h : Obs [(n0 == 2) = false, (n0 == 3) = false, (n0 == 4) = false, (n0 == 1) = false, (n0 == 5) = false, (n0 == 6) = true, (n0 == 6) = true, (n1 != 0) = false, (n2 != 0) = true]) :
  Ret prog 251 [.agg [I n0, I n1, I n2, D.sl 1 l3]] [.one (B false)] :=
 .of [.br false, .br false, .br false, .br false, .br false, .br true, .br true, .br false, .br true] _ func251 rfl (by kernel_rfl) h
theorem qAA (n0 n1 n2 : Int) (l3 : List (List D))
  (h : Obs [(n0 == 2) = false, (n0 == 3) = false, (n0 == 4) = false, (n0 == 1) = false, (n0 == 5) = false, (n0 == 6) = true, (n0 == 6) = true, (n1 != 0) = false, (n2 != 0) = false, decide ((l3.length : Int) > 2) = true]) :
  Ret prog 251 [.agg [I n0, I n1, I n2, D.sl 1 l3]] [.one (B false)] :=
 .of [.br false, .br false, .br false, .br false, .br false, .br true, .br true, .br false, .br false, .br true] _ func251 rfl (by kernel_rfl) h
theorem qAB (n0 n1 n2 : Int) (l3 : List (List D))
  (h : Obs [(n0 == 2) = false, (n0 == 3) = false, (n0 == 4) = false, (n0 == 1) = false, (n0 == 5) = false, (n0 == 6) = true, (n0 == 6) = true, (n1 != 0) = false, (n2 != 0) = false, decide ((l3.length : Int) > 2) = false, (n0 == 8) = true, decide ((l3.length : Int) > 0) = true]) :
  Ret prog 251 [.agg [I n0, I n1, I n2, D.sl 1 l3]] [.one (B false)] :=
 .of [.br false, .br false, .br false, .br false, .br false, .br true, .br true, .br false, .br false, .br false, .br true, .br true] _ func251 rfl (by kernel_rfl) h
theorem qAC (n0 n1 n2 : Int) (l3 : List (List D)) (n4 n5 : Int)
  (h : Obs [(n0 == 2) = false, (n0 == 3) = false, (n0 == 4) = false, (n0 == 1) = false, (n0 == 5) = false, (n0 == 6) = true, (n0 == 6) = true, (n1 != 0) = false, (n2 != 0) = false, decide ((l3.length : Int) > 2) = false, (n0 == 8) = true, decide ((l3.length : Int) > 0) = false, ((l3.length : Int) == 2) = true, (0 : Int) ≤ 0, 0 < (l3.length : Int), l3[0]? = some [I n4], (0 : Int) ≤ 1, 1 < (l3.length : Int), l3[1]? = some [I n5], (n4 == n5) = true]) :
  Ret prog 251 [.agg [I n0, I n1, I n2, D.sl 1 l3]] [.one (B false)] :=
 .of [.br false, .br false, .br false, .br false, .br false, .br true, .br true, .br false, .br false, .br false, .br true, .br false, .br true, .el [I n4], .el [I n5], .br true] _ func251 rfl (by kernel_rfl) h
theorem qAD (n0 n1 n2 : Int) (l3 : List (List D)) (n4 n5 : Int) (b6 : Bool)
  (h : Obs [(n0 == 2) = false, (n0 == 3) = false, (n0 == 4) = false, (n0 == 1) = false, (n0 == 5) = false, (n0 == 6) = true, (n0 == 6) = true, (n1 != 0) = false, (n2 != 0) = false, decide ((l3.length : Int) > 2) = false, (n0 == 8) = true, decide ((l3.length : Int) > 0) = false, ((l3.length : Int) == 2) = true, (0 : Int) ≤ 0, 0 < (l3.length : Int), l3[0]? = some [I n4], (0 : Int) ≤ 1, 1 < (l3.length : Int), l3[1]? = some [I n5], (n4 == n5) = false, qac prog (qaa f251 0) (qan l3 0) .ret (qap b6)]) :
  Ret prog 251 [.agg [I n0, I n1, I n2, D.sl 1 l3]] [.one (B b6)] :=
 .of [.br false, .br false, .br false, .br false, .br false, .br true, .br true, .br false, .br false, .br false, .br true, .br false, .br true, .el [I n4], .el [I n5], .br false, .loop [] [93, 92, 91] [] .ret (qap b6)] _ func251 rfl (by kernel_rfl) h
theorem qAE (n0 n1 n2 : Int) (l3 : List (List D)) (n4 n5 : Int)
  (h : Obs [(n0 == 2) = false, (n0 == 3) = false, (n0 == 4) = false, (n0 == 1) = false, (n0 == 5) = false, (n0 == 6) = true, (n0 == 6) = true, (n1 != 0) = false, (n2 != 0) = false, decide ((l3.length : Int) > 2) = false, (n0 == 8) = true, decide ((l3.length : Int) > 0) = false, ((l3.length : Int) == 2) = true, (0 : Int) ≤ 0, 0 < (l3.length : Int), l3[0]? = some [I n4], (0 : Int) ≤ 1, 1 < (l3.length : Int), l3[1]? = some [I n5], (n4 == n5) = false, qac prog (qaa f251 0) (qan l3 0) (.exit 1) qaq]) :
  Ret prog 251 [.agg [I n0, I n1, I n2, D.sl 1 l3]] [.one (B true)] :=
 .of [.br false, .br false, .br false, .br false, .br false, .br true, .br true, .br false, .br false, .br false, .br true, .br false, .br true, .el [I n4], .el [I n5], .br false, .loop [] [93, 92, 91] [] (.exit 1) qaq] _ func251 rfl (by kernel_rfl) h
theorem qAF (n0 n1 n2 : Int) (l3 : List (List D)) (b4 : Bool)
  (h : Obs [(n0 == 2) = false, (n0 == 3) = false, (n0 == 4) = false, (n0 == 1) = false, (n0 == 5) = false, (n0 == 6) = true, (n0 == 6) = true, (n1 != 0) = false, (n2 != 0) = false, decide ((l3.length : Int) > 2) = false, (n0 == 8) = true, decide ((l3.length : Int) > 0) = false, ((l3.length : Int) == 2) = false, qac prog (qaa f251 0) (qan l3 0) .ret (qap b4)]) :
  Ret prog 251 [.agg [I n0, I n1, I n2, D.sl 1 l3]] [.one (B b4)] :=
 .of [.br false, .br false, .br false, .br false, .br false, .br true, .br true, .br false, .br false, .br false, .br true, .br false, .br false, .loop [] [93, 92, 91] [] .ret (qap b4)] _ func251 rfl (by kernel_rfl) h
theorem qAG (n0 n1 n2 : Int) (l3 : List (List D))
  (h : Obs [(n0 == 2) = false, (n0 == 3) = false, (n0 == 4) = false, (n0 == 1) = false, (n0 == 5) = false, (n0 == 6) = true, (n0 == 6) = true, (n1 != 0) = false, (n2 != 0) = false, decide ((l3.length : Int) > 2) = false, (n0 == 8) = true, decide ((l3.length : Int) > 0) = false, ((l3.length : Int) == 2) = false, qac prog (qaa f251 0) (qan l3 0) (.exit 1) qaq]) :
  Ret prog 251 [.agg [I n0, I n1, I n2, D.sl 1 l3]] [.one (B true)] :=
 .of [.br false, .br false, .br false, .br false, .br false, .br true, .br true, .br false, .br false, .br false, .br true, .br false, .br false, .loop [] [93, 92, 91] [] (.exit 1) qaq] _ func251 rfl (by kernel_rfl) h
theorem qAH (n0 n1 n2 : Int) (l3 : List (List D)) (n4 n5 : Int)
  (h : Obs [(n0 == 2) = false, (n0 == 3) = false, (n0 == 4) = false, (n0 == 1) = false, (n0 == 5) = false, (n0 == 6) = true, (n0 == 6) = true, (n1 != 0) = false, (n2 != 0) = false, decide ((l3.length : Int) > 2) = false, (n0 == 8) = false, ((l3.length : Int) == 2) = true, (0 : Int) ≤ 0, 0 < (l3.length : Int), l3[0]? = some [I n4], (0 : Int) ≤ 1, 1 < (l3.length : Int), l3[1]? = some [I n5], (n4 == n5) = true]) :
  Ret prog 251 [.agg [I n0, I n1, I n2, D.sl 1 l3]] [.one (B false)] :=
 .of [.br false, .br false, .br false, .br false, .br false, .br true, .br true, .br false, .br false, .br false, .br false, .br true, .el [I n4], .el [I n5], .br true] _ func251 rfl (by kernel_rfl) h
theorem qAI (n0 n1 n2 : Int) (l3 : List (List D)) (n4 n5 : Int) (b6 : Bool)
  (h : Obs [(n0 == 2) = false, (n0 == 3) = false, (n0 == 4) = false, (n0 == 1) = false, (n0 == 5) = false, (n0 == 6) = true, (n0 == 6) = true, (n1 != 0) = false, (n2 != 0) = false, decide ((l3.length : Int) > 2) = false, (n0 == 8) = false, ((l3.length : Int) == 2) = true, (0 : Int) ≤ 0, 0 < (l3.length : Int), l3[0]? = some [I n4], (0 : Int) ≤ 1, 1 < (l3.length : Int), l3[1]? = some [I n5], (n4 == n5) = false, qac prog (qaa f251 0) (qan l3 0) .ret (qap b6)]) :
  Ret prog 251 [.agg [I n0, I n1, I n2, D.sl 1 l3]] [.one (B b6)] :=
 .of [.br false, .br false, .br false, .br false, .br false, .br true, .br true, .br false, .br false, .br false, .br false, .br true, .el [I n4], .el [I n5], .br false, .loop [] [93, 92, 91] [] .ret (qap b6)] _ func251 rfl (by kernel_rfl) h
theorem qAJ (n0 n1 n2 : Int) (l3 : List (List D)) (n4 n5 : Int)
  (h : Obs [(n0 == 2) = false, (n0 == 3) = false, (n0 == 4) = false, (n0 == 1) = false, (n0 == 5) = false, (n0 == 6) = true, (n0 == 6) = true, (n1 != 0) = false, (n2 != 0) = false, decide ((l3.length : Int) > 2) = false, (n0 == 8) = false, ((l3.length : Int) == 2) = true, (0 : Int) ≤ 0, 0 < (l3.length : Int), l3[0]? = some [I n4], (0 : Int) ≤ 1, 1 < (l3.length : Int), l3[1]? = some [I n5], (n4 == n5) = false, qac prog (qaa f251 0) (qan l3 0) (.exit 1) qaq]) :
  Ret prog 251 [.agg [I n0, I n1, I n2, D.sl 1 l3]] [.one (B true)] :=
 .of [.br false, .br false, .br false, .br false, .br false, .br true, .br true, .br false, .br false, .br false, .br false, .br true, .el [I n4], .el [I n5], .br false, .loop [] [93, 92, 91] [] (.exit 1) qaq] _ func251 rfl (by kernel_rfl) h
theorem qAK (n0 n1 n2 : Int) (l3 : List (List D)) (b4 : Bool)
  (h : Obs [(n0 == 2) = false, (n0 == 3) = false, (n0 == 4) = false, (n0 == 1) = false, (n0 == 5) = false, (n0 == 6) = true, (n0 == 6) = true, (n1 != 0) = false, (n2 != 0) = false, decide ((l3.length : Int) > 2) = false, (n0 == 8) = false, ((l3.length : Int) == 2) = false, qac prog (qaa f251 0) (qan l3 0) .ret (qap b4)]) :
  Ret prog 251 [.agg [I n0, I n1, I n2, D.sl 1 l3]] [.one (B b4)] :=
 .of [.br false, .br false, .br false, .br false, .br false, .br true, .br true, .br false, .br false, .br false, .br false, .br false, .loop [] [93, 92, 91] [] .ret (qap b4)] _ func251 rfl (by kernel_rfl) h
theorem qAL (n0 n1 n2 : Int) (l3 : List (List D))
  (h : Obs [(n0 == 2) = false, (n0 == 3) = false, (n0 == 4) = false, (n0 == 1) = false, (n0 == 5) = false, (n0 == 6) = true, (n0 == 6) = true, (n1 != 0) = false, (n2 != 0) = false, decide ((l3.length : Int) > 2) = false, (n0 == 8) = false, ((l3.length : Int) == 2) = false, qac prog (qaa f251 0) (qan l3 0) (.exit 1) qaq]) :
  Ret prog 251 [.agg [I n0, I n1, I n2, D.sl 1 l3]] [.one (B true)] :=
 .of [.br false, .br false, .br false, .br false, .br false, .br true, .br true, .br false, .br false, .br false, .br false, .br false, .loop [] [93, 92, 91] [] (.exit 1) qaq] _ func251 rfl (by kernel_rfl) h
theorem qAM (n0 n1 n2 : Int) (l3 : List (List D))
  (h : Obs [(n0 == 2) = false, (n0 == 3) = false, (n0 == 4) = false, (n0 == 1) = false, (n0 == 5) = false, (n0 == 6) = false, (n0 == 7) = true, (n0 == 7) = true, (n1 != 0) = true]) :
  Ret prog 251 [.agg [I n0, I n1, I n2, D.sl 1 l3]] [.one (B false)] :=
 .of [.br false, .br false, .br false, .br false, .br false, .br false, .br true, .br true, .br true] _ func251 rfl (by kernel_rfl) h
theorem qAN (n0 n1 n2 : Int) (l3 : List (List D))
  (h : Obs [(n0 == 2) = false, (n0 == 3) = false, (n0 == 4) = false, (n0 == 1) = false, (n0 == 5) = false, (n0 == 6) = false, (n0 == 7) = true, (n0 == 7) = true, (n1 != 0) = false, (n2 != 0) = true]) :
  Ret prog 251 [.agg [I n0, I n1, I n2, D.sl 1 l3]] [.one (B false)] :=
 .of [.br false, .br false, .br false, .br false, .br false, .br false, .br true, .br true, .br false, .br true] _ func251 rfl (by kernel_rfl) h
theorem qAO (n0 n1 n2 : Int) (l3 : List (List D))
  (h : Obs [(n0 == 2) = false, (n0 == 3) = false, (n0 == 4) = false, (n0 == 1) = false, (n0 == 5) = false, (n0 == 6) = false, (n0 == 7) = true, (n0 == 7) = true, (n1 != 0) = false, (n2 != 0) = false, decide ((l3.length : Int) > 2) = true]) :
  Ret prog 251 [.agg [I n0, I n1, I n2, D.sl 1 l3]] [.one (B false)] :=
 .of [.br false, .br false, .br false, .br false, .br false, .br false, .br true, .br true, .br false, .br false, .br true] _ func251 rfl (by kernel_rfl) h
theorem qAP (n0 n1 n2 : Int) (l3 : List (List D))
  (h : Obs [(n0 == 2) = false, (n0 == 3) = false, (n0 == 4) = false, (n0 == 1) = false, (n0 == 5) = false, (n0 == 6) = false, (n0 == 7) = true, (n0 == 7) = true, (n1 != 0) = false, (n2 != 0) = false, decide ((l3.length : Int) > 2) = false, (n0 == 8) = true, decide ((l3.length : Int) > 0) = true]) :
  Ret prog 251 [.agg [I n0, I n1, I n2, D.sl 1 l3]] [.one (B false)] :=
 .of [.br false, .br false, .br false, .br false, .br false, .br false, .br true, .br true, .br false, .br false, .br false, .br true, .br true] _ func251 rfl (by kernel_rfl) h
theorem qAQ (n0 n1 n2 : Int) (l3 : List (List D)) (n4 n5 : Int)
  (h : Obs [(n0 == 2) = false, (n0 == 3) = false, (n0 == 4) = false, (n0 == 1) = false, (n0 == 5) = false, (n0 == 6) = false, (n0 == 7) = true, (n0 == 7) = true, (n1 != 0) = false, (n2 != 0) = false, decide ((l3.length : Int) > 2) = false, (n0 == 8) = true, decide ((l3.length : Int) > 0) = false, ((l3.length : Int) == 2) = true, (0 : Int) ≤ 0, 0 < (l3.length : Int), l3[0]? = some [I n4], (0 : Int) ≤ 1, 1 < (l3.length : Int), l3[1]? = some [I n5], (n4 == n5) = true]) :
  Ret prog 251 [.agg [I n0, I n1, I n2, D.sl 1 l3]] [.one (B false)] :=
 .of [.br false, .br false, .br false, .br false, .br false, .br false, .br true, .br true, .br false, .br false, .br false, .br true, .br false, .br true, .el [I n4], .el [I n5], .br true] _ func251 rfl (by kernel_rfl) h
theorem qAR (n0 n1 n2 : Int) (l3 : List (List D)) (n4 n5 : Int) (b6 : Bool)
  (h : Obs [(n0 == 2) = false, (n0 == 3) = false, (n0 == 4) = false, (n0 == 1) = false, (n0 == 5) = false, (n0 == 6) = false, (n0 == 7) = true, (n0 == 7) = true, (n1 != 0) = false, (n2 != 0) = false, decide ((l3.length : Int) > 2) = false, (n0 == 8) = true, decide ((l3.length : Int) > 0) = false, ((l3.length : Int) == 2) = true, (0 : Int) ≤ 0, 0 < (l3.length : Int), l3[0]? = some [I n4], (0 : Int) ≤ 1, 1 < (l3.length : Int), l3[1]? = some [I n5], (n4 == n5) = false, qac prog (qaa f251 0) (qan l3 0) .ret (qap b6)]) :
  Ret prog 251 [.agg [I n0, I n1, I n2, D.sl 1 l3]] [.one (B b6)] :=
 .of [.br false, .br false, .br false, .br false, .br false, .br false, .br true, .br true, .br false, .br false, .br false, .br true, .br false, .br true, .el [I n4], .el [I n5], .br false, .loop [] [93, 92, 91] [] .ret (qap b6)] _ func251 rfl (by kernel_rfl) h
theorem qAS (n0 n1 n2 : Int) (l3 : List (List D)) (n4 n5 : Int)
  (h : Obs [(n0 == 2) = false, (n0 == 3) = false, (n0 == 4) = false, (n0 == 1) = false, (n0 == 5) = false, (n0 == 6) = false, (n0 == 7) = true, (n0 == 7) = true, (n1 != 0) = false, (n2 != 0) = false, decide ((l3.length : Int) > 2) = false, (n0 == 8) = true, decide ((l3.length : Int) > 0) = false, ((l3.length : Int) == 2) = true, (0 : Int) ≤ 0, 0 < (l3.length : Int), l3[0]? = some [I n4], (0 : Int) ≤ 1, 1 < (l3.length : Int), l3[1]? = some [I n5], (n4 == n5) = false, qac prog (qaa f251 0) (qan l3 0) (.exit 1) qaq]) :
  Ret prog 251 [.agg [I n0, I n1, I n2, D.sl 1 l3]] [.one (B true)] :=
 .of [.br false, .br false, .br false, .br false, .br false, .br false, .br true, .br true, .br false, .br false, .br false, .br true, .br false, .br true, .el [I n4], .el [I n5], .br false, .loop [] [93, 92, 91] [] (.exit 1) qaq] _ func251 rfl (by kernel_rfl) h
theorem qAT (n0 n1 n2 : Int) (l3 : List (List D)) (b4 : Bool)
  (h : Obs [(n0 == 2) = false, (n0 == 3) = false, (n0 == 4) = false, (n0 == 1) = false, (n0 == 5) = false, (n0 == 6) = false, (n0 == 7) = true, (n0 == 7) = true, (n1 != 0) = false, (n2 != 0) = false, decide ((l3.length : Int) > 2) = false, (n0 == 8) = true, decide ((l3.length : Int) > 0) = false, ((l3.length : Int) == 2) = false, qac prog (qaa f251 0) (qan l3 0) .ret (qap b4)]) :
  Ret prog 251 [.agg [I n0, I n1, I n2, D.sl 1 l3]] [.one (B b4)] :=
 .of [.br false, .br false, .br false, .br false, .br false, .br false, .br true, .br true, .br false, .br false, .br false, .br true, .br false, .br false, .loop [] [93, 92, 91] [] .ret (qap b4)] _ func251 rfl (by kernel_rfl) h
theorem qAU (n0 n1 n2 : Int) (l3 : List (List D))
  (h : Obs [(n0 == 2) = false, (n0 == 3) = false, (n0 == 4) = false, (n0 == 1) = false, (n0 == 5) = false, (n0 == 6) = false, (n0 == 7) = true, (n0 == 7) = true, (n1 != 0) = false, (n2 != 0) = false, decide ((l3.length : Int) > 2) = false, (n0 == 8) = true, decide ((l3.length : Int) > 0) = false, ((l3.length : Int) == 2) = false, qac prog (qaa f251 0) (qan l3 0) (.exit 1) qaq]) :
  Ret prog 251 [.agg [I n0, I n1, I n2, D.sl 1 l3]] [.one (B true)] :=
 .of [.br false, .br false, .br false, .br false, .br false, .br false, .br true, .br true, .br false, .br false, .br false, .br true, .br false, .br false, .loop [] [93, 92, 91] [] (.exit 1) qaq] _ func251 rfl (by kernel_rfl) h
theorem qAV (n0 n1 n2 : Int) (l3 : List (List D)) (n4 n5 : Int)
  (h : Obs [(n0 == 2) = false, (n0 == 3) = false, (n0 == 4) = false, (n0 == 1) = false, (n0 == 5) = false, (n0 == 6) = false, (n0 == 7) = true, (n0 == 7) = true, (n1 != 0) = false, (n2 != 0) = false, decide ((l3.length : Int) > 2) = false, (n0 == 8) = false, ((l3.length : Int) == 2) = true, (0 : Int) ≤ 0, 0 < (l3.length : Int), l3[0]? = some [I n4], (0 : Int) ≤ 1, 1 < (l3.length : Int), l3[1]? = some [I n5], (n4 == n5) = true]) :
  Ret prog 251 [.agg [I n0, I n1, I n2, D.sl 1 l3]] [.one (B false)] :=
 .of [.br false, .br false, .br false, .br false, .br false, .br false, .br true, .br true, .br false, .br false, .br false, .br false, .br true, .el [I n4], .el [I n5], .br true] _ func251 rfl (by kernel_rfl) h
theorem qAW (n0 n1 n2 : Int) (l3 : List (List D)) (n4 n5 : Int) (b6 : Bool)
  (h : Obs [(n0 == 2) = false, (n0 == 3) = false, (n0 == 4) = false, (n0 == 1) = false, (n0 == 5) = false, (n0 == 6) = false, (n0 == 7) = true, (n0 == 7) = true, (n1 != 0) = false, (n2 != 0) = false, decide ((l3.length : Int) > 2) = false, (n0 == 8) = false, ((l3.length : Int) == 2) = true, (0 : Int) ≤ 0, 0 < (l3.length : Int), l3[0]? = some [I n4], (0 : Int) ≤ 1, 1 < (l3.length : Int), l3[1]? = some [I n5], (n4 == n5) = false, qac prog (qaa f251 0) (qan l3 0) .ret (qap b6)]) :
  Ret prog 251 [.agg [I n0, I n1, I n2, D.sl 1 l3]] [.one (B b6)] :=
 .of [.br false, .br false, .br false, .br false, .br false, .br false, .br true, .br true, .br false, .br false, .br false, .br false, .br true, .el [I n4], .el [I n5], .br false, .loop [] [93, 92, 91] [] .ret (qap b6)] _ func251 rfl (by kernel_rfl) h
theorem qAX (n0 n1 n2 : Int) (l3 : List (List D)) (n4 n5 : Int)
  (h : Obs [(n0 == 2) = false, (n0 == 3) = false, (n0 == 4) = false, (n0 == 1) = false, (n0 == 5) = false, (n0 == 6) = false, (n0 == 7) = true, (n0 == 7) = true, (n1 != 0) = false, (n2 != 0) = false, decide ((l3.length : Int) > 2) = false, (n0 == 8) = false, ((l3.length : Int) == 2) = true, (0 : Int) ≤ 0, 0 < (l3.length : Int), l3[0]? = some [I n4], (0 : Int) ≤ 1, 1 < (l3.length : Int), l3[1]? = some [I n5], (n4 == n5) = false, qac prog (qaa f251 0) (qan l3 0) (.exit 1) qaq]) :
  Ret prog 251 [.agg [I n0, I n1, I n2, D.sl 1 l3]] [.one (B true)] :=
 .of [.br false, .br false, .br false, .br false, .br false, .br false, .br true, .br true, .br false, .br false, .br false, .br false, .br true, .el [I n4], .el [I n5], .br false, .loop [] [93, 92, 91] [] (.exit 1) qaq] _ func251 rfl (by kernel_rfl) h
theorem qAY (n0 n1 n2 : Int) (l3 : List (List D)) (b4 : Bool)
  (h : Obs [(n0 == 2) = false, (n0 == 3) = false, (n0 == 4) = false, (n0 == 1) = false, (n0 == 5) = false, (n0 == 6) = false, (n0 == 7) = true, (n0 == 7) = true, (n1 != 0) = false, (n2 != 0) = false, decide ((l3.length : Int) > 2) = false, (n0 == 8) = false, ((l3.length : Int) == 2) = false, qac prog (qaa f251 0) (qan l3 0) .ret (qap b4)]) :
  Ret prog 251 [.agg [I n0, I n1, I n2, D.sl 1 l3]] [.one (B b4)] :=
 .of [.br false, .br false, .br false, .br false, .br false, .br false, .br true, .br true, .br false, .br false, .br false, .br false, .br false, .loop [] [93, 92, 91] [] .ret (qap b4)] _ func251 rfl (by kernel_rfl) h
theorem qAZ (n0 n1 n2 : Int) (l3 : List (List D))
  (h : Obs [(n0 == 2) = false, (n0 == 3) = false, (n0 == 4) = false, (n0 == 1) = false, (n0 == 5) = false, (n0 == 6) = false, (n0 == 7) = true, (n0 == 7) = true, (n1 != 0) = false, (n2 != 0) = false, decide ((l3.length : Int) > 2) = false, (n0 == 8) = false, ((l3.length : Int) == 2) = false, qac prog (qaa f251 0) (qan l3 0) (.exit 1) qaq]) :
  Ret prog 251 [.agg [I n0, I n1, I n2, D.sl 1 l3]] [.one (B true)] :=
 .of [.br false, .br false, .br false, .br false, .br false, .br false, .br true, .br true, .br false, .br false, .br false, .br false, .br false, .loop [] [93, 92, 91] [] (.exit 1) qaq] _ func251 rfl (by kernel_rfl) h
theorem qA0 (n0 n1 n2 : Int) (l3 : List (List D))
  (h : Obs [(n0 == 2) = false, (n0 == 3) = false, (n0 == 4) = false, (n0 == 1) = false, (n0 == 5) = false, (n0 == 6) = false, (n0 == 7) = false, (n0 == 8) = true, (n1 != 0) = true]) :
  Ret prog 251 [.agg [I n0, I n1, I n2, D.sl 1 l3]] [.one (B false)] :=
 .of [.br false, .br false, .br false, .br false, .br false, .br false, .br false, .br true, .br true] _ func251 rfl (by kernel_rfl) h
theorem qA1 (n0 n1 n2 : Int) (l3 : List (List D))
  (h : Obs [(n0 == 2) = false, (n0 == 3) = false, (n0 == 4) = false, (n0 == 1) = false, (n0 == 5) = false, (n0 == 6) = false, (n0 == 7) = false, (n0 == 8) = true, (n1 != 0) = false, (n2 != 0) = true]) :
  Ret prog 251 [.agg [I n0, I n1, I n2, D.sl 1 l3]] [.one (B false)] :=
 .of [.br false, .br false, .br false, .br false, .br false, .br false, .br false, .br true, .br false, .br true] _ func251 rfl (by kernel_rfl) h
theorem qA2 (n0 n1 n2 : Int) (l3 : List (List D))
  (h : Obs [(n0 == 2) = false, (n0 == 3) = false, (n0 == 4) = false, (n0 == 1) = false, (n0 == 5) = false, (n0 == 6) = false, (n0 == 7) = false, (n0 == 8) = true, (n1 != 0) = false, (n2 != 0) = false, decide ((l3.length : Int) > 2) = true]) :
  Ret prog 251 [.agg [I n0, I n1, I n2, D.sl 1 l3]] [.one (B false)] :=
 .of [.br false, .br false, .br false, .br false, .br false, .br false, .br false, .br true, .br false, .br false, .br true] _ func251 rfl (by kernel_rfl) h
theorem qA3 (n0 n1 n2 : Int) (l3 : List (List D))
  (h : Obs [(n0 == 2) = false, (n0 == 3) = false, (n0 == 4) = false, (n0 == 1) = false, (n0 == 5) = false, (n0 == 6) = false, (n0 == 7) = false, (n0 == 8) = true, (n1 != 0) = false, (n2 != 0) = false, decide ((l3.length : Int) > 2) = false, (n0 == 8) = true, decide ((l3.length : Int) > 0) = true]) :
  Ret prog 251 [.agg [I n0, I n1, I n2, D.sl 1 l3]] [.one (B false)] :=
 .of [.br false, .br false, .br false, .br false, .br false, .br false, .br false, .br true, .br false, .br false, .br false, .br true, .br true] _ func251 rfl (by kernel_rfl) h
theorem qA4 (n0 n1 n2 : Int) (l3 : List (List D)) (n4 n5 : Int)
  (h : Obs [(n0 == 2) = false, (n0 == 3) = false, (n0 == 4) = false, (n0 == 1) = false, (n0 == 5) = false, (n0 == 6) = false, (n0 == 7) = false, (n0 == 8) = true, (n1 != 0) = false, (n2 != 0) = false, decide ((l3.length : Int) > 2) = false, (n0 == 8) = true, decide ((l3.length : Int) > 0) = false, ((l3.length : Int) == 2) = true, (0 : Int) ≤ 0, 0 < (l3.length : Int), l3[0]? = some [I n4], (0 : Int) ≤ 1, 1 < (l3.length : Int), l3[1]? = some [I n5], (n4 == n5) = true]) :
  Ret prog 251 [.agg [I n0, I n1, I n2, D.sl 1 l3]] [.one (B false)] :=
 .of [.br false, .br false, .br false, .br false, .br false, .br false, .br false, .br true, .br false, .br false, .br false, .br true, .br false, .br true, .el [I n4], .el [I n5], .br true] _ func251 rfl (by kernel_rfl) h
theorem qA5 (n0 n1 n2 : Int) (l3 : List (List D)) (n4 n5 : Int) (b6 : Bool)
  (h : Obs [(n0 == 2) = false, (n0 == 3) = false, (n0 == 4) = false, (n0 == 1) = false, (n0 == 5) = false, (n0 == 6) = false, (n0 == 7) = false, (n0 == 8) = true, (n1 != 0) = false, (n2 != 0) = false, decide ((l3.length : Int) > 2) = false, (n0 == 8) = true, decide ((l3.length : Int) > 0) = false, ((l3.length : Int) == 2) = true, (0 : Int) ≤ 0, 0 < (l3.length : Int), l3[0]? = some [I n4], (0 : Int) ≤ 1, 1 < (l3.length : Int), l3[1]? = some [I n5], (n4 == n5) = false, qac prog (qaa f251 0) (qan l3 0) .ret (qap b6)]) :
  Ret prog 251 [.agg [I n0, I n1, I n2, D.sl 1 l3]] [.one (B b6)] :=
 .of [.br false, .br false, .br false, .br false, .br false, .br false, .br false, .br true, .br false, .br false, .br false, .br true, .br false, .br true, .el [I n4], .el [I n5], .br false, .loop [] [93, 92, 91] [] .ret (qap b6)] _ func251 rfl (by kernel_rfl) h
theorem qA6 (n0 n1 n2 : Int) (l3 : List (List D)) (n4 n5 : Int)
  (h : Obs [(n0 == 2) = false, (n0 == 3) = false, (n0 == 4) = false, (n0 == 1) = false, (n0 == 5) = false, (n0 == 6) = false, (n0 == 7) = false, (n0 == 8) = true, (n1 != 0) = false, (n2 != 0) = false, decide ((l3.length : Int) > 2) = false, (n0 == 8) = true, decide ((l3.length : Int) > 0) = false, ((l3.length : Int) == 2) = true, (0 : Int) ≤ 0, 0 < (l3.length : Int), l3[0]? = some [I n4], (0 : Int) ≤ 1, 1 < (l3.length : Int), l3[1]? = some [I n5], (n4 == n5) = false, qac prog (qaa f251 0) (qan l3 0) (.exit 1) qaq]) :
  Ret prog 251 [.agg [I n0, I n1, I n2, D.sl 1 l3]] [.one (B true)] :=
 .of [.br false, .br false, .br false, .br false, .br false, .br false, .br false, .br true, .br false, .br false, .br false, .br true, .br false, .br true, .el [I n4], .el [I n5], .br false, .loop [] [93, 92, 91] [] (.exit 1) qaq] _ func251 rfl (by kernel_rfl) h
theorem qA7 (n0 n1 n2 : Int) (l3 : List (List D)) (b4 : Bool)
  (h : Obs [(n0 == 2) = false, (n0 == 3) = false, (n0 == 4) = false, (n0 == 1) = false, (n0 == 5) = false, (n0 == 6) = false, (n0 == 7) = false, (n0 == 8) = true, (n1 != 0) = false, (n2 != 0) = false, decide ((l3.length : Int) > 2) = false, (n0 == 8) = true, decide ((l3.length : Int) > 0) = false, ((l3.length : Int) == 2) = false, qac prog (qaa f251 0) (qan l3 0) .ret (qap b4)]) :
  Ret prog 251 [.agg [I n0, I n1, I n2, D.sl 1 l3]] [.one (B b4)] :=
 .of [.br false, .br false, .br false, .br false, .br false, .br false, .br false, .br true, .br false, .br false, .br false, .br true, .br false, .br false, .loop [] [93, 92, 91] [] .ret (qap b4)] _ func251 rfl (by kernel_rfl) h
theorem qA8 (n0 n1 n2 : Int) (l3 : List (List D))
  (h : Obs [(n0 == 2) = false, (n0 == 3) = false, (n0 == 4) = false, (n0 == 1) = false, (n0 == 5) = false, (n0 == 6) = false, (n0 == 7) = false, (n0 == 8) = true, (n1 != 0) = false, (n2 != 0) = false, decide ((l3.length : Int) > 2) = false, (n0 == 8) = true, decide ((l3.length : Int) > 0) = false, ((l3.length : Int) == 2) = false, qac prog (qaa f251 0) (qan l3 0) (.exit 1) qaq]) :
  Ret prog 251 [.agg [I n0, I n1, I n2, D.sl 1 l3]] [.one (B true)] :=
 .of [.br false, .br false, .br false, .br false, .br false, .br false, .br false, .br true, .br false, .br false, .br false, .br true, .br false, .br false, .loop [] [93, 92, 91] [] (.exit 1) qaq] _ func251 rfl (by kernel_rfl) h
theorem qA9 (n0 n1 n2 : Int) (l3 : List (List D))
  (h : Obs [(n0 == 2) = false, (n0 == 3) = false, (n0 == 4) = false, (n0 == 1) = false, (n0 == 5) = false, (n0 == 6) = false, (n0 == 7) = false, (n0 == 8) = false]) :
  Ret prog 251 [.agg [I n0, I n1, I n2, D.sl 1 l3]] [.one (B false)] :=
 .of [.br false, .br false, .br false, .br false, .br false, .br false, .br false, .br false] _ func251 rfl (by kernel_rfl) h
end Go.Proofs.YtialmplmfcahpaaGreat
