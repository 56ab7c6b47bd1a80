import Derived.Test.YtialmplmfcahpaaGreatRows
import Derived.Test.YtialmplmfcahpaaGreatR22
set_option linter.unusedVariables false
set_option linter.unusedSimpArgs false
namespace Go.Proofs.YtialmplmfcahpaaGreat
open Go.Sx Go.RowKit
theorem qtj (n0 n1 n2 : Int)
  (h : Obs [decide (n0 ≥ n1) = true]) :
  Ret Tryz.prog 119 [.one (I n0), .one (I n1), .one (I n2)] [.one (B (decide (n0 ≤ n2)))] :=
 .of [.br true] _ Tryz.func119 rfl (by kernel_rfl) h
theorem qtk (n0 n1 n2 : Int)
  (h : Obs [decide (n0 ≥ n1) = false]) :
  Ret Tryz.prog 119 [.one (I n0), .one (I n1), .one (I n2)] [.one (B false)] :=
 .of [.br false] _ Tryz.func119 rfl (by kernel_rfl) h
theorem qtl (n0 n1 n2 : Int)
  (h : Obs [decide (n0 ≥ n1) = true]) :
  Ret Tryz.prog 138 [.one (I n0), .one (I n1), .one (I n2)] [.one (B (decide (n0 ≤ n2)))] :=
 .of [.br true] _ Tryz.func138 rfl (by kernel_rfl) h
theorem qtm (n0 n1 n2 : Int)
  (h : Obs [decide (n0 ≥ n1) = false]) :
  Ret Tryz.prog 138 [.one (I n0), .one (I n1), .one (I n2)] [.one (B false)] :=
 .of [.br false] _ Tryz.func138 rfl (by kernel_rfl) h
theorem qtn (n0 n1 : Int)
  (h : Obs [decide (n0 < n1) = true]) :
  Ret Tryz.prog 305 [.one (I n0), .one (I n1)] [.one (I (-1))] :=
 .of [.br true] _ Tryz.func305 rfl (by kernel_rfl) h
theorem qto (n0 n1 : Int)
  (h : Obs [decide (n0 < n1) = false, decide (n0 > n1) = true]) :
  Ret Tryz.prog 305 [.one (I n0), .one (I n1)] [.one (I 1)] :=
 .of [.br false, .br true] _ Tryz.func305 rfl (by kernel_rfl) h
theorem qtp (n0 n1 : Int)
  (h : Obs [decide (n0 < n1) = false, decide (n0 > n1) = false]) :
  Ret Tryz.prog 305 [.one (I n0), .one (I n1)] [.one (I 0)] :=
 .of [.br false, .br false] _ Tryz.func305 rfl (by kernel_rfl) h
theorem qtq (n0 : Int)
  (h : Obs []) :
  Ret Tryz.prog 336 [.one (I n0)] [.one (B (n0 != n0))] :=
 .of [] _ Tryz.func336 rfl (by kernel_rfl) h
theorem qtr (n0 n1 : Int) (b2 b3 : Bool)
  (h : Obs [Ret Tryz.prog 336 [.one (I n0)] [.one (B b2)], Ret Tryz.prog 336 [.one (I n1)] [.one (B b3)], b2 = false, b3 = false, decide (n0 < n1) = true]) :
  Ret Tryz.prog 333 [.one (I n0), .one (I n1)] [.one (I (-1))] :=
 .of [.res [.one (B b2)], .res [.one (B b3)], .br false, .br false, .br true] _ Tryz.func333 rfl (by kernel_rfl) h
theorem qts (n0 n1 : Int) (b2 b3 : Bool)
  (h : Obs [Ret Tryz.prog 336 [.one (I n0)] [.one (B b2)], Ret Tryz.prog 336 [.one (I n1)] [.one (B b3)], b2 = false, b3 = false, decide (n0 < n1) = false, decide (n0 > n1) = true]) :
  Ret Tryz.prog 333 [.one (I n0), .one (I n1)] [.one (I 1)] :=
 .of [.res [.one (B b2)], .res [.one (B b3)], .br false, .br false, .br false, .br true] _ Tryz.func333 rfl (by kernel_rfl) h
theorem qtt (n0 n1 : Int) (b2 b3 : Bool)
  (h : Obs [Ret Tryz.prog 336 [.one (I n0)] [.one (B b2)], Ret Tryz.prog 336 [.one (I n1)] [.one (B b3)], b2 = false, b3 = false, decide (n0 < n1) = false, decide (n0 > n1) = false]) :
  Ret Tryz.prog 333 [.one (I n0), .one (I n1)] [.one (I 0)] :=
 .of [.res [.one (B b2)], .res [.one (B b3)], .br false, .br false, .br false, .br false] _ Tryz.func333 rfl (by kernel_rfl) h
def qdL (l0 l1 : List (List D)) (n2 : Int) : St :=
 { env := envOf 36 [(0, .al (.one (.sl .free 1 l0))), (1, .al (.one (.sl .free 1 l1))), (9, .al (.one (.sl .free 1 l0))), (10, .al (.one (.v (.int .i64 (↑l0.length : Int))))), (11, .al (.one (.v (.int .i64 n2))))], boxes := [] }
def qgn (n0 : Int) : St :=
 { env := envOf 36 [(4, .al (.one (.v (.int .i64 n0))))], boxes := [] }
theorem qtu (l0 l1 : List (List D)) (n2 n3 n4 n5 : Int)
  (h : Obs [decide (n2 < (↑l0.length : Int)) = true, 0 ≤ n2, n2 < (↑l0.length : Int), l0[n2.toNat]? = some [I n3], decide (n2 ≥ (↑l1.length : Int)) = false, 0 ≤ n2, n2 < (↑l1.length : Int), l1[n2.toNat]? = some [I n4], Ret Tryz.prog 333 [.one (I n3), .one (I n4)] [.one (I n5)], (n5 != 0) = true]) :
  Tr Tryz.prog (qaa Tryz.f326 0) (qdL l0 l1 n2) .ret (qgn n5) :=
 .of_loopc (ks := [4]) (bs := []) (ans := [.br true, .el [I n3], .br false, .el [I n4], .res [.one (I n5)], .br true]) (by kernel_rfl) h
theorem qtv (l0 l1 : List (List D)) (n2 n3 n4 n5 : Int)
  (h : Obs [decide (n2 < (↑l0.length : Int)) = true, 0 ≤ n2, n2 < (↑l0.length : Int), l0[n2.toNat]? = some [I n3], decide (n2 ≥ (↑l1.length : Int)) = false, 0 ≤ n2, n2 < (↑l1.length : Int), l1[n2.toNat]? = some [I n4], Ret Tryz.prog 333 [.one (I n3), .one (I n4)] [.one (I n5)], (n5 != 0) = false, inInt .i64 (n2 + 1)]) :
  Tr Tryz.prog (qaa Tryz.f326 0) (qdL l0 l1 n2) .normal (qdL l0 l1 (n2 + 1)) :=
 .of_loopc (ks := [11, 10, 9, 1, 0]) (bs := []) (ans := [.br true, .el [I n3], .br false, .el [I n4], .res [.one (I n5)], .br false]) (by kernel_rfl) h
def qiX (l0 l1 : List (List D)) : St :=
 { env := envOf 36 [(0, .al (.one (.sl .free 1 l0))), (1, .al (.one (.sl .free 1 l1)))], boxes := [] }
theorem qtw (l0 l1 : List (List D)) (n2 : Int)
  (h : Obs [decide (n2 < (↑l0.length : Int)) = false]) :
  Tr Tryz.prog (qaa Tryz.f326 0) (qdL l0 l1 n2) (.exit 0) (qiX l0 l1) :=
 .of_loopc (ks := [0, 1]) (bs := []) (ans := [.br false]) (by kernel_rfl) h
theorem qtx (l0 l1 : List (List D)) (n2 : Int)
  (h : Obs [qac Tryz.prog (qaa Tryz.f326 0) (qdL l0 l1 0) .ret (qgn n2)]) :
  Ret Tryz.prog 326 [.one (.sl 1 l0), .one (.sl 1 l1)] [.one (I n2)] :=
 .of [.loop [] [11, 10, 9, 1, 0] [] .ret (qgn n2)] _ Tryz.func326 rfl (by kernel_rfl) h
theorem qty (l0 l1 : List (List D))
  (h : Obs [qac Tryz.prog (qaa Tryz.f326 0) (qdL l0 l1 0) (.exit 0) (qiX l0 l1), decide ((↑l0.length : Int) < (↑l1.length : Int)) = false]) :
  Ret Tryz.prog 326 [.one (.sl 1 l0), .one (.sl 1 l1)] [.one (I 0)] :=
 .of [.loop [] [11, 10, 9, 1, 0] [] (.exit 0) (qiX l0 l1), .br false] _ Tryz.func326 rfl (by kernel_rfl) h
theorem qtz (l0 l1 : List (List D)) (n2 : Int)
  (h : Obs [Ret Tryz.prog 326 [.one (.sl 1 l0), .one (.sl 1 l1)] [.one (I n2)]]) :
  Ret Tryz.prog 309 [.one (.sl 1 l0), .one (.sl 1 l1)] [.one (I n2)] :=
 .of [.res [.one (I n2)]] _ Tryz.func309 rfl (by kernel_rfl) h
def qdN (l0 : List (List D)) (n1 n2 : Int) (l3 : List (List D)) : St :=
 { env := envOf 25 [(1, .al (.one (.v (.int .i64 n1)))), (5, .al (.one (.sl (.own 22) 5 l3))), (8, .al (.one (.sl .free 5 l0))), (9, .al (.one (.v (.int .i64 (↑l0.length : Int))))), (10, .al (.one (.v (.int .i64 n2))))], boxes := [] }
theorem qt0 (l0 : List (List D)) (n1 n2 : Int) (l3 : List (List D)) (n4 n5 n6 n7 n8 : Int)
  (h : Obs [decide (n2 < (↑l0.length : Int)) = true, 0 ≤ n2, n2 < (↑l0.length : Int), l0[n2.toNat]? = some [I n4, I n5, I n6, I n7, I n8], (n5 == n1) = true, (l3.length + [[I n4, I n5, I n6, I n7, I n8]].length) * 40 ≤ 140737488355328, l3.length + [[I n4, I n5, I n6, I n7, I n8]].length ≤ 9223372036854775807, Flat [[I n4, I n5, I n6, I n7, I n8]], inInt .i64 (n2 + 1)]) :
  Tr Tryz.prog (qaa Tryz.f272 0) (qdN l0 n1 n2 l3) .normal (qdN l0 n1 (n2 + 1) (l3 ++ [[I n4, I n5, I n6, I n7, I n8]])) :=
 .of_loopc (ks := [10, 9, 8, 1, 5]) (bs := []) (ans := [.br true, .el [I n4, I n5, I n6, I n7, I n8], .br true]) (by kernel_rfl) h
theorem qt1 (l0 : List (List D)) (n1 n2 : Int) (l3 : List (List D)) (n4 n5 n6 n7 n8 : Int)
  (h : Obs [decide (n2 < (↑l0.length : Int)) = true, 0 ≤ n2, n2 < (↑l0.length : Int), l0[n2.toNat]? = some [I n4, I n5, I n6, I n7, I n8], (n5 == n1) = false, inInt .i64 (n2 + 1)]) :
  Tr Tryz.prog (qaa Tryz.f272 0) (qdN l0 n1 n2 l3) .normal (qdN l0 n1 (n2 + 1) l3) :=
 .of_loopc (ks := [10, 9, 8, 1, 5]) (bs := []) (ans := [.br true, .el [I n4, I n5, I n6, I n7, I n8], .br false]) (by kernel_rfl) h
def qi3 (l0 : List (List D)) : St :=
 { env := envOf 25 [(5, .al (.one (.sl (.own 22) 5 l0)))], boxes := [] }
theorem qt2 (l0 : List (List D)) (n1 n2 : Int) (l3 : List (List D))
  (h : Obs [decide (n2 < (↑l0.length : Int)) = false]) :
  Tr Tryz.prog (qaa Tryz.f272 0) (qdN l0 n1 n2 l3) (.exit 0) (qi3 l3) :=
 .of_loopc (ks := [5]) (bs := []) (ans := [.br false]) (by kernel_rfl) h
theorem qt3 (l0 : List (List D)) (n1 : Int) (l2 : List (List D))
  (h : Obs [qac Tryz.prog (qaa Tryz.f272 0) (qdN l0 n1 0 []) (.exit 0) (qi3 l2)]) :
  Ret Tryz.prog 272 [.one (.sl 5 l0), .one (I n1)] [.one (.sl 5 l2)] :=
 .of [.loop [(5, 22, 5)] [10, 9, 8, 1, 5] [] (.exit 0) (qi3 l2)] _ Tryz.func272 rfl (by kernel_rfl) h
def qdO (l0 : List (List D)) (g1 : Nat) (k2 : List D) (n3 : Int) : St :=
 { env := envOf 19 [(0, .al (.one (.sl .free 4 l0))), (1, .al (.one (.fd (D.cl g1 k2)))), (7, .al (.one (.v (.int .i64 (↑l0.length : Int))))), (8, .al (.one (.v (.int .i64 n3))))], boxes := [] }
def qgp (n0 : Int) : St :=
 { env := envOf 19 [(4, .al (.one (.v (.int .i64 n0))))], boxes := [] }
theorem qt4 (l0 : List (List D)) (g1 : Nat) (k2 : List D) (n3 n4 n5 n6 n7 : Int) (b8 : Bool)
  (h : Obs [decide (n3 < (↑l0.length : Int)) = true, 0 ≤ n3, n3 < (↑l0.length : Int), l0[n3.toNat]? = some [I n4, I n5, I n6, I n7], qbk Tryz.prog g1 = true, Ret Tryz.prog g1 ([.agg [I n4, I n5, I n6, I n7]] ++ List.map .one k2) [.one (B b8)], b8 = true]) :
  Tr Tryz.prog (qaa Tryz.f312 0) (qdO l0 g1 k2 n3) .ret (qgp n3) :=
 .of_loopc (ks := [4]) (bs := []) (ans := [.br true, .el [I n4, I n5, I n6, I n7], .res [.one (B b8)], .br true]) (by kernel_rfl) h
theorem qt5 (l0 : List (List D)) (g1 : Nat) (k2 : List D) (n3 n4 n5 n6 n7 : Int) (b8 : Bool)
  (h : Obs [decide (n3 < (↑l0.length : Int)) = true, 0 ≤ n3, n3 < (↑l0.length : Int), l0[n3.toNat]? = some [I n4, I n5, I n6, I n7], qbk Tryz.prog g1 = true, Ret Tryz.prog g1 ([.agg [I n4, I n5, I n6, I n7]] ++ List.map .one k2) [.one (B b8)], b8 = false, inInt .i64 (n3 + 1)]) :
  Tr Tryz.prog (qaa Tryz.f312 0) (qdO l0 g1 k2 n3) .normal (qdO l0 g1 k2 (n3 + 1)) :=
 .of_loopc (ks := [8, 7, 1, 0]) (bs := []) (ans := [.br true, .el [I n4, I n5, I n6, I n7], .res [.one (B b8)], .br false]) (by kernel_rfl) h
def qi4 : St :=
 { env := envOf 19 [], boxes := [] }
theorem qt6 (l0 : List (List D)) (g1 : Nat) (k2 : List D) (n3 : Int)
  (h : Obs [decide (n3 < (↑l0.length : Int)) = false]) :
  Tr Tryz.prog (qaa Tryz.f312 0) (qdO l0 g1 k2 n3) (.exit 0) qi4 :=
 .of_loopc (ks := []) (bs := []) (ans := [.br false]) (by kernel_rfl) h
theorem qt7 (l0 : List (List D)) (g1 : Nat) (k2 : List D) (n3 : Int)
  (h : Obs [qac Tryz.prog (qaa Tryz.f312 0) (qdO l0 g1 k2 0) .ret (qgp n3)]) :
  Ret Tryz.prog 312 [.one (.sl 4 l0), .one (.cl g1 k2)] [.one (I n3)] :=
 .of [.loop [] [8, 7, 1, 0] [] .ret (qgp n3)] _ Tryz.func312 rfl (by kernel_rfl) h
theorem qt8 (l0 : List (List D)) (g1 : Nat) (k2 : List D)
  (h : Obs [qac Tryz.prog (qaa Tryz.f312 0) (qdO l0 g1 k2 0) (.exit 0) qi4]) :
  Ret Tryz.prog 312 [.one (.sl 4 l0), .one (.cl g1 k2)] [.one (I (-1))] :=
 .of [.loop [] [8, 7, 1, 0] [] (.exit 0) qi4] _ Tryz.func312 rfl (by kernel_rfl) h
end Go.Proofs.YtialmplmfcahpaaGreat
