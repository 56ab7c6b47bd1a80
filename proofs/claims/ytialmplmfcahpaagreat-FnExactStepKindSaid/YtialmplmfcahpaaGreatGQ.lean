import Derived.Test.YtialmplmfcahpaaGreatRows
import Derived.Test.YtialmplmfcahpaaGreatR22
set_option linter.unusedVariables false
set_option linter.unusedSimpArgs false
namespace Go.Proofs.YtialmplmfcahpaaGreat
open Go.Sx Go.RowKit Go.Proofs.Tryz
theorem qxt (l0 : List (List D)) (n1 n2 : Int) (b3 : Bool)
  (h : Obs [Ret prog 138 [.one (I (l0.length : Int)), .one (I 1), .one (I 8)] [.one (B b3)], (!b3) = true]) :
  Ret prog 140 [.agg [D.sl 4 l0, I n1, I n2]] [.one (B false)] :=
 .of [.res [.one (B b3)], .br true] _ func140 rfl (by kernel_rfl) h
theorem qxu (l0 : List (List D)) (n1 n2 : Int) (b3 b4 : Bool)
  (h : Obs [Ret prog 138 [.one (I (l0.length : Int)), .one (I 1), .one (I 8)] [.one (B b3)], (!b3) = false, Ret prog 138 [.one (I n1), .one (I 1), .one (I 4)] [.one (B b4)], (!b4) = true]) :
  Ret prog 140 [.agg [D.sl 4 l0, I n1, I n2]] [.one (B false)] :=
 .of [.res [.one (B b3)], .br false, .res [.one (B b4)], .br true] _ func140 rfl (by kernel_rfl) h
theorem qxv (l0 : List (List D)) (n1 n2 : Int) (b3 b4 b5 : Bool)
  (h : Obs [Ret prog 138 [.one (I (l0.length : Int)), .one (I 1), .one (I 8)] [.one (B b3)], (!b3) = false, Ret prog 138 [.one (I n1), .one (I 1), .one (I 4)] [.one (B b4)], (!b4) = false, Ret prog 138 [.one (I n2), .one (I 1), .one (I 4)] [.one (B b5)], (!b5) = true]) :
  Ret prog 140 [.agg [D.sl 4 l0, I n1, I n2]] [.one (B false)] :=
 .of [.res [.one (B b3)], .br false, .res [.one (B b4)], .br false, .res [.one (B b5)], .br true] _ func140 rfl (by kernel_rfl) h
def qbE (n0 : Int) (l1 : List (List D)) (n2 n3 : Int) : St :=
 { env := envOf 97 [(1, .al (.one (.ptr 1 0))), (3, .al (.one (.v (.int .i64 n0))))], boxes := [(1, [.sl .free 4 l1, .v (.int .i64 n2), .v (.int .i64 n3)])] }
def qde (b0 : Bool) : St :=
 { env := envOf 97 [(2, .al (.one (.sb b0)))], boxes := [] }
theorem qxw (n6 : Int) (l7 : List (List D)) (n8 n9 n10 n11 n12 : Int) (l13 : List (List D)) (b14 : Bool)
  (h : Obs [decide (n6 < (l7.length : Int)) = true, 0 ≤ n6, n6 < (l7.length : Int), l7[n6.toNat]? = some [I n10, I n11, I n12, D.sl 1 l13], Ret prog 240 [.agg [I n10, I n11, I n12, D.sl 1 l13]] [.one (B b14)], (!b14) = true]) :
  Tr prog (qaa f140 0) (qbE n6 l7 n8 n9) .ret (qde false) :=
 .of_loopc (ks := [2]) (bs := []) (ans := [.br true, .el [I n10, I n11, I n12, D.sl 1 l13], .res [.one (B b14)], .br true]) (by kernel_rfl) h
theorem qxx (n6 : Int) (l7 : List (List D)) (n8 n9 n10 n11 n12 : Int) (l13 : List (List D)) (b14 : Bool)
  (h : Obs [decide (n6 < (l7.length : Int)) = true, 0 ≤ n6, n6 < (l7.length : Int), l7[n6.toNat]? = some [I n10, I n11, I n12, D.sl 1 l13], Ret prog 240 [.agg [I n10, I n11, I n12, D.sl 1 l13]] [.one (B b14)], (!b14) = false, (!(n10 == 1) == (n6 == 0)) = true]) :
  Tr prog (qaa f140 0) (qbE n6 l7 n8 n9) .ret (qde false) :=
 .of_loopc (ks := [2]) (bs := []) (ans := [.br true, .el [I n10, I n11, I n12, D.sl 1 l13], .res [.one (B b14)], .br false, .br true]) (by kernel_rfl) h
def qaV (n0 : Int) (l1 : List (List D)) (n2 n3 n4 n5 n6 : Int) (l7 : List (List D)) (n8 : Int) : St :=
 { env := envOf 97 [(1, .al (.one (.ptr 1 0))), (3, .al (.one (.v (.int .i64 n0)))), (4, .al (.one (.ptr 4 0))), (5, .al (.one (.v (.int .i64 n8))))], boxes := [(4, [.v (.int .i64 n4), .v (.int .i64 n5), .v (.int .i64 n6), .sl .free 1 l7]), (1, [.sl .free 4 l1, .v (.int .i64 n2), .v (.int .i64 n3)])] }
def qb2 (b0 : Bool) : St :=
 { env := envOf 97 [(2, .al (.one (.sb b0)))], boxes := [] }
theorem qxy (n6 : Int) (l7 : List (List D)) (n8 n9 n10 n11 n12 : Int) (l13 : List (List D)) (n15 n16 : Int)
  (h : Obs [decide (n15 < (l13.length : Int)) = true, 0 ≤ n15, n15 < (l13.length : Int), l13[n15.toNat]? = some [I n16], decide (n16 ≥ (l7.length : Int)) = true]) :
  Tr prog (qaa f140 1) (qaV n6 l7 n8 n9 n10 n11 n12 l13 n15) .ret (qb2 false) :=
 .of_loopc (ks := [2]) (bs := []) (ans := [.br true, .el [I n16], .br true]) (by kernel_rfl) h
theorem qxz (n6 : Int) (l7 : List (List D)) (n8 n9 n10 n11 n12 : Int) (l13 : List (List D)) (n15 n16 : Int)
  (h : Obs [decide (n15 < (l13.length : Int)) = true, 0 ≤ n15, n15 < (l13.length : Int), l13[n15.toNat]? = some [I n16], decide (n16 ≥ (l7.length : Int)) = false, (n10 != 7) = true, decide (n16 ≤ n6) = true]) :
  Tr prog (qaa f140 1) (qaV n6 l7 n8 n9 n10 n11 n12 l13 n15) .ret (qb2 false) :=
 .of_loopc (ks := [2]) (bs := []) (ans := [.br true, .el [I n16], .br false, .br true, .br true]) (by kernel_rfl) h
theorem qxA (n6 : Int) (l7 : List (List D)) (n8 n9 n10 n11 n12 : Int) (l13 : List (List D)) (n15 n16 n17 n18 n19 : Int) (l20 : List (List D))
  (h : Obs [decide (n15 < (l13.length : Int)) = true, 0 ≤ n15, n15 < (l13.length : Int), l13[n15.toNat]? = some [I n16], decide (n16 ≥ (l7.length : Int)) = false, (n10 != 7) = true, decide (n16 ≤ n6) = false, 0 ≤ n16, n16 < (l7.length : Int), l7[n16.toNat]? = some [I n17, I n18, I n19, D.sl 1 l20], (n10 == 7) = true, decide (n16 > n6) = true]) :
  Tr prog (qaa f140 1) (qaV n6 l7 n8 n9 n10 n11 n12 l13 n15) .ret (qb2 false) :=
 .of_loopc (ks := [2]) (bs := []) (ans := [.br true, .el [I n16], .br false, .br true, .br false, .el [I n17, I n18, I n19, D.sl 1 l20], .br true, .br true]) (by kernel_rfl) h
theorem qxB (n6 : Int) (l7 : List (List D)) (n8 n9 n10 n11 n12 : Int) (l13 : List (List D)) (n15 n16 n17 n18 n19 : Int) (l20 : List (List D))
  (h : Obs [decide (n15 < (l13.length : Int)) = true, 0 ≤ n15, n15 < (l13.length : Int), l13[n15.toNat]? = some [I n16], decide (n16 ≥ (l7.length : Int)) = false, (n10 != 7) = true, decide (n16 ≤ n6) = false, 0 ≤ n16, n16 < (l7.length : Int), l7[n16.toNat]? = some [I n17, I n18, I n19, D.sl 1 l20], (n10 == 7) = true, decide (n16 > n6) = false, (n17 != 5) = true, (n17 != 6) = true]) :
  Tr prog (qaa f140 1) (qaV n6 l7 n8 n9 n10 n11 n12 l13 n15) .ret (qb2 false) :=
 .of_loopc (ks := [2]) (bs := []) (ans := [.br true, .el [I n16], .br false, .br true, .br false, .el [I n17, I n18, I n19, D.sl 1 l20], .br true, .br false, .br true, .br true]) (by kernel_rfl) h
theorem qxC (n6 : Int) (l7 : List (List D)) (n8 n9 n10 n11 n12 : Int) (l13 : List (List D)) (n15 n16 n17 n18 n19 : Int) (l20 : List (List D))
  (h : Obs [decide (n15 < (l13.length : Int)) = true, 0 ≤ n15, n15 < (l13.length : Int), l13[n15.toNat]? = some [I n16], decide (n16 ≥ (l7.length : Int)) = false, (n10 != 7) = true, decide (n16 ≤ n6) = false, 0 ≤ n16, n16 < (l7.length : Int), l7[n16.toNat]? = some [I n17, I n18, I n19, D.sl 1 l20], (n10 == 7) = true, decide (n16 > n6) = false, (n17 != 5) = true, (n17 != 6) = false, inInt .i64 (n15 + 1)]) :
  Tr prog (qaa f140 1) (qaV n6 l7 n8 n9 n10 n11 n12 l13 n15) .normal (qaV n6 l7 n8 n9 n10 n11 n12 l13 (n15 + 1)) :=
 .of_loopc (ks := [5, 4, 1, 3]) (bs := [4, 1]) (ans := [.br true, .el [I n16], .br false, .br true, .br false, .el [I n17, I n18, I n19, D.sl 1 l20], .br true, .br false, .br true, .br false]) (by kernel_rfl) h
theorem qxD (n6 : Int) (l7 : List (List D)) (n8 n9 n10 n11 n12 : Int) (l13 : List (List D)) (n15 n16 n17 n18 n19 : Int) (l20 : List (List D))
  (h : Obs [decide (n15 < (l13.length : Int)) = true, 0 ≤ n15, n15 < (l13.length : Int), l13[n15.toNat]? = some [I n16], decide (n16 ≥ (l7.length : Int)) = false, (n10 != 7) = true, decide (n16 ≤ n6) = false, 0 ≤ n16, n16 < (l7.length : Int), l7[n16.toNat]? = some [I n17, I n18, I n19, D.sl 1 l20], (n10 == 7) = true, decide (n16 > n6) = false, (n17 != 5) = false, inInt .i64 (n15 + 1)]) :
  Tr prog (qaa f140 1) (qaV n6 l7 n8 n9 n10 n11 n12 l13 n15) .normal (qaV n6 l7 n8 n9 n10 n11 n12 l13 (n15 + 1)) :=
 .of_loopc (ks := [5, 4, 1, 3]) (bs := [4, 1]) (ans := [.br true, .el [I n16], .br false, .br true, .br false, .el [I n17, I n18, I n19, D.sl 1 l20], .br true, .br false, .br false]) (by kernel_rfl) h
theorem qxE (n6 : Int) (l7 : List (List D)) (n8 n9 n10 n11 n12 : Int) (l13 : List (List D)) (n15 n16 n17 n18 n19 : Int) (l20 : List (List D))
  (h : Obs [decide (n15 < (l13.length : Int)) = true, 0 ≤ n15, n15 < (l13.length : Int), l13[n15.toNat]? = some [I n16], decide (n16 ≥ (l7.length : Int)) = false, (n10 != 7) = true, decide (n16 ≤ n6) = false, 0 ≤ n16, n16 < (l7.length : Int), l7[n16.toNat]? = some [I n17, I n18, I n19, D.sl 1 l20], (n10 == 7) = false, inInt .i64 (n15 + 1)]) :
  Tr prog (qaa f140 1) (qaV n6 l7 n8 n9 n10 n11 n12 l13 n15) .normal (qaV n6 l7 n8 n9 n10 n11 n12 l13 (n15 + 1)) :=
 .of_loopc (ks := [5, 4, 1, 3]) (bs := [4, 1]) (ans := [.br true, .el [I n16], .br false, .br true, .br false, .el [I n17, I n18, I n19, D.sl 1 l20], .br false]) (by kernel_rfl) h
theorem qxF (n6 : Int) (l7 : List (List D)) (n8 n9 n10 n11 n12 : Int) (l13 : List (List D)) (n15 n16 n17 n18 n19 : Int) (l20 : List (List D))
  (h : Obs [decide (n15 < (l13.length : Int)) = true, 0 ≤ n15, n15 < (l13.length : Int), l13[n15.toNat]? = some [I n16], decide (n16 ≥ (l7.length : Int)) = false, (n10 != 7) = false, 0 ≤ n16, n16 < (l7.length : Int), l7[n16.toNat]? = some [I n17, I n18, I n19, D.sl 1 l20], (n10 == 7) = true, decide (n16 > n6) = true]) :
  Tr prog (qaa f140 1) (qaV n6 l7 n8 n9 n10 n11 n12 l13 n15) .ret (qb2 false) :=
 .of_loopc (ks := [2]) (bs := []) (ans := [.br true, .el [I n16], .br false, .br false, .el [I n17, I n18, I n19, D.sl 1 l20], .br true, .br true]) (by kernel_rfl) h
theorem qxG (n6 : Int) (l7 : List (List D)) (n8 n9 n10 n11 n12 : Int) (l13 : List (List D)) (n15 n16 n17 n18 n19 : Int) (l20 : List (List D))
  (h : Obs [decide (n15 < (l13.length : Int)) = true, 0 ≤ n15, n15 < (l13.length : Int), l13[n15.toNat]? = some [I n16], decide (n16 ≥ (l7.length : Int)) = false, (n10 != 7) = false, 0 ≤ n16, n16 < (l7.length : Int), l7[n16.toNat]? = some [I n17, I n18, I n19, D.sl 1 l20], (n10 == 7) = true, decide (n16 > n6) = false, (n17 != 5) = true, (n17 != 6) = true]) :
  Tr prog (qaa f140 1) (qaV n6 l7 n8 n9 n10 n11 n12 l13 n15) .ret (qb2 false) :=
 .of_loopc (ks := [2]) (bs := []) (ans := [.br true, .el [I n16], .br false, .br false, .el [I n17, I n18, I n19, D.sl 1 l20], .br true, .br false, .br true, .br true]) (by kernel_rfl) h
theorem qxH (n6 : Int) (l7 : List (List D)) (n8 n9 n10 n11 n12 : Int) (l13 : List (List D)) (n15 n16 n17 n18 n19 : Int) (l20 : List (List D))
  (h : Obs [decide (n15 < (l13.length : Int)) = true, 0 ≤ n15, n15 < (l13.length : Int), l13[n15.toNat]? = some [I n16], decide (n16 ≥ (l7.length : Int)) = false, (n10 != 7) = false, 0 ≤ n16, n16 < (l7.length : Int), l7[n16.toNat]? = some [I n17, I n18, I n19, D.sl 1 l20], (n10 == 7) = true, decide (n16 > n6) = false, (n17 != 5) = true, (n17 != 6) = false, inInt .i64 (n15 + 1)]) :
  Tr prog (qaa f140 1) (qaV n6 l7 n8 n9 n10 n11 n12 l13 n15) .normal (qaV n6 l7 n8 n9 n10 n11 n12 l13 (n15 + 1)) :=
 .of_loopc (ks := [5, 4, 1, 3]) (bs := [4, 1]) (ans := [.br true, .el [I n16], .br false, .br false, .el [I n17, I n18, I n19, D.sl 1 l20], .br true, .br false, .br true, .br false]) (by kernel_rfl) h
theorem qxI (n6 : Int) (l7 : List (List D)) (n8 n9 n10 n11 n12 : Int) (l13 : List (List D)) (n15 n16 n17 n18 n19 : Int) (l20 : List (List D))
  (h : Obs [decide (n15 < (l13.length : Int)) = true, 0 ≤ n15, n15 < (l13.length : Int), l13[n15.toNat]? = some [I n16], decide (n16 ≥ (l7.length : Int)) = false, (n10 != 7) = false, 0 ≤ n16, n16 < (l7.length : Int), l7[n16.toNat]? = some [I n17, I n18, I n19, D.sl 1 l20], (n10 == 7) = true, decide (n16 > n6) = false, (n17 != 5) = false, inInt .i64 (n15 + 1)]) :
  Tr prog (qaa f140 1) (qaV n6 l7 n8 n9 n10 n11 n12 l13 n15) .normal (qaV n6 l7 n8 n9 n10 n11 n12 l13 (n15 + 1)) :=
 .of_loopc (ks := [5, 4, 1, 3]) (bs := [4, 1]) (ans := [.br true, .el [I n16], .br false, .br false, .el [I n17, I n18, I n19, D.sl 1 l20], .br true, .br false, .br false]) (by kernel_rfl) h
theorem qxJ (n6 : Int) (l7 : List (List D)) (n8 n9 n10 n11 n12 : Int) (l13 : List (List D)) (n15 n16 n17 n18 n19 : Int) (l20 : List (List D))
  (h : Obs [decide (n15 < (l13.length : Int)) = true, 0 ≤ n15, n15 < (l13.length : Int), l13[n15.toNat]? = some [I n16], decide (n16 ≥ (l7.length : Int)) = false, (n10 != 7) = false, 0 ≤ n16, n16 < (l7.length : Int), l7[n16.toNat]? = some [I n17, I n18, I n19, D.sl 1 l20], (n10 == 7) = false, inInt .i64 (n15 + 1)]) :
  Tr prog (qaa f140 1) (qaV n6 l7 n8 n9 n10 n11 n12 l13 n15) .normal (qaV n6 l7 n8 n9 n10 n11 n12 l13 (n15 + 1)) :=
 .of_loopc (ks := [5, 4, 1, 3]) (bs := [4, 1]) (ans := [.br true, .el [I n16], .br false, .br false, .el [I n17, I n18, I n19, D.sl 1 l20], .br false]) (by kernel_rfl) h
def qgP (n0 : Int) (l1 : List (List D)) (n2 n3 : Int) : St :=
 { env := envOf 97 [(1, .al (.one (.ptr 1 0))), (3, .al (.one (.v (.int .i64 n0))))], boxes := [(1, [.sl .free 4 l1, .v (.int .i64 n2), .v (.int .i64 n3)])] }
theorem qxK (n6 : Int) (l7 : List (List D)) (n8 n9 n10 n11 n12 : Int) (l13 : List (List D)) (n15 : Int)
  (h : Obs [decide (n15 < (l13.length : Int)) = false]) :
  Tr prog (qaa f140 1) (qaV n6 l7 n8 n9 n10 n11 n12 l13 n15) (.exit 2) (qgP n6 l7 n8 n9) :=
 .of_loopc (ks := [3, 1]) (bs := [1]) (ans := [.br false]) (by kernel_rfl) h
theorem qxL (n6 : Int) (l7 : List (List D)) (n8 n9 n10 n11 n12 : Int) (l13 : List (List D)) (b14 b15 : Bool)
  (h : Obs [decide (n6 < (l7.length : Int)) = true, 0 ≤ n6, n6 < (l7.length : Int), l7[n6.toNat]? = some [I n10, I n11, I n12, D.sl 1 l13], Ret prog 240 [.agg [I n10, I n11, I n12, D.sl 1 l13]] [.one (B b14)], (!b14) = false, (!(n10 == 1) == (n6 == 0)) = false, qac prog (qaa f140 1) (qaV n6 l7 n8 n9 n10 n11 n12 l13 0) .ret (qb2 b15)]) :
  Tr prog (qaa f140 0) (qbE n6 l7 n8 n9) .ret (qde b15) :=
 .of_loopc (ks := [2]) (bs := []) (ans := [.br true, .el [I n10, I n11, I n12, D.sl 1 l13], .res [.one (B b14)], .br false, .br false, .loop [] [5, 4, 1, 3] [4, 1] .ret (qb2 b15)]) (by kernel_rfl) h
theorem qxM (n6 : Int) (l7 : List (List D)) (n8 n9 n10 n11 n12 : Int) (l13 : List (List D)) (b14 : Bool)
  (h : Obs [decide (n6 < (l7.length : Int)) = true, 0 ≤ n6, n6 < (l7.length : Int), l7[n6.toNat]? = some [I n10, I n11, I n12, D.sl 1 l13], Ret prog 240 [.agg [I n10, I n11, I n12, D.sl 1 l13]] [.one (B b14)], (!b14) = false, (!(n10 == 1) == (n6 == 0)) = false, qac prog (qaa f140 1) (qaV n6 l7 n8 n9 n10 n11 n12 l13 0) (.exit 2) (qgP n6 l7 n8 n9), inInt .i64 (n6 + 1)]) :
  Tr prog (qaa f140 0) (qbE n6 l7 n8 n9) .normal (qbE (n6 + 1) l7 n8 n9) :=
 .of_loopc (ks := [3, 1]) (bs := [1]) (ans := [.br true, .el [I n10, I n11, I n12, D.sl 1 l13], .res [.one (B b14)], .br false, .br false, .loop [] [5, 4, 1, 3] [4, 1] (.exit 2) (qgP n6 l7 n8 n9)]) (by kernel_rfl) h
def qgQ : St :=
 { env := envOf 97 [], boxes := [] }
theorem qxN (n6 : Int) (l7 : List (List D)) (n8 n9 : Int)
  (h : Obs [decide (n6 < (l7.length : Int)) = false]) :
  Tr prog (qaa f140 0) (qbE n6 l7 n8 n9) (.exit 0) qgQ :=
 .of_loopc (ks := []) (bs := []) (ans := [.br false]) (by kernel_rfl) h
theorem qxO (l0 : List (List D)) (n1 n2 : Int) (b3 b4 b5 b6 : Bool)
  (h : Obs [Ret prog 138 [.one (I (l0.length : Int)), .one (I 1), .one (I 8)] [.one (B b3)], (!b3) = false, Ret prog 138 [.one (I n1), .one (I 1), .one (I 4)] [.one (B b4)], (!b4) = false, Ret prog 138 [.one (I n2), .one (I 1), .one (I 4)] [.one (B b5)], (!b5) = false, qac prog (qaa f140 0) (qbE 0 l0 n1 n2) .ret (qde b6)]) :
  Ret prog 140 [.agg [D.sl 4 l0, I n1, I n2]] [.one (B b6)] :=
 .of [.res [.one (B b3)], .br false, .res [.one (B b4)], .br false, .res [.one (B b5)], .br false, .loop [] [3, 1] [1] .ret (qde b6)] _ func140 rfl (by kernel_rfl) h
theorem qxP (l0 : List (List D)) (n1 n2 : Int) (b3 b4 b5 : Bool)
  (h : Obs [Ret prog 138 [.one (I (l0.length : Int)), .one (I 1), .one (I 8)] [.one (B b3)], (!b3) = false, Ret prog 138 [.one (I n1), .one (I 1), .one (I 4)] [.one (B b4)], (!b4) = false, Ret prog 138 [.one (I n2), .one (I 1), .one (I 4)] [.one (B b5)], (!b5) = false, qac prog (qaa f140 0) (qbE 0 l0 n1 n2) (.exit 0) qgQ]) :
  Ret prog 140 [.agg [D.sl 4 l0, I n1, I n2]] [.one (B true)] :=
 .of [.res [.one (B b3)], .br false, .res [.one (B b4)], .br false, .res [.one (B b5)], .br false, .loop [] [3, 1] [1] (.exit 0) qgQ] _ func140 rfl (by kernel_rfl) h
theorem qxQ (l0 : List (List D)) (n1 n2 : Int) (b3 : Bool)
  (h : Obs [Ret prog 119 [.one (I (l0.length : Int)), .one (I 1), .one (I 8)] [.one (B b3)], (!b3) = true]) :
  Ret prog 151 [.agg [D.sl 4 l0, I n1, I n2]] [.one (B false)] :=
 .of [.res [.one (B b3)], .br true] _ func151 rfl (by kernel_rfl) h
theorem qxR (l0 : List (List D)) (n1 n2 : Int) (b3 b4 : Bool)
  (h : Obs [Ret prog 119 [.one (I (l0.length : Int)), .one (I 1), .one (I 8)] [.one (B b3)], (!b3) = false, Ret prog 119 [.one (I n1), .one (I 1), .one (I 4)] [.one (B b4)], (!b4) = true]) :
  Ret prog 151 [.agg [D.sl 4 l0, I n1, I n2]] [.one (B false)] :=
 .of [.res [.one (B b3)], .br false, .res [.one (B b4)], .br true] _ func151 rfl (by kernel_rfl) h
theorem qxS (l0 : List (List D)) (n1 n2 : Int) (b3 b4 b5 : Bool)
  (h : Obs [Ret prog 119 [.one (I (l0.length : Int)), .one (I 1), .one (I 8)] [.one (B b3)], (!b3) = false, Ret prog 119 [.one (I n1), .one (I 1), .one (I 4)] [.one (B b4)], (!b4) = false, Ret prog 119 [.one (I n2), .one (I 1), .one (I 4)] [.one (B b5)], (!b5) = true]) :
  Ret prog 151 [.agg [D.sl 4 l0, I n1, I n2]] [.one (B false)] :=
 .of [.res [.one (B b3)], .br false, .res [.one (B b4)], .br false, .res [.one (B b5)], .br true] _ func151 rfl (by kernel_rfl) h
def qbF (l0 : List (List D)) (n1 : Int) (l2 : List (List D)) (n3 n4 : Int) : St :=
 { env := envOf 90 [(1, .al (.one (.ptr 1 0))), (26, .al (.one (.sl .free 4 l0))), (27, .al (.one (.v (.int .i64 (l0.length : Int))))), (28, .al (.one (.v (.int .i64 n1))))], boxes := [(1, [.sl .free 4 l2, .v (.int .i64 n3), .v (.int .i64 n4)])] }
def qdf (b0 : Bool) : St :=
 { env := envOf 90 [(2, .al (.one (.sb b0)))], boxes := [] }
theorem qxT (l0 : List (List D)) (n6 : Int) (l7 : List (List D)) (n8 n9 n10 n11 n12 : Int) (l13 : List (List D)) (b14 : Bool)
  (h : Obs [decide (n6 < (l0.length : Int)) = true, 0 ≤ n6, n6 < (l0.length : Int), l0[n6.toNat]? = some [I n10, I n11, I n12, D.sl 1 l13], Ret prog 251 [.agg [I n10, I n11, I n12, D.sl 1 l13]] [.one (B b14)], (!b14) = true]) :
  Tr prog (qaa f151 0) (qbF l0 n6 l7 n8 n9) .ret (qdf false) :=
 .of_loopc (ks := [2]) (bs := []) (ans := [.br true, .el [I n10, I n11, I n12, D.sl 1 l13], .res [.one (B b14)], .br true]) (by kernel_rfl) h
theorem qxU (l0 : List (List D)) (n6 : Int) (l7 : List (List D)) (n8 n9 n10 n11 n12 : Int) (l13 : List (List D)) (b14 : Bool)
  (h : Obs [decide (n6 < (l0.length : Int)) = true, 0 ≤ n6, n6 < (l0.length : Int), l0[n6.toNat]? = some [I n10, I n11, I n12, D.sl 1 l13], Ret prog 251 [.agg [I n10, I n11, I n12, D.sl 1 l13]] [.one (B b14)], (!b14) = false, (!(n10 == 1) == (n6 == 0)) = true]) :
  Tr prog (qaa f151 0) (qbF l0 n6 l7 n8 n9) .ret (qdf false) :=
 .of_loopc (ks := [2]) (bs := []) (ans := [.br true, .el [I n10, I n11, I n12, D.sl 1 l13], .res [.one (B b14)], .br false, .br true]) (by kernel_rfl) h
def qaW (l0 : List (List D)) (n1 : Int) (l2 : List (List D)) (n3 n4 n5 n6 n7 : Int) (l8 : List (List D)) (n9 : Int) : St :=
 { env := envOf 90 [(1, .al (.one (.ptr 1 0))), (3, .al (.one (.v (.int .i64 n1)))), (4, .al (.one (.ptr 4 0))), (26, .al (.one (.sl .free 4 l0))), (27, .al (.one (.v (.int .i64 (l0.length : Int))))), (28, .al (.one (.v (.int .i64 n1)))), (45, .al (.one (.sl .free 1 l8))), (46, .al (.one (.v (.int .i64 (l8.length : Int))))), (47, .al (.one (.v (.int .i64 n9))))], boxes := [(4, [.v (.int .i64 n5), .v (.int .i64 n6), .v (.int .i64 n7), .sl .free 1 l8]), (1, [.sl .free 4 l2, .v (.int .i64 n3), .v (.int .i64 n4)])] }
def qb3 (b0 : Bool) : St :=
 { env := envOf 90 [(2, .al (.one (.sb b0)))], boxes := [] }
theorem qxV (l0 : List (List D)) (n6 : Int) (l7 : List (List D)) (n8 n9 n10 n11 n12 : Int) (l13 : List (List D)) (n15 n16 : Int)
  (h : Obs [decide (n15 < (l13.length : Int)) = true, 0 ≤ n15, n15 < (l13.length : Int), l13[n15.toNat]? = some [I n16], decide (n16 ≥ (l7.length : Int)) = true]) :
  Tr prog (qaa f151 1) (qaW l0 n6 l7 n8 n9 n10 n11 n12 l13 n15) .ret (qb3 false) :=
 .of_loopc (ks := [2]) (bs := []) (ans := [.br true, .el [I n16], .br true]) (by kernel_rfl) h
theorem qxW (l0 : List (List D)) (n6 : Int) (l7 : List (List D)) (n8 n9 n10 n11 n12 : Int) (l13 : List (List D)) (n15 n16 n17 n18 n19 : Int) (l20 : List (List D))
  (h : Obs [decide (n15 < (l13.length : Int)) = true, 0 ≤ n15, n15 < (l13.length : Int), l13[n15.toNat]? = some [I n16], decide (n16 ≥ (l7.length : Int)) = false, 0 ≤ n16, n16 < (l7.length : Int), l7[n16.toNat]? = some [I n17, I n18, I n19, D.sl 1 l20], (n10 == 7) = true, decide (n16 > n6) = true]) :
  Tr prog (qaa f151 1) (qaW l0 n6 l7 n8 n9 n10 n11 n12 l13 n15) .ret (qb3 false) :=
 .of_loopc (ks := [2]) (bs := []) (ans := [.br true, .el [I n16], .br false, .el [I n17, I n18, I n19, D.sl 1 l20], .br true, .br true]) (by kernel_rfl) h
theorem qxX (l0 : List (List D)) (n6 : Int) (l7 : List (List D)) (n8 n9 n10 n11 n12 : Int) (l13 : List (List D)) (n15 n16 n17 n18 n19 : Int) (l20 : List (List D))
  (h : Obs [decide (n15 < (l13.length : Int)) = true, 0 ≤ n15, n15 < (l13.length : Int), l13[n15.toNat]? = some [I n16], decide (n16 ≥ (l7.length : Int)) = false, 0 ≤ n16, n16 < (l7.length : Int), l7[n16.toNat]? = some [I n17, I n18, I n19, D.sl 1 l20], (n10 == 7) = true, decide (n16 > n6) = false, (n17 != 5) = true, (n17 != 6) = true]) :
  Tr prog (qaa f151 1) (qaW l0 n6 l7 n8 n9 n10 n11 n12 l13 n15) .ret (qb3 false) :=
 .of_loopc (ks := [2]) (bs := []) (ans := [.br true, .el [I n16], .br false, .el [I n17, I n18, I n19, D.sl 1 l20], .br true, .br false, .br true, .br true]) (by kernel_rfl) h
theorem qxY (l0 : List (List D)) (n6 : Int) (l7 : List (List D)) (n8 n9 n10 n11 n12 : Int) (l13 : List (List D)) (n15 n16 n17 n18 n19 : Int) (l20 : List (List D))
  (h : Obs [decide (n15 < (l13.length : Int)) = true, 0 ≤ n15, n15 < (l13.length : Int), l13[n15.toNat]? = some [I n16], decide (n16 ≥ (l7.length : Int)) = false, 0 ≤ n16, n16 < (l7.length : Int), l7[n16.toNat]? = some [I n17, I n18, I n19, D.sl 1 l20], (n10 == 7) = true, decide (n16 > n6) = false, (n17 != 5) = true, (n17 != 6) = false, (n10 != 7) = true, decide (n16 ≤ n6) = true]) :
  Tr prog (qaa f151 1) (qaW l0 n6 l7 n8 n9 n10 n11 n12 l13 n15) .ret (qb3 false) :=
 .of_loopc (ks := [2]) (bs := []) (ans := [.br true, .el [I n16], .br false, .el [I n17, I n18, I n19, D.sl 1 l20], .br true, .br false, .br true, .br false, .br true, .br true]) (by kernel_rfl) h
theorem qxZ (l0 : List (List D)) (n6 : Int) (l7 : List (List D)) (n8 n9 n10 n11 n12 : Int) (l13 : List (List D)) (n15 n16 n17 n18 n19 : Int) (l20 : List (List D))
  (h : Obs [decide (n15 < (l13.length : Int)) = true, 0 ≤ n15, n15 < (l13.length : Int), l13[n15.toNat]? = some [I n16], decide (n16 ≥ (l7.length : Int)) = false, 0 ≤ n16, n16 < (l7.length : Int), l7[n16.toNat]? = some [I n17, I n18, I n19, D.sl 1 l20], (n10 == 7) = true, decide (n16 > n6) = false, (n17 != 5) = true, (n17 != 6) = false, (n10 != 7) = true, decide (n16 ≤ n6) = false, inInt .i64 (n15 + 1)]) :
  Tr prog (qaa f151 1) (qaW l0 n6 l7 n8 n9 n10 n11 n12 l13 n15) .normal (qaW l0 n6 l7 n8 n9 n10 n11 n12 l13 (n15 + 1)) :=
 .of_loopc (ks := [47, 46, 45, 1, 4, 3, 28, 27, 26]) (bs := [4, 1]) (ans := [.br true, .el [I n16], .br false, .el [I n17, I n18, I n19, D.sl 1 l20], .br true, .br false, .br true, .br false, .br true, .br false]) (by kernel_rfl) h
theorem qx0 (l0 : List (List D)) (n6 : Int) (l7 : List (List D)) (n8 n9 n10 n11 n12 : Int) (l13 : List (List D)) (n15 n16 n17 n18 n19 : Int) (l20 : List (List D))
  (h : Obs [decide (n15 < (l13.length : Int)) = true, 0 ≤ n15, n15 < (l13.length : Int), l13[n15.toNat]? = some [I n16], decide (n16 ≥ (l7.length : Int)) = false, 0 ≤ n16, n16 < (l7.length : Int), l7[n16.toNat]? = some [I n17, I n18, I n19, D.sl 1 l20], (n10 == 7) = true, decide (n16 > n6) = false, (n17 != 5) = true, (n17 != 6) = false, (n10 != 7) = false, inInt .i64 (n15 + 1)]) :
  Tr prog (qaa f151 1) (qaW l0 n6 l7 n8 n9 n10 n11 n12 l13 n15) .normal (qaW l0 n6 l7 n8 n9 n10 n11 n12 l13 (n15 + 1)) :=
 .of_loopc (ks := [47, 46, 45, 1, 4, 3, 28, 27, 26]) (bs := [4, 1]) (ans := [.br true, .el [I n16], .br false, .el [I n17, I n18, I n19, D.sl 1 l20], .br true, .br false, .br true, .br false, .br false]) (by kernel_rfl) h
theorem qx1 (l0 : List (List D)) (n6 : Int) (l7 : List (List D)) (n8 n9 n10 n11 n12 : Int) (l13 : List (List D)) (n15 n16 n17 n18 n19 : Int) (l20 : List (List D))
  (h : Obs [decide (n15 < (l13.length : Int)) = true, 0 ≤ n15, n15 < (l13.length : Int), l13[n15.toNat]? = some [I n16], decide (n16 ≥ (l7.length : Int)) = false, 0 ≤ n16, n16 < (l7.length : Int), l7[n16.toNat]? = some [I n17, I n18, I n19, D.sl 1 l20], (n10 == 7) = true, decide (n16 > n6) = false, (n17 != 5) = false, (n10 != 7) = true, decide (n16 ≤ n6) = true]) :
  Tr prog (qaa f151 1) (qaW l0 n6 l7 n8 n9 n10 n11 n12 l13 n15) .ret (qb3 false) :=
 .of_loopc (ks := [2]) (bs := []) (ans := [.br true, .el [I n16], .br false, .el [I n17, I n18, I n19, D.sl 1 l20], .br true, .br false, .br false, .br true, .br true]) (by kernel_rfl) h
theorem qx2 (l0 : List (List D)) (n6 : Int) (l7 : List (List D)) (n8 n9 n10 n11 n12 : Int) (l13 : List (List D)) (n15 n16 n17 n18 n19 : Int) (l20 : List (List D))
  (h : Obs [decide (n15 < (l13.length : Int)) = true, 0 ≤ n15, n15 < (l13.length : Int), l13[n15.toNat]? = some [I n16], decide (n16 ≥ (l7.length : Int)) = false, 0 ≤ n16, n16 < (l7.length : Int), l7[n16.toNat]? = some [I n17, I n18, I n19, D.sl 1 l20], (n10 == 7) = true, decide (n16 > n6) = false, (n17 != 5) = false, (n10 != 7) = true, decide (n16 ≤ n6) = false, inInt .i64 (n15 + 1)]) :
  Tr prog (qaa f151 1) (qaW l0 n6 l7 n8 n9 n10 n11 n12 l13 n15) .normal (qaW l0 n6 l7 n8 n9 n10 n11 n12 l13 (n15 + 1)) :=
 .of_loopc (ks := [47, 46, 45, 1, 4, 3, 28, 27, 26]) (bs := [4, 1]) (ans := [.br true, .el [I n16], .br false, .el [I n17, I n18, I n19, D.sl 1 l20], .br true, .br false, .br false, .br true, .br false]) (by kernel_rfl) h
theorem qx3 (l0 : List (List D)) (n6 : Int) (l7 : List (List D)) (n8 n9 n10 n11 n12 : Int) (l13 : List (List D)) (n15 n16 n17 n18 n19 : Int) (l20 : List (List D))
  (h : Obs [decide (n15 < (l13.length : Int)) = true, 0 ≤ n15, n15 < (l13.length : Int), l13[n15.toNat]? = some [I n16], decide (n16 ≥ (l7.length : Int)) = false, 0 ≤ n16, n16 < (l7.length : Int), l7[n16.toNat]? = some [I n17, I n18, I n19, D.sl 1 l20], (n10 == 7) = true, decide (n16 > n6) = false, (n17 != 5) = false, (n10 != 7) = false, inInt .i64 (n15 + 1)]) :
  Tr prog (qaa f151 1) (qaW l0 n6 l7 n8 n9 n10 n11 n12 l13 n15) .normal (qaW l0 n6 l7 n8 n9 n10 n11 n12 l13 (n15 + 1)) :=
 .of_loopc (ks := [47, 46, 45, 1, 4, 3, 28, 27, 26]) (bs := [4, 1]) (ans := [.br true, .el [I n16], .br false, .el [I n17, I n18, I n19, D.sl 1 l20], .br true, .br false, .br false, .br false]) (by kernel_rfl) h
theorem qx4 (l0 : List (List D)) (n6 : Int) (l7 : List (List D)) (n8 n9 n10 n11 n12 : Int) (l13 : List (List D)) (n15 n16 n17 n18 n19 : Int) (l20 : List (List D))
  (h : Obs [decide (n15 < (l13.length : Int)) = true, 0 ≤ n15, n15 < (l13.length : Int), l13[n15.toNat]? = some [I n16], decide (n16 ≥ (l7.length : Int)) = false, 0 ≤ n16, n16 < (l7.length : Int), l7[n16.toNat]? = some [I n17, I n18, I n19, D.sl 1 l20], (n10 == 7) = false, (n10 != 7) = true, decide (n16 ≤ n6) = true]) :
  Tr prog (qaa f151 1) (qaW l0 n6 l7 n8 n9 n10 n11 n12 l13 n15) .ret (qb3 false) :=
 .of_loopc (ks := [2]) (bs := []) (ans := [.br true, .el [I n16], .br false, .el [I n17, I n18, I n19, D.sl 1 l20], .br false, .br true, .br true]) (by kernel_rfl) h
theorem qx5 (l0 : List (List D)) (n6 : Int) (l7 : List (List D)) (n8 n9 n10 n11 n12 : Int) (l13 : List (List D)) (n15 n16 n17 n18 n19 : Int) (l20 : List (List D))
  (h : Obs [decide (n15 < (l13.length : Int)) = true, 0 ≤ n15, n15 < (l13.length : Int), l13[n15.toNat]? = some [I n16], decide (n16 ≥ (l7.length : Int)) = false, 0 ≤ n16, n16 < (l7.length : Int), l7[n16.toNat]? = some [I n17, I n18, I n19, D.sl 1 l20], (n10 == 7) = false, (n10 != 7) = true, decide (n16 ≤ n6) = false, inInt .i64 (n15 + 1)]) :
  Tr prog (qaa f151 1) (qaW l0 n6 l7 n8 n9 n10 n11 n12 l13 n15) .normal (qaW l0 n6 l7 n8 n9 n10 n11 n12 l13 (n15 + 1)) :=
 .of_loopc (ks := [47, 46, 45, 1, 4, 3, 28, 27, 26]) (bs := [4, 1]) (ans := [.br true, .el [I n16], .br false, .el [I n17, I n18, I n19, D.sl 1 l20], .br false, .br true, .br false]) (by kernel_rfl) h
theorem qx6 (l0 : List (List D)) (n6 : Int) (l7 : List (List D)) (n8 n9 n10 n11 n12 : Int) (l13 : List (List D)) (n15 n16 n17 n18 n19 : Int) (l20 : List (List D))
  (h : Obs [decide (n15 < (l13.length : Int)) = true, 0 ≤ n15, n15 < (l13.length : Int), l13[n15.toNat]? = some [I n16], decide (n16 ≥ (l7.length : Int)) = false, 0 ≤ n16, n16 < (l7.length : Int), l7[n16.toNat]? = some [I n17, I n18, I n19, D.sl 1 l20], (n10 == 7) = false, (n10 != 7) = false, inInt .i64 (n15 + 1)]) :
  Tr prog (qaa f151 1) (qaW l0 n6 l7 n8 n9 n10 n11 n12 l13 n15) .normal (qaW l0 n6 l7 n8 n9 n10 n11 n12 l13 (n15 + 1)) :=
 .of_loopc (ks := [47, 46, 45, 1, 4, 3, 28, 27, 26]) (bs := [4, 1]) (ans := [.br true, .el [I n16], .br false, .el [I n17, I n18, I n19, D.sl 1 l20], .br false, .br false]) (by kernel_rfl) h
def qgR (l0 : List (List D)) (n1 : Int) (l2 : List (List D)) (n3 n4 : Int) : St :=
 { env := envOf 90 [(1, .al (.one (.ptr 1 0))), (26, .al (.one (.sl .free 4 l0))), (27, .al (.one (.v (.int .i64 (l0.length : Int))))), (28, .al (.one (.v (.int .i64 n1))))], boxes := [(1, [.sl .free 4 l2, .v (.int .i64 n3), .v (.int .i64 n4)])] }
theorem qx7 (l0 : List (List D)) (n6 : Int) (l7 : List (List D)) (n8 n9 n10 n11 n12 : Int) (l13 : List (List D)) (n15 : Int)
  (h : Obs [decide (n15 < (l13.length : Int)) = false]) :
  Tr prog (qaa f151 1) (qaW l0 n6 l7 n8 n9 n10 n11 n12 l13 n15) (.exit 2) (qgR l0 n6 l7 n8 n9) :=
 .of_loopc (ks := [28, 27, 26, 1]) (bs := [1]) (ans := [.br false]) (by kernel_rfl) h
theorem qx8 (l0 : List (List D)) (n6 : Int) (l7 : List (List D)) (n8 n9 n10 n11 n12 : Int) (l13 : List (List D)) (b14 b15 : Bool)
  (h : Obs [decide (n6 < (l0.length : Int)) = true, 0 ≤ n6, n6 < (l0.length : Int), l0[n6.toNat]? = some [I n10, I n11, I n12, D.sl 1 l13], Ret prog 251 [.agg [I n10, I n11, I n12, D.sl 1 l13]] [.one (B b14)], (!b14) = false, (!(n10 == 1) == (n6 == 0)) = false, qac prog (qaa f151 1) (qaW l0 n6 l7 n8 n9 n10 n11 n12 l13 0) .ret (qb3 b15)]) :
  Tr prog (qaa f151 0) (qbF l0 n6 l7 n8 n9) .ret (qdf b15) :=
 .of_loopc (ks := [2]) (bs := []) (ans := [.br true, .el [I n10, I n11, I n12, D.sl 1 l13], .res [.one (B b14)], .br false, .br false, .loop [] [47, 46, 45, 1, 4, 3, 28, 27, 26] [4, 1] .ret (qb3 b15)]) (by kernel_rfl) h
theorem qx9 (l0 : List (List D)) (n6 : Int) (l7 : List (List D)) (n8 n9 n10 n11 n12 : Int) (l13 : List (List D)) (b14 : Bool)
  (h : Obs [decide (n6 < (l0.length : Int)) = true, 0 ≤ n6, n6 < (l0.length : Int), l0[n6.toNat]? = some [I n10, I n11, I n12, D.sl 1 l13], Ret prog 251 [.agg [I n10, I n11, I n12, D.sl 1 l13]] [.one (B b14)], (!b14) = false, (!(n10 == 1) == (n6 == 0)) = false, qac prog (qaa f151 1) (qaW l0 n6 l7 n8 n9 n10 n11 n12 l13 0) (.exit 2) (qgR l0 n6 l7 n8 n9), inInt .i64 (n6 + 1)]) :
  Tr prog (qaa f151 0) (qbF l0 n6 l7 n8 n9) .normal (qbF l0 (n6 + 1) l7 n8 n9) :=
 .of_loopc (ks := [28, 27, 26, 1]) (bs := [1]) (ans := [.br true, .el [I n10, I n11, I n12, D.sl 1 l13], .res [.one (B b14)], .br false, .br false, .loop [] [47, 46, 45, 1, 4, 3, 28, 27, 26] [4, 1] (.exit 2) (qgR l0 n6 l7 n8 n9)]) (by kernel_rfl) h
def qgS : St :=
 { env := envOf 90 [], boxes := [] }
theorem qya (l0 : List (List D)) (n6 : Int) (l7 : List (List D)) (n8 n9 : Int)
  (h : Obs [decide (n6 < (l0.length : Int)) = false]) :
  Tr prog (qaa f151 0) (qbF l0 n6 l7 n8 n9) (.exit 0) qgS :=
 .of_loopc (ks := []) (bs := []) (ans := [.br false]) (by kernel_rfl) h
theorem qyb (l0 : List (List D)) (n1 n2 : Int) (b3 b4 b5 b6 : Bool)
  (h : Obs [Ret prog 119 [.one (I (l0.length : Int)), .one (I 1), .one (I 8)] [.one (B b3)], (!b3) = false, Ret prog 119 [.one (I n1), .one (I 1), .one (I 4)] [.one (B b4)], (!b4) = false, Ret prog 119 [.one (I n2), .one (I 1), .one (I 4)] [.one (B b5)], (!b5) = false, qac prog (qaa f151 0) (qbF l0 0 l0 n1 n2) .ret (qdf b6)]) :
  Ret prog 151 [.agg [D.sl 4 l0, I n1, I n2]] [.one (B b6)] :=
 .of [.res [.one (B b3)], .br false, .res [.one (B b4)], .br false, .res [.one (B b5)], .br false, .loop [] [28, 27, 26, 1] [1] .ret (qdf b6)] _ func151 rfl (by kernel_rfl) h
theorem qyc (l0 : List (List D)) (n1 n2 : Int) (b3 b4 b5 : Bool)
  (h : Obs [Ret prog 119 [.one (I (l0.length : Int)), .one (I 1), .one (I 8)] [.one (B b3)], (!b3) = false, Ret prog 119 [.one (I n1), .one (I 1), .one (I 4)] [.one (B b4)], (!b4) = false, Ret prog 119 [.one (I n2), .one (I 1), .one (I 4)] [.one (B b5)], (!b5) = false, qac prog (qaa f151 0) (qbF l0 0 l0 n1 n2) (.exit 0) qgS]) :
  Ret prog 151 [.agg [D.sl 4 l0, I n1, I n2]] [.one (B true)] :=
 .of [.res [.one (B b3)], .br false, .res [.one (B b4)], .br false, .res [.one (B b5)], .br false, .loop [] [28, 27, 26, 1] [1] (.exit 0) qgS] _ func151 rfl (by kernel_rfl) h
theorem qyd (n0 n1 n2 n3 n4 : Int) (b5 b6 b7 b8 : Bool)
  (h : Obs [Ret prog 138 [.one (I n0), .one (I 0), .one (I 7)] [.one (B b5)], b5 = true, Ret prog 241 [.agg [I n1, I n2]] [.one (B b6)], b6 = true, Ret prog 138 [.one (I n3), .one (I 0), .one (I 99)] [.one (B b7)], b7 = true, Ret prog 138 [.one (I n4), .one (I 0), .one (I 999)] [.one (B b8)]]) :
  Ret prog 141 [.agg [I n0, I n1, I n2, I n3, I n4]] [.one (B b8)] :=
 .of [.res [.one (B b5)], .br true, .res [.one (B b6)], .br true, .res [.one (B b7)], .br true, .res [.one (B b8)]] _ func141 rfl (by kernel_rfl) h
theorem qye (n0 n1 n2 n3 n4 : Int) (b5 b6 b7 : Bool)
  (h : Obs [Ret prog 138 [.one (I n0), .one (I 0), .one (I 7)] [.one (B b5)], b5 = true, Ret prog 241 [.agg [I n1, I n2]] [.one (B b6)], b6 = true, Ret prog 138 [.one (I n3), .one (I 0), .one (I 99)] [.one (B b7)], b7 = false]) :
  Ret prog 141 [.agg [I n0, I n1, I n2, I n3, I n4]] [.one (B false)] :=
 .of [.res [.one (B b5)], .br true, .res [.one (B b6)], .br true, .res [.one (B b7)], .br false] _ func141 rfl (by kernel_rfl) h
theorem qyf (n0 n1 n2 n3 n4 : Int) (b5 b6 : Bool)
  (h : Obs [Ret prog 138 [.one (I n0), .one (I 0), .one (I 7)] [.one (B b5)], b5 = true, Ret prog 241 [.agg [I n1, I n2]] [.one (B b6)], b6 = false]) :
  Ret prog 141 [.agg [I n0, I n1, I n2, I n3, I n4]] [.one (B false)] :=
 .of [.res [.one (B b5)], .br true, .res [.one (B b6)], .br false] _ func141 rfl (by kernel_rfl) h
theorem qyg (n0 n1 n2 n3 n4 : Int) (b5 : Bool)
  (h : Obs [Ret prog 138 [.one (I n0), .one (I 0), .one (I 7)] [.one (B b5)], b5 = false]) :
  Ret prog 141 [.agg [I n0, I n1, I n2, I n3, I n4]] [.one (B false)] :=
 .of [.res [.one (B b5)], .br false] _ func141 rfl (by kernel_rfl) h
theorem qyh (n0 n1 n2 n3 n4 : Int) (b5 b6 b7 : Bool)
  (h : Obs [Ret prog 119 [.one (I n0), .one (I 0), .one (I 7)] [.one (B b5)], b5 = true, Ret prog 252 [.agg [I n1, I n2]] [.one (B b6)], b6 = true, Ret prog 253 [.one (I n3), .one (I n4)] [.one (B b7)]]) :
  Ret prog 152 [.agg [I n0, I n1, I n2, I n3, I n4]] [.one (B b7)] :=
 .of [.res [.one (B b5)], .br true, .res [.one (B b6)], .br true, .res [.one (B b7)]] _ func152 rfl (by kernel_rfl) h
theorem qyi (n0 n1 n2 n3 n4 : Int) (b5 b6 : Bool)
  (h : Obs [Ret prog 119 [.one (I n0), .one (I 0), .one (I 7)] [.one (B b5)], b5 = true, Ret prog 252 [.agg [I n1, I n2]] [.one (B b6)], b6 = false]) :
  Ret prog 152 [.agg [I n0, I n1, I n2, I n3, I n4]] [.one (B false)] :=
 .of [.res [.one (B b5)], .br true, .res [.one (B b6)], .br false] _ func152 rfl (by kernel_rfl) h
theorem qyj (n0 n1 n2 n3 n4 : Int) (b5 : Bool)
  (h : Obs [Ret prog 119 [.one (I n0), .one (I 0), .one (I 7)] [.one (B b5)], b5 = false]) :
  Ret prog 152 [.agg [I n0, I n1, I n2, I n3, I n4]] [.one (B false)] :=
 .of [.res [.one (B b5)], .br false] _ func152 rfl (by kernel_rfl) h
theorem qyk (n0 n1 : Int) (b2 b3 : Bool)
  (h : Obs [Ret prog 138 [.one (I n0), .one (I 0), .one (I 3)] [.one (B b2)], b2 = true, Ret prog 138 [.one (I n1), .one (I 0), .one (I 6)] [.one (B b3)]]) :
  Ret prog 241 [.agg [I n0, I n1]] [.one (B b3)] :=
 .of [.res [.one (B b2)], .br true, .res [.one (B b3)]] _ func241 rfl (by kernel_rfl) h
theorem qyl (n0 n1 : Int) (b2 : Bool)
  (h : Obs [Ret prog 138 [.one (I n0), .one (I 0), .one (I 3)] [.one (B b2)], b2 = false]) :
  Ret prog 241 [.agg [I n0, I n1]] [.one (B false)] :=
 .of [.res [.one (B b2)], .br false] _ func241 rfl (by kernel_rfl) h
theorem qym (n0 n1 : Int) (b2 b3 : Bool)
  (h : Obs [Ret prog 119 [.one (I n0), .one (I 0), .one (I 3)] [.one (B b2)], b2 = true, Ret prog 119 [.one (I n1), .one (I 0), .one (I 6)] [.one (B b3)]]) :
  Ret prog 252 [.agg [I n0, I n1]] [.one (B b3)] :=
 .of [.res [.one (B b2)], .br true, .res [.one (B b3)]] _ func252 rfl (by kernel_rfl) h
theorem qyn (n0 n1 : Int) (b2 : Bool)
  (h : Obs [Ret prog 119 [.one (I n0), .one (I 0), .one (I 3)] [.one (B b2)], b2 = false]) :
  Ret prog 252 [.agg [I n0, I n1]] [.one (B false)] :=
 .of [.res [.one (B b2)], .br false] _ func252 rfl (by kernel_rfl) h
theorem qyo (n0 n1 : Int) (b2 : Bool)
  (h : Obs [Ret prog 241 [.agg [I n0, I n1]] [.one (B b2)], (!b2) = true]) :
  Ret prog 145 [.agg [I n0, I n1]] [.agg [I n0, I n1], .one (B false)] :=
 .of [.res [.one (B b2)], .br true] _ func145 rfl (by kernel_rfl) h
theorem qyp (n0 n1 : Int) (b2 : Bool)
  (h : Obs [Ret prog 241 [.agg [I n0, I n1]] [.one (B b2)], (!b2) = false, decide (n1 ≥ 6) = true]) :
  Ret prog 145 [.agg [I n0, I n1]] [.agg [I n0, I n1], .one (B false)] :=
 .of [.res [.one (B b2)], .br false, .br true] _ func145 rfl (by kernel_rfl) h
theorem qyq (n0 n1 : Int) (b2 : Bool)
  (h : Obs [Ret prog 241 [.agg [I n0, I n1]] [.one (B b2)], (!b2) = false, decide (n1 ≥ 6) = false, inInt .i64 (n1 + 1)]) :
  Ret prog 145 [.agg [I n0, I n1]] [.agg [I n0, I (n1 + 1)], .one (B true)] :=
 .of [.res [.one (B b2)], .br false, .br false] _ func145 rfl (by kernel_rfl) h
theorem qyr (n0 n1 : Int) (b2 : Bool)
  (h : Obs [Ret prog 252 [.agg [I n0, I n1]] [.one (B b2)], (!b2) = true]) :
  Ret prog 157 [.agg [I n0, I n1]] [.agg [I n0, I n1], .one (B false)] :=
 .of [.res [.one (B b2)], .br true] _ func157 rfl (by kernel_rfl) h
theorem qys (n0 n1 : Int) (b2 : Bool)
  (h : Obs [Ret prog 252 [.agg [I n0, I n1]] [.one (B b2)], (!b2) = false, (n1 == 6) = true]) :
  Ret prog 157 [.agg [I n0, I n1]] [.agg [I n0, I n1], .one (B false)] :=
 .of [.res [.one (B b2)], .br false, .br true] _ func157 rfl (by kernel_rfl) h
theorem qyt (n0 n1 : Int) (b2 : Bool)
  (h : Obs [Ret prog 252 [.agg [I n0, I n1]] [.one (B b2)], (!b2) = false, (n1 == 6) = false, inInt .i64 (n1 + 1)]) :
  Ret prog 157 [.agg [I n0, I n1]] [.agg [I n0, I (n1 + 1)], .one (B true)] :=
 .of [.res [.one (B b2)], .br false, .br false] _ func157 rfl (by kernel_rfl) h
theorem qyu (n0 n1 n2 : Int) (l3 : List (List D)) (n4 n5 : Int) (b6 : Bool)
  (h : Obs [Ret prog 240 [.agg [I n0, I n1, I n2, D.sl 1 l3]] [.one (B b6)], (!b6) = true]) :
  Ret prog 142 [.agg [I n0, I n1, I n2, D.sl 1 l3], .one (I n4), .one (I n5)] [.one (I n4), .one (I n5), .one (B false)] :=
 .of [.res [.one (B b6)], .br true] _ func142 rfl (by kernel_rfl) h
theorem qyv (n0 n1 n2 : Int) (l3 : List (List D)) (n4 n5 : Int) (b6 b7 : Bool)
  (h : Obs [Ret prog 240 [.agg [I n0, I n1, I n2, D.sl 1 l3]] [.one (B b6)], (!b6) = false, Ret prog 138 [.one (I n4), .one (I 0), .one (I 99)] [.one (B b7)], (!b7) = true]) :
  Ret prog 142 [.agg [I n0, I n1, I n2, D.sl 1 l3], .one (I n4), .one (I n5)] [.one (I n4), .one (I n5), .one (B false)] :=
 .of [.res [.one (B b6)], .br false, .res [.one (B b7)], .br true] _ func142 rfl (by kernel_rfl) h
theorem qyw (n0 n1 n2 : Int) (l3 : List (List D)) (n4 n5 : Int) (b6 b7 b8 : Bool)
  (h : Obs [Ret prog 240 [.agg [I n0, I n1, I n2, D.sl 1 l3]] [.one (B b6)], (!b6) = false, Ret prog 138 [.one (I n4), .one (I 0), .one (I 99)] [.one (B b7)], (!b7) = false, Ret prog 138 [.one (I n5), .one (I 0), .one (I 999)] [.one (B b8)], (!b8) = true]) :
  Ret prog 142 [.agg [I n0, I n1, I n2, D.sl 1 l3], .one (I n4), .one (I n5)] [.one (I n4), .one (I n5), .one (B false)] :=
 .of [.res [.one (B b6)], .br false, .res [.one (B b7)], .br false, .res [.one (B b8)], .br true] _ func142 rfl (by kernel_rfl) h
theorem qyx (n0 n1 n2 : Int) (l3 : List (List D)) (n4 n5 : Int) (b6 b7 b8 : Bool) (n9 : Int)
  (h : Obs [Ret prog 240 [.agg [I n0, I n1, I n2, D.sl 1 l3]] [.one (B b6)], (!b6) = false, Ret prog 138 [.one (I n4), .one (I 0), .one (I 99)] [.one (B b7)], (!b7) = false, Ret prog 138 [.one (I n5), .one (I 0), .one (I 999)] [.one (B b8)], (!b8) = false, (n0 == 2) = true, inInt .i64 (n5 + n1), Ret prog 242 [.one (I (n5 + n1)), .one (I 999)] [.one (I n9)]]) :
  Ret prog 142 [.agg [I n0, I n1, I n2, D.sl 1 l3], .one (I n4), .one (I n5)] [.one (I n4), .one (I n9), .one (B true)] :=
 .of [.res [.one (B b6)], .br false, .res [.one (B b7)], .br false, .res [.one (B b8)], .br false, .br true, .res [.one (I n9)]] _ func142 rfl (by kernel_rfl) h
theorem qyy (n0 n1 n2 : Int) (l3 : List (List D)) (n4 n5 : Int) (b6 b7 b8 : Bool)
  (h : Obs [Ret prog 240 [.agg [I n0, I n1, I n2, D.sl 1 l3]] [.one (B b6)], (!b6) = false, Ret prog 138 [.one (I n4), .one (I 0), .one (I 99)] [.one (B b7)], (!b7) = false, Ret prog 138 [.one (I n5), .one (I 0), .one (I 999)] [.one (B b8)], (!b8) = false, (n0 == 2) = false, (n0 == 4) = true, inInt .i64 (n4 + n1), (100 : Int) ≠ 0]) :
  Ret prog 142 [.agg [I n0, I n1, I n2, D.sl 1 l3], .one (I n4), .one (I n5)] [.one (I ((n4 + n1).tmod 100)), .one (I n5), .one (B true)] :=
 .of [.res [.one (B b6)], .br false, .res [.one (B b7)], .br false, .res [.one (B b8)], .br false, .br false, .br true] _ func142 rfl (by kernel_rfl) h
theorem qyz (n0 n1 n2 : Int) (l3 : List (List D)) (n4 n5 : Int) (b6 b7 b8 : Bool)
  (h : Obs [Ret prog 240 [.agg [I n0, I n1, I n2, D.sl 1 l3]] [.one (B b6)], (!b6) = false, Ret prog 138 [.one (I n4), .one (I 0), .one (I 99)] [.one (B b7)], (!b7) = false, Ret prog 138 [.one (I n5), .one (I 0), .one (I 999)] [.one (B b8)], (!b8) = false, (n0 == 2) = false, (n0 == 4) = false, (n0 == 3) = true, n1 ≠ 0]) :
  Ret prog 142 [.agg [I n0, I n1, I n2, D.sl 1 l3], .one (I n4), .one (I n5)] [.one (I n4), .one (I n5), .one (B (n4.tmod n1 == n2))] :=
 .of [.res [.one (B b6)], .br false, .res [.one (B b7)], .br false, .res [.one (B b8)], .br false, .br false, .br false, .br true] _ func142 rfl (by kernel_rfl) h
theorem qyA (n0 n1 n2 : Int) (l3 : List (List D)) (n4 n5 : Int) (b6 b7 b8 : Bool)
  (h : Obs [Ret prog 240 [.agg [I n0, I n1, I n2, D.sl 1 l3]] [.one (B b6)], (!b6) = false, Ret prog 138 [.one (I n4), .one (I 0), .one (I 99)] [.one (B b7)], (!b7) = false, Ret prog 138 [.one (I n5), .one (I 0), .one (I 999)] [.one (B b8)], (!b8) = false, (n0 == 2) = false, (n0 == 4) = false, (n0 == 3) = false]) :
  Ret prog 142 [.agg [I n0, I n1, I n2, D.sl 1 l3], .one (I n4), .one (I n5)] [.one (I n4), .one (I n5), .one (B (n0 != 8))] :=
 .of [.res [.one (B b6)], .br false, .res [.one (B b7)], .br false, .res [.one (B b8)], .br false, .br false, .br false, .br false] _ func142 rfl (by kernel_rfl) h
theorem qyB (n0 n1 n2 : Int) (l3 : List (List D)) (n4 n5 : Int) (b6 : Bool)
  (h : Obs [Ret prog 251 [.agg [I n0, I n1, I n2, D.sl 1 l3]] [.one (B b6)], (!b6) = true]) :
  Ret prog 155 [.agg [I n0, I n1, I n2, D.sl 1 l3], .one (I n4), .one (I n5)] [.one (I n4), .one (I n5), .one (B false)] :=
 .of [.res [.one (B b6)], .br true] _ func155 rfl (by kernel_rfl) h
theorem qyC (n0 n1 n2 : Int) (l3 : List (List D)) (n4 n5 : Int) (b6 b7 : Bool)
  (h : Obs [Ret prog 251 [.agg [I n0, I n1, I n2, D.sl 1 l3]] [.one (B b6)], (!b6) = false, Ret prog 253 [.one (I n4), .one (I n5)] [.one (B b7)], (!b7) = true]) :
  Ret prog 155 [.agg [I n0, I n1, I n2, D.sl 1 l3], .one (I n4), .one (I n5)] [.one (I n4), .one (I n5), .one (B false)] :=
 .of [.res [.one (B b6)], .br false, .res [.one (B b7)], .br true] _ func155 rfl (by kernel_rfl) h
theorem qyD (n0 n1 n2 : Int) (l3 : List (List D)) (n4 n5 : Int) (b6 b7 : Bool)
  (h : Obs [Ret prog 251 [.agg [I n0, I n1, I n2, D.sl 1 l3]] [.one (B b6)], (!b6) = false, Ret prog 253 [.one (I n4), .one (I n5)] [.one (B b7)], (!b7) = false, (n0 == 2) = true, inInt .i64 (n5 + n1)]) :
  Ret prog 155 [.agg [I n0, I n1, I n2, D.sl 1 l3], .one (I n4), .one (I n5)] [.one (I n4), .one (I (if n5 + n1 < 999 then n5 + n1 else 999)), .one (B true)] :=
 .of [.res [.one (B b6)], .br false, .res [.one (B b7)], .br false, .br true] _ func155 rfl (by kernel_rfl) h
theorem qyE (n0 n1 n2 : Int) (l3 : List (List D)) (n4 n5 : Int) (b6 b7 : Bool)
  (h : Obs [Ret prog 251 [.agg [I n0, I n1, I n2, D.sl 1 l3]] [.one (B b6)], (!b6) = false, Ret prog 253 [.one (I n4), .one (I n5)] [.one (B b7)], (!b7) = false, (n0 == 2) = false, (n0 == 4) = true, inInt .i64 (n4 + n1), (100 : Int) ≠ 0]) :
  Ret prog 155 [.agg [I n0, I n1, I n2, D.sl 1 l3], .one (I n4), .one (I n5)] [.one (I ((n4 + n1).tmod 100)), .one (I n5), .one (B true)] :=
 .of [.res [.one (B b6)], .br false, .res [.one (B b7)], .br false, .br false, .br true] _ func155 rfl (by kernel_rfl) h
theorem qyF (n0 n1 n2 : Int) (l3 : List (List D)) (n4 n5 : Int) (b6 b7 : Bool)
  (h : Obs [Ret prog 251 [.agg [I n0, I n1, I n2, D.sl 1 l3]] [.one (B b6)], (!b6) = false, Ret prog 253 [.one (I n4), .one (I n5)] [.one (B b7)], (!b7) = false, (n0 == 2) = false, (n0 == 4) = false, (n0 == 3) = true, n1 ≠ 0]) :
  Ret prog 155 [.agg [I n0, I n1, I n2, D.sl 1 l3], .one (I n4), .one (I n5)] [.one (I n4), .one (I n5), .one (B (n4.tmod n1 == n2))] :=
 .of [.res [.one (B b6)], .br false, .res [.one (B b7)], .br false, .br false, .br false, .br true] _ func155 rfl (by kernel_rfl) h
theorem qyG (n0 n1 n2 : Int) (l3 : List (List D)) (n4 n5 : Int) (b6 b7 : Bool)
  (h : Obs [Ret prog 251 [.agg [I n0, I n1, I n2, D.sl 1 l3]] [.one (B b6)], (!b6) = false, Ret prog 253 [.one (I n4), .one (I n5)] [.one (B b7)], (!b7) = false, (n0 == 2) = false, (n0 == 4) = false, (n0 == 3) = false]) :
  Ret prog 155 [.agg [I n0, I n1, I n2, D.sl 1 l3], .one (I n4), .one (I n5)] [.one (I n4), .one (I n5), .one (B (n0 != 8))] :=
 .of [.res [.one (B b6)], .br false, .res [.one (B b7)], .br false, .br false, .br false, .br false] _ func155 rfl (by kernel_rfl) h
theorem qyH (n0 n1 : Int)
  (h : Obs [decide (n1 < n0) = true]) :
  Ret prog 242 [.one (I n0), .one (I n1)] [.one (I n1)] :=
 .of [.br true] _ func242 rfl (by kernel_rfl) h
theorem qyI (n0 n1 : Int)
  (h : Obs [decide (n1 < n0) = false]) :
  Ret prog 242 [.one (I n0), .one (I n1)] [.one (I n0)] :=
 .of [.br false] _ func242 rfl (by kernel_rfl) h
theorem qyJ (n0 n1 : Int) (b2 b3 : Bool)
  (h : Obs [Ret prog 119 [.one (I n0), .one (I 0), .one (I 99)] [.one (B b2)], b2 = true, Ret prog 119 [.one (I n1), .one (I 0), .one (I 999)] [.one (B b3)]]) :
  Ret prog 253 [.one (I n0), .one (I n1)] [.one (B b3)] :=
 .of [.res [.one (B b2)], .br true, .res [.one (B b3)]] _ func253 rfl (by kernel_rfl) h
theorem qyK (n0 n1 : Int) (b2 : Bool)
  (h : Obs [Ret prog 119 [.one (I n0), .one (I 0), .one (I 99)] [.one (B b2)], b2 = false]) :
  Ret prog 253 [.one (I n0), .one (I n1)] [.one (B false)] :=
 .of [.res [.one (B b2)], .br false] _ func253 rfl (by kernel_rfl) h
end Go.Proofs.YtialmplmfcahpaaGreat
