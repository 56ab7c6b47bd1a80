import Derived.Test.YtialmplmfcahpaaGreatRows
import Derived.Test.YtialmplmfcahpaaGreatR22
set_option linter.unusedVariables false
set_option linter.unusedSimpArgs false
namespace Go.Proofs.YtialmplmfcahpaaGreat
open Go.Sx Go.RowKit
theorem quc (n0 n1 n2 n3 n4 n5 n6 n7 n8 : Int)
  (h : Obs [Ret Tryz.prog 309 [.one (.sl 1 [[I n1], [I n0], [I n2], [I n3]]), .one (.sl 1 [[I n5], [I n4], [I n6], [I n7]])] [.one (I n8)]]) :
  Ret Tryz.prog 299 [.agg [I n0, I n1, I n2, I n3], .agg [I n4, I n5, I n6, I n7]] [.one (I n8)] :=
 .of [.res [.one (I n8)]] _ Tryz.func299 rfl (by kernel_rfl) h
theorem qlH (l0 : List (List D)) (n1 n2 n3 : Int) (b4 : Bool)
  (h : Obs [inInt .i64 ((↑l0.length : Int) - 1), Ret Tryz.prog 119 [.one (I n3), .one (I 0), .one (I ((↑l0.length : Int) - 1))] [.one (B b4)]]) :
  Ret Tryz.prog 153 [.agg [D.sl 4 l0, I n1, I n2], .one (I n3)] [.one (B b4)] :=
 .of [.res [.one (B b4)]] _ Tryz.func153 rfl (by kernel_rfl) h
def qdT (n0 n1 n2 n3 n4 : Int) : St :=
 { env := envOf 41 [(5, .al (.one (.sl (.own 27) 1 [[I n0], [I n1], [I n2], [I n3]]))), (6, .al (.one (.v (.int .i64 n4))))], boxes := [] }
def qgv (n0 : Int) : St :=
 { env := envOf 41 [(4, .al (.one (.v (.int .i64 n0))))], boxes := [] }
theorem quZ (n8 n9 n10 n11 n12 n13 n14 : Int)
  (h : Obs [decide (n12 < 4) = true, 0 ≤ n12, n12 < (↑[[I n8], [I n9], [I n10], [I n11]].length : Int), [[I n8], [I n9], [I n10], [I n11]][n12.toNat]? = some [I n13], (n13 != 0) = true, 0 ≤ n12, n12 < (↑[[I n8], [I n9], [I n10], [I n11]].length : Int), [[I n8], [I n9], [I n10], [I n11]][n12.toNat]? = some [I n14]]) :
  Tr Tryz.prog (qaa Tryz.f292 0) (qdT n8 n9 n10 n11 n12) .ret (qgv n14) :=
 .of_loopc (ks := [4]) (bs := []) (ans := [.br true, .el [I n13], .br true, .el [I n14]]) (by kernel_rfl) h
theorem qu0 (n8 n9 n10 n11 n12 n13 : Int)
  (h : Obs [decide (n12 < 4) = true, 0 ≤ n12, n12 < (↑[[I n8], [I n9], [I n10], [I n11]].length : Int), [[I n8], [I n9], [I n10], [I n11]][n12.toNat]? = some [I n13], (n13 != 0) = false, inInt .i64 (n12 + 1)]) :
  Tr Tryz.prog (qaa Tryz.f292 0) (qdT n8 n9 n10 n11 n12) .normal (qdT n8 n9 n10 n11 (n12 + 1)) :=
 .of_loopc (ks := [6, 5]) (bs := []) (ans := [.br true, .el [I n13], .br false]) (by kernel_rfl) h
def qja : St :=
 { env := envOf 41 [], boxes := [] }
theorem qu1 (n8 n9 n10 n11 n12 : Int)
  (h : Obs [decide (n12 < 4) = false]) :
  Tr Tryz.prog (qaa Tryz.f292 0) (qdT n8 n9 n10 n11 n12) (.exit 0) qja :=
 .of_loopc (ks := []) (bs := []) (ans := [.br false]) (by kernel_rfl) h
theorem qu2 (n0 n1 n2 n3 n4 n5 n6 n7 n8 n9 n10 n11 n12 : Int)
  (h : Obs [Ret Tryz.prog 305 [.one (I n1), .one (I n5)] [.one (I n8)], Ret Tryz.prog 305 [.one (I n0), .one (I n4)] [.one (I n9)], Ret Tryz.prog 305 [.one (I n2), .one (I n6)] [.one (I n10)], Ret Tryz.prog 305 [.one (I n3), .one (I n7)] [.one (I n11)], qac Tryz.prog (qaa Tryz.f292 0) (qdT n8 n9 n10 n11 0) .ret (qgv n12)]) :
  Ret Tryz.prog 292 [.agg [I n0, I n1, I n2, I n3], .agg [I n4, I n5, I n6, I n7]] [.one (I n12)] :=
 .of [.res [.one (I n8)], .res [.one (I n9)], .res [.one (I n10)], .res [.one (I n11)], .loop [] [6, 5] [] .ret (qgv n12)] _ Tryz.func292 rfl (by kernel_rfl) h
theorem qu3 (n0 n1 n2 n3 n4 n5 n6 n7 n8 n9 n10 n11 : Int)
  (h : Obs [Ret Tryz.prog 305 [.one (I n1), .one (I n5)] [.one (I n8)], Ret Tryz.prog 305 [.one (I n0), .one (I n4)] [.one (I n9)], Ret Tryz.prog 305 [.one (I n2), .one (I n6)] [.one (I n10)], Ret Tryz.prog 305 [.one (I n3), .one (I n7)] [.one (I n11)], qac Tryz.prog (qaa Tryz.f292 0) (qdT n8 n9 n10 n11 0) (.exit 0) qja]) :
  Ret Tryz.prog 292 [.agg [I n0, I n1, I n2, I n3], .agg [I n4, I n5, I n6, I n7]] [.one (I 0)] :=
 .of [.res [.one (I n8)], .res [.one (I n9)], .res [.one (I n10)], .res [.one (I n11)], .loop [] [6, 5] [] (.exit 0) qja] _ Tryz.func292 rfl (by kernel_rfl) h
end Go.Proofs.YtialmplmfcahpaaGreat
