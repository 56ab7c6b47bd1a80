import Derived.Test.YtialmplmfcahpaaGreatRows
import Derived.Test.YtialmplmfcahpaaGreatR22
set_option linter.unusedVariables false
set_option linter.unusedSimpArgs false
namespace Go.Proofs.YtialmplmfcahpaaGreat
open Go.Sx Go.RowKit
theorem laws_FnExactSafeCluster_p0 (l0 : List (List D)) (n1 n2 : Int) (l3 l4 l5 l6 : List (List D)) (n7 : Int)
  (h : Obs [Ret Tryz.prog 14 [.agg [D.sl 4 l0, I n1, I n2, D.sl 8 l3, D.sl 6 l4, D.sl 5 l5, D.sl 3 l6], .one (I 1048576)] [.one (I n7)], decide (n7 < 0) = true]) :
  Ret Tryz.prog 5 [.agg [D.sl 4 l0, I n1, I n2, D.sl 8 l3, D.sl 6 l4, D.sl 5 l5, D.sl 3 l6]] [.one (B true)] :=
 .of [.res [.one (I n7)], .br true] _ Tryz.func5 rfl (by kernel_rfl) h
theorem laws_FnExactSafeCluster_p3 (l0 : List (List D)) (n1 n2 : Int) (l3 l4 l5 l6 : List (List D)) (n7 : Int) (l8 : List (List D)) (n9 n10 : Int) (l11 l12 l13 l14 : List (List D)) (b15 : Bool) (l16 : List (List D)) (n17 n18 : Int) (l19 l20 l21 l22 : List (List D)) (b23 : Bool) (l24 : List (List D)) (n25 n26 : Int) (l27 l28 l29 l30 : List (List D)) (b31 : Bool)
  (h : Obs [Ret Tryz.prog 14 [.agg [D.sl 4 l0, I n1, I n2, D.sl 8 l3, D.sl 6 l4, D.sl 5 l5, D.sl 3 l6], .one (I 1048576)] [.one (I n7)], decide (n7 < 0) = false, Ret Tryz.prog 16 [.agg [D.sl 4 l0, I n1, I n2, D.sl 8 l3, D.sl 6 l4, D.sl 5 l5, D.sl 3 l6]] [.agg [D.sl 4 l8, I n9, I n10, D.sl 8 l11, D.sl 6 l12, D.sl 5 l13, D.sl 3 l14]], Ret Tryz.prog 26 [.agg [D.sl 4 l8, I n9, I n10, D.sl 8 l11, D.sl 6 l12, D.sl 5 l13, D.sl 3 l14]] [.one (B b15)], Ret Tryz.prog 16 [.agg [D.sl 4 l0, I n1, I n2, D.sl 8 l3, D.sl 6 l4, D.sl 5 l5, D.sl 3 l6]] [.agg [D.sl 4 l16, I n17, I n18, D.sl 8 l19, D.sl 6 l20, D.sl 5 l21, D.sl 3 l22]], Ret Tryz.prog 27 [.agg [D.sl 4 l16, I n17, I n18, D.sl 8 l19, D.sl 6 l20, D.sl 5 l21, D.sl 3 l22]] [.one (B b23)], (!b23 == b15) = false, Ret Tryz.prog 16 [.agg [D.sl 4 l0, I n1, I n2, D.sl 8 l3, D.sl 6 l4, D.sl 5 l5, D.sl 3 l6]] [.agg [D.sl 4 l24, I n25, I n26, D.sl 8 l27, D.sl 6 l28, D.sl 5 l29, D.sl 3 l30]], Ret Tryz.prog 20 [.agg [D.sl 4 l16, I n17, I n18, D.sl 8 l19, D.sl 6 l20, D.sl 5 l21, D.sl 3 l22], .agg [D.sl 4 l24, I n25, I n26, D.sl 8 l27, D.sl 6 l28, D.sl 5 l29, D.sl 3 l30]] [.one (B b31)], (!b31) = false]) :
  Ret Tryz.prog 5 [.agg [D.sl 4 l0, I n1, I n2, D.sl 8 l3, D.sl 6 l4, D.sl 5 l5, D.sl 3 l6]] [.one (B true)] :=
 .of [.res [.one (I n7)], .br false, .res [.agg [D.sl 4 l8, I n9, I n10, D.sl 8 l11, D.sl 6 l12, D.sl 5 l13, D.sl 3 l14]], .res [.one (B b15)], .res [.agg [D.sl 4 l16, I n17, I n18, D.sl 8 l19, D.sl 6 l20, D.sl 5 l21, D.sl 3 l22]], .res [.one (B b23)], .br false, .res [.agg [D.sl 4 l24, I n25, I n26, D.sl 8 l27, D.sl 6 l28, D.sl 5 l29, D.sl 3 l30]], .res [.one (B b31)], .br false] _ Tryz.func5 rfl (by kernel_rfl) h
end Go.Proofs.YtialmplmfcahpaaGreat
