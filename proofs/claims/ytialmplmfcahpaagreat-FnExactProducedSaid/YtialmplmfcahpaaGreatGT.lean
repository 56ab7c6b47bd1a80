import Derived.Test.YtialmplmfcahpaaGreatRows
import Derived.Test.YtialmplmfcahpaaGreatR22
set_option linter.unusedVariables false
set_option linter.unusedSimpArgs false
namespace Go.Proofs.YtialmplmfcahpaaGreat
open Go.Sx Go.RowKit
theorem qCy (l0 : List (List D)) (n1 n2 : Int) (l3 l4 l5 l6 : List (List D)) (n7 n8 n9 n10 n11 n12 n13 n14 : Int) (b15 : Bool)
  (h : Obs [Ret Tryz.prog 59 [.agg [D.sl 4 l0, I n1, I n2, D.sl 8 l3, D.sl 6 l4, D.sl 5 l5, D.sl 3 l6], .agg [I n7, I n8, I n9]] [.agg [I n10, I n11, I n12, I n13, I n14], .one (B b15)], (!b15) = true]) :
  Ret Tryz.prog 15 [.agg [D.sl 4 l0, I n1, I n2, D.sl 8 l3, D.sl 6 l4, D.sl 5 l5, D.sl 3 l6], .agg [I n7, I n8, I n9]] [.one (.sl 5 [])] :=
 .of [.res [.agg [I n10, I n11, I n12, I n13, I n14], .one (B b15)], .br true] _ Tryz.func15 rfl (by kernel_rfl) h
theorem qCz (l0 : List (List D)) (n1 n2 : Int) (l3 l4 l5 l6 : List (List D)) (n7 n8 n9 n10 n11 n12 n13 n14 : Int) (b15 : Bool)
  (h : Obs [Ret Tryz.prog 59 [.agg [D.sl 4 l0, I n1, I n2, D.sl 8 l3, D.sl 6 l4, D.sl 5 l5, D.sl 3 l6], .agg [I n7, I n8, I n9]] [.agg [I n10, I n11, I n12, I n13, I n14], .one (B b15)], (!b15) = false, (n7 == 2) = true]) :
  Ret Tryz.prog 15 [.agg [D.sl 4 l0, I n1, I n2, D.sl 8 l3, D.sl 6 l4, D.sl 5 l5, D.sl 3 l6], .agg [I n7, I n8, I n9]] [.one (.sl 5 [[I n10, I n11, I n12, I n13, I n14]])] :=
 .of [.res [.agg [I n10, I n11, I n12, I n13, I n14], .one (B b15)], .br false, .br true] _ Tryz.func15 rfl (by kernel_rfl) h
theorem qCA (l0 : List (List D)) (n1 n2 : Int) (l3 l4 l5 l6 : List (List D)) (n7 n8 n9 n10 n11 n12 n13 n14 : Int) (b15 : Bool) (l16 l17 l18 l19 l20 l21 l22 l23 l24 l25 : List (List D)) (b26 : Bool)
  (h : Obs [Ret Tryz.prog 59 [.agg [D.sl 4 l0, I n1, I n2, D.sl 8 l3, D.sl 6 l4, D.sl 5 l5, D.sl 3 l6], .agg [I n7, I n8, I n9]] [.agg [I n10, I n11, I n12, I n13, I n14], .one (B b15)], (!b15) = false, (n7 == 2) = false, 0 ≤ n8, n8 < (↑l3.length : Int), l3[n8.toNat]? = some [D.sl 5 l16, D.sl 5 l17, D.sl 5 l18, D.sl 4 l19, D.sl 1 l20, D.sl 1 l21, D.sl 1 l22, D.sl 2 l23], Ret Tryz.prog 60 [.agg [D.sl 4 l0, I n1, I n2], .one (.sl 4 l19), .agg [I n10, I n11, I n12, I n13, I n14]] [.one (.sl 4 l24), .one (.sl 5 l25), .one (B b26)]]) :
  Ret Tryz.prog 15 [.agg [D.sl 4 l0, I n1, I n2, D.sl 8 l3, D.sl 6 l4, D.sl 5 l5, D.sl 3 l6], .agg [I n7, I n8, I n9]] [.one (.sl 5 l25)] :=
 .of [.res [.agg [I n10, I n11, I n12, I n13, I n14], .one (B b15)], .br false, .br false, .el [D.sl 5 l16, D.sl 5 l17, D.sl 5 l18, D.sl 4 l19, D.sl 1 l20, D.sl 1 l21, D.sl 1 l22, D.sl 2 l23], .res [.one (.sl 4 l24), .one (.sl 5 l25), .one (B b26)]] _ Tryz.func15 rfl (by kernel_rfl) h
theorem qCB (l0 : List (List D)) (n1 n2 : Int) (l3 l4 l5 l6 : List (List D)) (n7 n8 n9 n10 n11 n12 n13 n14 : Int) (b15 : Bool)
  (h : Obs [Ret Tryz.prog 66 [.agg [D.sl 4 l0, I n1, I n2, D.sl 8 l3, D.sl 6 l4, D.sl 5 l5, D.sl 3 l6], .agg [I n7, I n8, I n9]] [.agg [I n10, I n11, I n12, I n13, I n14], .one (B b15)], (!b15) = true]) :
  Ret Tryz.prog 18 [.agg [D.sl 4 l0, I n1, I n2, D.sl 8 l3, D.sl 6 l4, D.sl 5 l5, D.sl 3 l6], .agg [I n7, I n8, I n9]] [.one (.sl 5 [])] :=
 .of [.res [.agg [I n10, I n11, I n12, I n13, I n14], .one (B b15)], .br true] _ Tryz.func18 rfl (by kernel_rfl) h
theorem qCC (l0 : List (List D)) (n1 n2 : Int) (l3 l4 l5 l6 : List (List D)) (n7 n8 n9 n10 n11 n12 n13 n14 : Int) (b15 : Bool)
  (h : Obs [Ret Tryz.prog 66 [.agg [D.sl 4 l0, I n1, I n2, D.sl 8 l3, D.sl 6 l4, D.sl 5 l5, D.sl 3 l6], .agg [I n7, I n8, I n9]] [.agg [I n10, I n11, I n12, I n13, I n14], .one (B b15)], (!b15) = false, (n7 == 2) = true]) :
  Ret Tryz.prog 18 [.agg [D.sl 4 l0, I n1, I n2, D.sl 8 l3, D.sl 6 l4, D.sl 5 l5, D.sl 3 l6], .agg [I n7, I n8, I n9]] [.one (.sl 5 [[I n10, I n11, I n12, I n13, I n14]])] :=
 .of [.res [.agg [I n10, I n11, I n12, I n13, I n14], .one (B b15)], .br false, .br true] _ Tryz.func18 rfl (by kernel_rfl) h
theorem qCD (l0 : List (List D)) (n1 n2 : Int) (l3 l4 l5 l6 : List (List D)) (n7 n8 n9 n10 n11 n12 n13 n14 : Int) (b15 : Bool) (l16 l17 l18 l19 l20 l21 l22 l23 l24 l25 : List (List D)) (b26 : Bool)
  (h : Obs [Ret Tryz.prog 66 [.agg [D.sl 4 l0, I n1, I n2, D.sl 8 l3, D.sl 6 l4, D.sl 5 l5, D.sl 3 l6], .agg [I n7, I n8, I n9]] [.agg [I n10, I n11, I n12, I n13, I n14], .one (B b15)], (!b15) = false, (n7 == 2) = false, 0 ≤ n8, n8 < (↑l3.length : Int), l3[n8.toNat]? = some [D.sl 5 l16, D.sl 5 l17, D.sl 5 l18, D.sl 4 l19, D.sl 1 l20, D.sl 1 l21, D.sl 1 l22, D.sl 2 l23], Ret Tryz.prog 67 [.agg [D.sl 4 l0, I n1, I n2], .one (.sl 4 l19), .agg [I n10, I n11, I n12, I n13, I n14]] [.one (.sl 4 l24), .one (.sl 5 l25), .one (B b26)]]) :
  Ret Tryz.prog 18 [.agg [D.sl 4 l0, I n1, I n2, D.sl 8 l3, D.sl 6 l4, D.sl 5 l5, D.sl 3 l6], .agg [I n7, I n8, I n9]] [.one (.sl 5 l25)] :=
 .of [.res [.agg [I n10, I n11, I n12, I n13, I n14], .one (B b15)], .br false, .br false, .el [D.sl 5 l16, D.sl 5 l17, D.sl 5 l18, D.sl 4 l19, D.sl 1 l20, D.sl 1 l21, D.sl 1 l22, D.sl 2 l23], .res [.one (.sl 4 l24), .one (.sl 5 l25), .one (B b26)]] _ Tryz.func18 rfl (by kernel_rfl) h
end Go.Proofs.YtialmplmfcahpaaGreat
