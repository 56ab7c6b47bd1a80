import Derived.Test.YtialmplmfcahpaaGreatRows
import Derived.Test.YtialmplmfcahpaaGreatR22
set_option linter.unusedVariables false
set_option linter.unusedSimpArgs false
namespace Go.Proofs.YtialmplmfcahpaaGreat
open Go.Sx Go.RowKit
def spec_CreditsOk_L0 (n0 : Int) (l1 : List (List D)) (n2 n3 : Int) (l4 l5 l6 l7 : List (List D)) : St :=
 { env := envOf 45 [(1, .al (.one (.ptr 1 0))), (3, .al (.one (.v (.int .i64 n0))))], boxes := [(1, [.sl .free 4 l1, .v (.int .i64 n2), .v (.int .i64 n3), .sl .free 8 l4, .sl .free 6 l5, .sl .free 5 l6, .sl .free 3 l7])] }
def spec_CreditsOk_X0 (b0 : Bool) : St :=
 { env := envOf 45 [(2, .al (.one (.sb b0)))], boxes := [] }
theorem spec_CreditsOk_L0_x0 (n7 : Int) (l8 : List (List D)) (n9 n10 : Int) (l11 l12 l13 l14 : List (List D)) (n15 : Int) (l16 : List (List D)) (n17 n18 n19 n20 : Int) (b21 : Bool)
  (h : Obs [decide (n7 < (↑l12.length : Int)) = true, 0 ≤ n7, n7 < (↑l12.length : Int), l12[n7.toNat]? = some [I n15, D.sl 5 l16, I n17, I n18, I n19, I n20], Ret Tryz.prog 138 [.one (I n17), .one (I 0), .one (I n15)] [.one (B b21)], (!b21) = true]) :
  Tr Tryz.prog (qaa Tryz.f90 0) (spec_CreditsOk_L0 n7 l8 n9 n10 l11 l12 l13 l14) .ret (spec_CreditsOk_X0 false) :=
 .of_loopc (ks := [2]) (bs := []) (ans := [.br true, .el [I n15, D.sl 5 l16, I n17, I n18, I n19, I n20], .res [.one (B b21)], .br true]) (by kernel_rfl) h
theorem spec_CreditsOk_L0_x1 (n7 : Int) (l8 : List (List D)) (n9 n10 : Int) (l11 l12 l13 l14 : List (List D)) (n15 : Int) (l16 : List (List D)) (n17 n18 n19 n20 : Int) (b21 b22 : Bool)
  (h : Obs [decide (n7 < (↑l12.length : Int)) = true, 0 ≤ n7, n7 < (↑l12.length : Int), l12[n7.toNat]? = some [I n15, D.sl 5 l16, I n17, I n18, I n19, I n20], Ret Tryz.prog 138 [.one (I n17), .one (I 0), .one (I n15)] [.one (B b21)], (!b21) = false, Ret Tryz.prog 138 [.one (I n18), .one (I 0), .one (I n15)] [.one (B b22)], (!b22) = true]) :
  Tr Tryz.prog (qaa Tryz.f90 0) (spec_CreditsOk_L0 n7 l8 n9 n10 l11 l12 l13 l14) .ret (spec_CreditsOk_X0 false) :=
 .of_loopc (ks := [2]) (bs := []) (ans := [.br true, .el [I n15, D.sl 5 l16, I n17, I n18, I n19, I n20], .res [.one (B b21)], .br false, .res [.one (B b22)], .br true]) (by kernel_rfl) h
theorem spec_CreditsOk_L0_x2 (n7 : Int) (l8 : List (List D)) (n9 n10 : Int) (l11 l12 l13 l14 : List (List D)) (n15 : Int) (l16 : List (List D)) (n17 n18 n19 n20 : Int) (b21 b22 : Bool)
  (h : Obs [decide (n7 < (↑l12.length : Int)) = true, 0 ≤ n7, n7 < (↑l12.length : Int), l12[n7.toNat]? = some [I n15, D.sl 5 l16, I n17, I n18, I n19, I n20], Ret Tryz.prog 138 [.one (I n17), .one (I 0), .one (I n15)] [.one (B b21)], (!b21) = false, Ret Tryz.prog 138 [.one (I n18), .one (I 0), .one (I n15)] [.one (B b22)], (!b22) = false, (IntKind.i64.wrap (IntKind.i64.wrap (n17 + n18) + (↑l16.length : Int)) != n15) = true]) :
  Tr Tryz.prog (qaa Tryz.f90 0) (spec_CreditsOk_L0 n7 l8 n9 n10 l11 l12 l13 l14) .ret (spec_CreditsOk_X0 false) :=
 .of_loopc (ks := [2]) (bs := []) (ans := [.br true, .el [I n15, D.sl 5 l16, I n17, I n18, I n19, I n20], .res [.one (B b21)], .br false, .res [.one (B b22)], .br false, .wr, .wr, .br true]) (by kernel_rfl) h
theorem spec_CreditsOk_L0_s3 (n7 : Int) (l8 : List (List D)) (n9 n10 : Int) (l11 l12 l13 l14 : List (List D)) (n15 : Int) (l16 : List (List D)) (n17 n18 n19 n20 : Int) (b21 b22 : Bool)
  (h : Obs [decide (n7 < (↑l12.length : Int)) = true, 0 ≤ n7, n7 < (↑l12.length : Int), l12[n7.toNat]? = some [I n15, D.sl 5 l16, I n17, I n18, I n19, I n20], Ret Tryz.prog 138 [.one (I n17), .one (I 0), .one (I n15)] [.one (B b21)], (!b21) = false, Ret Tryz.prog 138 [.one (I n18), .one (I 0), .one (I n15)] [.one (B b22)], (!b22) = false, (IntKind.i64.wrap (IntKind.i64.wrap (n17 + n18) + (↑l16.length : Int)) != n15) = false, inInt .i64 (n7 + 1)]) :
  Tr Tryz.prog (qaa Tryz.f90 0) (spec_CreditsOk_L0 n7 l8 n9 n10 l11 l12 l13 l14) .normal (spec_CreditsOk_L0 (n7 + 1) l8 n9 n10 l11 l12 l13 l14) :=
 .of_loopc (ks := [3, 1]) (bs := [1]) (ans := [.br true, .el [I n15, D.sl 5 l16, I n17, I n18, I n19, I n20], .res [.one (B b21)], .br false, .res [.one (B b22)], .br false, .wr, .wr, .br false]) (by kernel_rfl) h
def spec_CreditsOk_X0v2 : St :=
 { env := envOf 45 [], boxes := [] }
theorem spec_CreditsOk_L0_x4 (n7 : Int) (l8 : List (List D)) (n9 n10 : Int) (l11 l12 l13 l14 : List (List D))
  (h : Obs [decide (n7 < (↑l12.length : Int)) = false]) :
  Tr Tryz.prog (qaa Tryz.f90 0) (spec_CreditsOk_L0 n7 l8 n9 n10 l11 l12 l13 l14) (.exit 0) spec_CreditsOk_X0v2 :=
 .of_loopc (ks := []) (bs := []) (ans := [.br false]) (by kernel_rfl) h
theorem spec_CreditsOk_p0 (l0 : List (List D)) (n1 n2 : Int) (l3 l4 l5 l6 : List (List D)) (b7 : Bool)
  (h : Obs [qac Tryz.prog (qaa Tryz.f90 0) (spec_CreditsOk_L0 0 l0 n1 n2 l3 l4 l5 l6) .ret (spec_CreditsOk_X0 b7)]) :
  Ret Tryz.prog 90 [.agg [D.sl 4 l0, I n1, I n2, D.sl 8 l3, D.sl 6 l4, D.sl 5 l5, D.sl 3 l6]] [.one (B b7)] :=
 .of [.loop [] [3, 1] [1] .ret (spec_CreditsOk_X0 b7)] _ Tryz.func90 rfl (by kernel_rfl) h
theorem spec_CreditsOk_p1 (l0 : List (List D)) (n1 n2 : Int) (l3 l4 l5 l6 : List (List D))
  (h : Obs [qac Tryz.prog (qaa Tryz.f90 0) (spec_CreditsOk_L0 0 l0 n1 n2 l3 l4 l5 l6) (.exit 0) spec_CreditsOk_X0v2]) :
  Ret Tryz.prog 90 [.agg [D.sl 4 l0, I n1, I n2, D.sl 8 l3, D.sl 6 l4, D.sl 5 l5, D.sl 3 l6]] [.one (B true)] :=
 .of [.loop [] [3, 1] [1] (.exit 0) spec_CreditsOk_X0v2] _ Tryz.func90 rfl (by kernel_rfl) h
def impl_CreditsOk_L0 (l0 : List (List D)) (n1 : Int) : St :=
 { env := envOf 51 [(6, .al (.one (.sl .free 6 l0))), (7, .al (.one (.v (.int .i64 (↑l0.length : Int))))), (8, .al (.one (.v (.int .i64 n1))))], boxes := [] }
def impl_CreditsOk_X0 (b0 : Bool) : St :=
 { env := envOf 51 [(2, .al (.one (.sb b0)))], boxes := [] }
theorem impl_CreditsOk_L0_x0 (l4 : List (List D)) (n7 n8 : Int) (l9 : List (List D)) (n10 n11 n12 n13 : Int) (b14 : Bool)
  (h : Obs [decide (n7 < (↑l4.length : Int)) = true, 0 ≤ n7, n7 < (↑l4.length : Int), l4[n7.toNat]? = some [I n8, D.sl 5 l9, I n10, I n11, I n12, I n13], Ret Tryz.prog 119 [.one (I n10), .one (I 0), .one (I n8)] [.one (B b14)], (!b14) = true]) :
  Tr Tryz.prog (qaa Tryz.f95 0) (impl_CreditsOk_L0 l4 n7) .ret (impl_CreditsOk_X0 false) :=
 .of_loopc (ks := [2]) (bs := []) (ans := [.br true, .el [I n8, D.sl 5 l9, I n10, I n11, I n12, I n13], .res [.one (B b14)], .br true]) (by kernel_rfl) h
theorem impl_CreditsOk_L0_x1 (l4 : List (List D)) (n7 n8 : Int) (l9 : List (List D)) (n10 n11 n12 n13 : Int) (b14 b15 : Bool)
  (h : Obs [decide (n7 < (↑l4.length : Int)) = true, 0 ≤ n7, n7 < (↑l4.length : Int), l4[n7.toNat]? = some [I n8, D.sl 5 l9, I n10, I n11, I n12, I n13], Ret Tryz.prog 119 [.one (I n10), .one (I 0), .one (I n8)] [.one (B b14)], (!b14) = false, Ret Tryz.prog 119 [.one (I n11), .one (I 0), .one (I n8)] [.one (B b15)], (!b15) = true]) :
  Tr Tryz.prog (qaa Tryz.f95 0) (impl_CreditsOk_L0 l4 n7) .ret (impl_CreditsOk_X0 false) :=
 .of_loopc (ks := [2]) (bs := []) (ans := [.br true, .el [I n8, D.sl 5 l9, I n10, I n11, I n12, I n13], .res [.one (B b14)], .br false, .res [.one (B b15)], .br true]) (by kernel_rfl) h
theorem impl_CreditsOk_L0_x2 (l4 : List (List D)) (n7 n8 : Int) (l9 : List (List D)) (n10 n11 n12 n13 : Int) (b14 b15 : Bool)
  (h : Obs [decide (n7 < (↑l4.length : Int)) = true, 0 ≤ n7, n7 < (↑l4.length : Int), l4[n7.toNat]? = some [I n8, D.sl 5 l9, I n10, I n11, I n12, I n13], Ret Tryz.prog 119 [.one (I n10), .one (I 0), .one (I n8)] [.one (B b14)], (!b14) = false, Ret Tryz.prog 119 [.one (I n11), .one (I 0), .one (I n8)] [.one (B b15)], (!b15) = false, inInt .i64 (n8 - n11), decide (n10 > n8 - n11) = true]) :
  Tr Tryz.prog (qaa Tryz.f95 0) (impl_CreditsOk_L0 l4 n7) .ret (impl_CreditsOk_X0 false) :=
 .of_loopc (ks := [2]) (bs := []) (ans := [.br true, .el [I n8, D.sl 5 l9, I n10, I n11, I n12, I n13], .res [.one (B b14)], .br false, .res [.one (B b15)], .br false, .br true]) (by kernel_rfl) h
theorem impl_CreditsOk_L0_x3 (l4 : List (List D)) (n7 n8 : Int) (l9 : List (List D)) (n10 n11 n12 n13 : Int) (b14 b15 : Bool)
  (h : Obs [decide (n7 < (↑l4.length : Int)) = true, 0 ≤ n7, n7 < (↑l4.length : Int), l4[n7.toNat]? = some [I n8, D.sl 5 l9, I n10, I n11, I n12, I n13], Ret Tryz.prog 119 [.one (I n10), .one (I 0), .one (I n8)] [.one (B b14)], (!b14) = false, Ret Tryz.prog 119 [.one (I n11), .one (I 0), .one (I n8)] [.one (B b15)], (!b15) = false, inInt .i64 (n8 - n11), decide (n10 > n8 - n11) = false, inInt .i64 (n8 - n11), inInt .i64 (n8 - n11 - n10), (n8 - n11 - n10 != (↑l9.length : Int)) = true]) :
  Tr Tryz.prog (qaa Tryz.f95 0) (impl_CreditsOk_L0 l4 n7) .ret (impl_CreditsOk_X0 false) :=
 .of_loopc (ks := [2]) (bs := []) (ans := [.br true, .el [I n8, D.sl 5 l9, I n10, I n11, I n12, I n13], .res [.one (B b14)], .br false, .res [.one (B b15)], .br false, .br false, .br true]) (by kernel_rfl) h
theorem impl_CreditsOk_L0_s4 (l4 : List (List D)) (n7 n8 : Int) (l9 : List (List D)) (n10 n11 n12 n13 : Int) (b14 b15 : Bool)
  (h : Obs [decide (n7 < (↑l4.length : Int)) = true, 0 ≤ n7, n7 < (↑l4.length : Int), l4[n7.toNat]? = some [I n8, D.sl 5 l9, I n10, I n11, I n12, I n13], Ret Tryz.prog 119 [.one (I n10), .one (I 0), .one (I n8)] [.one (B b14)], (!b14) = false, Ret Tryz.prog 119 [.one (I n11), .one (I 0), .one (I n8)] [.one (B b15)], (!b15) = false, inInt .i64 (n8 - n11), decide (n10 > n8 - n11) = false, inInt .i64 (n8 - n11), inInt .i64 (n8 - n11 - n10), (n8 - n11 - n10 != (↑l9.length : Int)) = false, inInt .i64 (n7 + 1)]) :
  Tr Tryz.prog (qaa Tryz.f95 0) (impl_CreditsOk_L0 l4 n7) .normal (impl_CreditsOk_L0 l4 (n7 + 1)) :=
 .of_loopc (ks := [8, 7, 6]) (bs := []) (ans := [.br true, .el [I n8, D.sl 5 l9, I n10, I n11, I n12, I n13], .res [.one (B b14)], .br false, .res [.one (B b15)], .br false, .br false, .br false]) (by kernel_rfl) h
def impl_CreditsOk_X0v2 : St :=
 { env := envOf 51 [], boxes := [] }
theorem impl_CreditsOk_L0_x5 (l4 : List (List D)) (n7 : Int)
  (h : Obs [decide (n7 < (↑l4.length : Int)) = false]) :
  Tr Tryz.prog (qaa Tryz.f95 0) (impl_CreditsOk_L0 l4 n7) (.exit 0) impl_CreditsOk_X0v2 :=
 .of_loopc (ks := []) (bs := []) (ans := [.br false]) (by kernel_rfl) h
theorem impl_CreditsOk_p0 (l0 : List (List D)) (n1 n2 : Int) (l3 l4 l5 l6 : List (List D)) (b7 : Bool)
  (h : Obs [qac Tryz.prog (qaa Tryz.f95 0) (impl_CreditsOk_L0 l4 0) .ret (impl_CreditsOk_X0 b7)]) :
  Ret Tryz.prog 95 [.agg [D.sl 4 l0, I n1, I n2, D.sl 8 l3, D.sl 6 l4, D.sl 5 l5, D.sl 3 l6]] [.one (B b7)] :=
 .of [.loop [] [8, 7, 6] [] .ret (impl_CreditsOk_X0 b7)] _ Tryz.func95 rfl (by kernel_rfl) h
theorem impl_CreditsOk_p1 (l0 : List (List D)) (n1 n2 : Int) (l3 l4 l5 l6 : List (List D))
  (h : Obs [qac Tryz.prog (qaa Tryz.f95 0) (impl_CreditsOk_L0 l4 0) (.exit 0) impl_CreditsOk_X0v2]) :
  Ret Tryz.prog 95 [.agg [D.sl 4 l0, I n1, I n2, D.sl 8 l3, D.sl 6 l4, D.sl 5 l5, D.sl 3 l6]] [.one (B true)] :=
 .of [.loop [] [8, 7, 6] [] (.exit 0) impl_CreditsOk_X0v2] _ Tryz.func95 rfl (by kernel_rfl) h
theorem spec_InFlight_p0 (n0 : Int) (l1 : List (List D)) (n2 n3 n4 n5 n6 : Int) (l7 : List (List D))
  (h : Obs [Ret Tryz.prog 266 [.one (.sl 5 l1), .one (I n6)] [.one (.sl 5 l7)]]) :
  Ret Tryz.prog 180 [.agg [I n0, D.sl 5 l1, I n2, I n3, I n4, I n5], .one (I n6)] [.one (I (↑l7.length : Int))] :=
 .of [.res [.one (.sl 5 l7)]] _ Tryz.func180 rfl (by kernel_rfl) h
theorem impl_InFlight_p0 (n0 : Int) (l1 : List (List D)) (n2 n3 n4 n5 n6 : Int) (l7 : List (List D))
  (h : Obs [Ret Tryz.prog 272 [.one (.sl 5 l1), .one (I n6)] [.one (.sl 5 l7)]]) :
  Ret Tryz.prog 192 [.agg [I n0, D.sl 5 l1, I n2, I n3, I n4, I n5], .one (I n6)] [.one (I (↑l7.length : Int))] :=
 .of [.res [.one (.sl 5 l7)]] _ Tryz.func192 rfl (by kernel_rfl) h
def spec_DeficitOf_L0 (l0 : List (List D)) (n1 n2 : Int) (l3 l4 l5 l6 : List (List D)) (n7 n8 n9 : Int) : St :=
 { env := envOf 36 [(1, .al (.one (.v (.int .i64 n7)))), (2, .al (.one (.ptr 2 0))), (5, .al (.one (.v (.int .i64 n9)))), (6, .al (.one (.v (.int .i64 n8))))], boxes := [(2, [.sl .free 4 l0, .v (.int .i64 n1), .v (.int .i64 n2), .sl .free 8 l3, .sl .free 6 l4, .sl .free 5 l5, .sl .free 3 l6])] }
theorem spec_DeficitOf_L0_s0 (l0 : List (List D)) (n1 n2 : Int) (l3 l4 l5 l6 : List (List D)) (n7 n8 n9 : Int) (l10 l11 l12 l13 l14 l15 l16 l17 : List (List D)) (b18 : Bool) (l19 l20 l21 l22 l23 l24 l25 l26 : List (List D)) (n27 : Int)
  (h : Obs [decide (n8 < (↑l3.length : Int)) = true, 0 ≤ n8, n8 < (↑l3.length : Int), l3[n8.toNat]? = some [D.sl 5 l10, D.sl 5 l11, D.sl 5 l12, D.sl 4 l13, D.sl 1 l14, D.sl 1 l15, D.sl 1 l16, D.sl 2 l17], Ret Tryz.prog 138 [.one (I n7), .one (I 0), .one (I (IntKind.i64.wrap ((↑l14.length : Int) - 1)))] [.one (B b18)], b18 = true, 0 ≤ n8, n8 < (↑l3.length : Int), l3[n8.toNat]? = some [D.sl 5 l19, D.sl 5 l20, D.sl 5 l21, D.sl 4 l22, D.sl 1 l23, D.sl 1 l24, D.sl 1 l25, D.sl 2 l26], 0 ≤ n7, n7 < (↑l23.length : Int), l23[n7.toNat]? = some [I n27], inInt .i64 (n8 + 1)]) :
  Tr Tryz.prog (qaa Tryz.f181 0) (spec_DeficitOf_L0 l0 n1 n2 l3 l4 l5 l6 n7 n8 n9) .normal (spec_DeficitOf_L0 l0 n1 n2 l3 l4 l5 l6 n7 (n8 + 1) (IntKind.i64.wrap (n9 + n27))) :=
 .of_loopc (ks := [6, 2, 1, 5]) (bs := [2]) (ans := [.br true, .el [D.sl 5 l10, D.sl 5 l11, D.sl 5 l12, D.sl 4 l13, D.sl 1 l14, D.sl 1 l15, D.sl 1 l16, D.sl 2 l17], .wr, .res [.one (B b18)], .br true, .el [D.sl 5 l19, D.sl 5 l20, D.sl 5 l21, D.sl 4 l22, D.sl 1 l23, D.sl 1 l24, D.sl 1 l25, D.sl 2 l26], .el [I n27], .wr]) (by kernel_rfl) h
theorem spec_DeficitOf_L0_s1 (l0 : List (List D)) (n1 n2 : Int) (l3 l4 l5 l6 : List (List D)) (n7 n8 n9 : Int) (l10 l11 l12 l13 l14 l15 l16 l17 : List (List D)) (b18 : Bool)
  (h : Obs [decide (n8 < (↑l3.length : Int)) = true, 0 ≤ n8, n8 < (↑l3.length : Int), l3[n8.toNat]? = some [D.sl 5 l10, D.sl 5 l11, D.sl 5 l12, D.sl 4 l13, D.sl 1 l14, D.sl 1 l15, D.sl 1 l16, D.sl 2 l17], Ret Tryz.prog 138 [.one (I n7), .one (I 0), .one (I (IntKind.i64.wrap ((↑l14.length : Int) - 1)))] [.one (B b18)], b18 = false, inInt .i64 (n8 + 1)]) :
  Tr Tryz.prog (qaa Tryz.f181 0) (spec_DeficitOf_L0 l0 n1 n2 l3 l4 l5 l6 n7 n8 n9) .normal (spec_DeficitOf_L0 l0 n1 n2 l3 l4 l5 l6 n7 (n8 + 1) n9) :=
 .of_loopc (ks := [6, 2, 1, 5]) (bs := [2]) (ans := [.br true, .el [D.sl 5 l10, D.sl 5 l11, D.sl 5 l12, D.sl 4 l13, D.sl 1 l14, D.sl 1 l15, D.sl 1 l16, D.sl 2 l17], .wr, .res [.one (B b18)], .br false]) (by kernel_rfl) h
def spec_DeficitOf_X0 (n0 : Int) : St :=
 { env := envOf 36 [(5, .al (.one (.v (.int .i64 n0))))], boxes := [] }
theorem spec_DeficitOf_L0_x2 (l0 : List (List D)) (n1 n2 : Int) (l3 l4 l5 l6 : List (List D)) (n7 n8 n9 : Int)
  (h : Obs [decide (n8 < (↑l3.length : Int)) = false]) :
  Tr Tryz.prog (qaa Tryz.f181 0) (spec_DeficitOf_L0 l0 n1 n2 l3 l4 l5 l6 n7 n8 n9) (.exit 0) (spec_DeficitOf_X0 n9) :=
 .of_loopc (ks := [5]) (bs := []) (ans := [.br false]) (by kernel_rfl) h
theorem spec_DeficitOf_p0 (l0 : List (List D)) (n1 n2 : Int) (l3 l4 l5 l6 : List (List D)) (n7 n8 : Int)
  (h : Obs [qac Tryz.prog (qaa Tryz.f181 0) (spec_DeficitOf_L0 l0 n1 n2 l3 l4 l5 l6 n7 0 0) (.exit 0) (spec_DeficitOf_X0 n8)]) :
  Ret Tryz.prog 181 [.agg [D.sl 4 l0, I n1, I n2, D.sl 8 l3, D.sl 6 l4, D.sl 5 l5, D.sl 3 l6], .one (I n7)] [.one (I n8)] :=
 .of [.loop [] [6, 2, 1, 5] [2] (.exit 0) (spec_DeficitOf_X0 n8)] _ Tryz.func181 rfl (by kernel_rfl) h
def impl_DeficitOf_L0 (l0 : List (List D)) (n1 n2 n3 : Int) : St :=
 { env := envOf 30 [(1, .al (.one (.v (.int .i64 n1)))), (5, .al (.one (.v (.int .i64 n3)))), (9, .al (.one (.sl .free 8 l0))), (10, .al (.one (.v (.int .i64 (↑l0.length : Int))))), (11, .al (.one (.v (.int .i64 n2))))], boxes := [] }
theorem impl_DeficitOf_L0_s0 (l3 : List (List D)) (n7 n8 n9 : Int) (l10 l11 l12 l13 l14 l15 l16 l17 : List (List D)) (b18 : Bool) (n19 : Int)
  (h : Obs [decide (n8 < (↑l3.length : Int)) = true, 0 ≤ n8, n8 < (↑l3.length : Int), l3[n8.toNat]? = some [D.sl 5 l10, D.sl 5 l11, D.sl 5 l12, D.sl 4 l13, D.sl 1 l14, D.sl 1 l15, D.sl 1 l16, D.sl 2 l17], Ret Tryz.prog 119 [.one (I n7), .one (I 0), .one (I (IntKind.i64.wrap ((↑l14.length : Int) - 1)))] [.one (B b18)], b18 = true, 0 ≤ n7, n7 < (↑l14.length : Int), l14[n7.toNat]? = some [I n19], inInt .i64 (n8 + 1)]) :
  Tr Tryz.prog (qaa Tryz.f193 0) (impl_DeficitOf_L0 l3 n7 n8 n9) .normal (impl_DeficitOf_L0 l3 n7 (n8 + 1) (IntKind.i64.wrap (n9 + n19))) :=
 .of_loopc (ks := [11, 10, 9, 1, 5]) (bs := []) (ans := [.br true, .el [D.sl 5 l10, D.sl 5 l11, D.sl 5 l12, D.sl 4 l13, D.sl 1 l14, D.sl 1 l15, D.sl 1 l16, D.sl 2 l17], .wr, .res [.one (B b18)], .br true, .el [I n19], .wr]) (by kernel_rfl) h
theorem impl_DeficitOf_L0_s1 (l3 : List (List D)) (n7 n8 n9 : Int) (l10 l11 l12 l13 l14 l15 l16 l17 : List (List D)) (b18 : Bool)
  (h : Obs [decide (n8 < (↑l3.length : Int)) = true, 0 ≤ n8, n8 < (↑l3.length : Int), l3[n8.toNat]? = some [D.sl 5 l10, D.sl 5 l11, D.sl 5 l12, D.sl 4 l13, D.sl 1 l14, D.sl 1 l15, D.sl 1 l16, D.sl 2 l17], Ret Tryz.prog 119 [.one (I n7), .one (I 0), .one (I (IntKind.i64.wrap ((↑l14.length : Int) - 1)))] [.one (B b18)], b18 = false, inInt .i64 (n8 + 1)]) :
  Tr Tryz.prog (qaa Tryz.f193 0) (impl_DeficitOf_L0 l3 n7 n8 n9) .normal (impl_DeficitOf_L0 l3 n7 (n8 + 1) n9) :=
 .of_loopc (ks := [11, 10, 9, 1, 5]) (bs := []) (ans := [.br true, .el [D.sl 5 l10, D.sl 5 l11, D.sl 5 l12, D.sl 4 l13, D.sl 1 l14, D.sl 1 l15, D.sl 1 l16, D.sl 2 l17], .wr, .res [.one (B b18)], .br false]) (by kernel_rfl) h
def impl_DeficitOf_X0 (n0 : Int) : St :=
 { env := envOf 30 [(5, .al (.one (.v (.int .i64 n0))))], boxes := [] }
theorem impl_DeficitOf_L0_x2 (l3 : List (List D)) (n7 n8 n9 : Int)
  (h : Obs [decide (n8 < (↑l3.length : Int)) = false]) :
  Tr Tryz.prog (qaa Tryz.f193 0) (impl_DeficitOf_L0 l3 n7 n8 n9) (.exit 0) (impl_DeficitOf_X0 n9) :=
 .of_loopc (ks := [5]) (bs := []) (ans := [.br false]) (by kernel_rfl) h
theorem impl_DeficitOf_p0 (l0 : List (List D)) (n1 n2 : Int) (l3 l4 l5 l6 : List (List D)) (n7 n8 : Int)
  (h : Obs [qac Tryz.prog (qaa Tryz.f193 0) (impl_DeficitOf_L0 l3 n7 0 0) (.exit 0) (impl_DeficitOf_X0 n8)]) :
  Ret Tryz.prog 193 [.agg [D.sl 4 l0, I n1, I n2, D.sl 8 l3, D.sl 6 l4, D.sl 5 l5, D.sl 3 l6], .one (I n7)] [.one (I n8)] :=
 .of [.loop [] [11, 10, 9, 1, 5] [] (.exit 0) (impl_DeficitOf_X0 n8)] _ Tryz.func193 rfl (by kernel_rfl) h
def spec_SumsOk_L0 (l0 : List (List D)) (n1 n2 : Int) (l3 l4 l5 l6 : List (List D)) (n7 n8 n9 : Int) : St :=
 { env := envOf 28 [(1, .al (.one (.v (.int .i64 n7)))), (2, .al (.one (.ptr 2 0))), (5, .al (.one (.v (.int .i64 n9)))), (6, .al (.one (.v (.int .i64 n8))))], boxes := [(2, [.sl .free 4 l0, .v (.int .i64 n1), .v (.int .i64 n2), .sl .free 8 l3, .sl .free 6 l4, .sl .free 5 l5, .sl .free 3 l6])] }
theorem spec_SumsOk_L0_s0 (l0 : List (List D)) (n1 n2 : Int) (l3 l4 l5 l6 : List (List D)) (n7 n8 n9 n10 : Int) (l11 : List (List D)) (n12 n13 n14 n15 n16 : Int)
  (h : Obs [decide (n8 < (↑l4.length : Int)) = true, 0 ≤ n8, n8 < (↑l4.length : Int), l4[n8.toNat]? = some [I n10, D.sl 5 l11, I n12, I n13, I n14, I n15], Ret Tryz.prog 180 [.agg [I n10, D.sl 5 l11, I n12, I n13, I n14, I n15], .one (I n7)] [.one (I n16)], inInt .i64 (n9 + n16), inInt .i64 (n8 + 1)]) :
  Tr Tryz.prog (qaa Tryz.f93 0) (spec_SumsOk_L0 l0 n1 n2 l3 l4 l5 l6 n7 n8 n9) .normal (spec_SumsOk_L0 l0 n1 n2 l3 l4 l5 l6 n7 (n8 + 1) (n9 + n16)) :=
 .of_loopc (ks := [6, 2, 5, 1]) (bs := [2]) (ans := [.br true, .el [I n10, D.sl 5 l11, I n12, I n13, I n14, I n15], .res [.one (I n16)]]) (by kernel_rfl) h
def spec_SumsOk_X0 (l0 : List (List D)) (n1 n2 : Int) (l3 l4 l5 l6 : List (List D)) (n7 n8 : Int) : St :=
 { env := envOf 28 [(1, .al (.one (.v (.int .i64 n7)))), (2, .al (.one (.ptr 2 0))), (5, .al (.one (.v (.int .i64 n8))))], boxes := [(2, [.sl .free 4 l0, .v (.int .i64 n1), .v (.int .i64 n2), .sl .free 8 l3, .sl .free 6 l4, .sl .free 5 l5, .sl .free 3 l6])] }
theorem spec_SumsOk_L0_x1 (l0 : List (List D)) (n1 n2 : Int) (l3 l4 l5 l6 : List (List D)) (n7 n8 n9 : Int)
  (h : Obs [decide (n8 < (↑l4.length : Int)) = false]) :
  Tr Tryz.prog (qaa Tryz.f93 0) (spec_SumsOk_L0 l0 n1 n2 l3 l4 l5 l6 n7 n8 n9) (.exit 0) (spec_SumsOk_X0 l0 n1 n2 l3 l4 l5 l6 n7 n9) :=
 .of_loopc (ks := [2, 1, 5]) (bs := [2]) (ans := [.br false]) (by kernel_rfl) h
theorem spec_SumsOk_p0 (l0 : List (List D)) (n1 n2 : Int) (l3 l4 l5 l6 : List (List D)) (n7 n8 n9 : Int)
  (h : Obs [qac Tryz.prog (qaa Tryz.f93 0) (spec_SumsOk_L0 l0 n1 n2 l3 l4 l5 l6 n7 0 0) (.exit 0) (spec_SumsOk_X0 l0 n1 n2 l3 l4 l5 l6 n7 n8), Ret Tryz.prog 181 [.agg [D.sl 4 l0, I n1, I n2, D.sl 8 l3, D.sl 6 l4, D.sl 5 l5, D.sl 3 l6], .one (I n7)] [.one (I n9)]]) :
  Ret Tryz.prog 93 [.agg [D.sl 4 l0, I n1, I n2, D.sl 8 l3, D.sl 6 l4, D.sl 5 l5, D.sl 3 l6], .one (I n7)] [.one (B (n9 == n8))] :=
 .of [.loop [] [6, 2, 5, 1] [2] (.exit 0) (spec_SumsOk_X0 l0 n1 n2 l3 l4 l5 l6 n7 n8), .res [.one (I n9)]] _ Tryz.func93 rfl (by kernel_rfl) h
def impl_SumsOk_L0 (l0 : List (List D)) (n1 n2 n3 : Int) (l4 : List (List D)) (n5 n6 : Int) (l7 l8 l9 l10 : List (List D)) : St :=
 { env := envOf 26 [(1, .al (.one (.v (.int .i64 n1)))), (2, .al (.one (.ptr 2 0))), (5, .al (.one (.v (.int .i64 n3)))), (9, .al (.one (.sl .free 6 l0))), (10, .al (.one (.v (.int .i64 (↑l0.length : Int))))), (11, .al (.one (.v (.int .i64 n2))))], boxes := [(2, [.sl .free 4 l4, .v (.int .i64 n5), .v (.int .i64 n6), .sl .free 8 l7, .sl .free 6 l8, .sl .free 5 l9, .sl .free 3 l10])] }
theorem impl_SumsOk_L0_s0 (l4 : List (List D)) (n7 n8 n9 : Int) (l10 : List (List D)) (n11 n12 : Int) (l13 l14 l15 l16 : List (List D)) (n17 : Int) (l18 : List (List D)) (n19 n20 n21 n22 n23 : Int)
  (h : Obs [decide (n8 < (↑l4.length : Int)) = true, 0 ≤ n8, n8 < (↑l4.length : Int), l4[n8.toNat]? = some [I n17, D.sl 5 l18, I n19, I n20, I n21, I n22], Ret Tryz.prog 192 [.agg [I n17, D.sl 5 l18, I n19, I n20, I n21, I n22], .one (I n7)] [.one (I n23)], inInt .i64 (n9 + n23), inInt .i64 (n8 + 1)]) :
  Tr Tryz.prog (qaa Tryz.f98 0) (impl_SumsOk_L0 l4 n7 n8 n9 l10 n11 n12 l13 l14 l15 l16) .normal (impl_SumsOk_L0 l4 n7 (n8 + 1) (n9 + n23) l10 n11 n12 l13 l14 l15 l16) :=
 .of_loopc (ks := [11, 10, 9, 5, 1, 2]) (bs := [2]) (ans := [.br true, .el [I n17, D.sl 5 l18, I n19, I n20, I n21, I n22], .res [.one (I n23)]]) (by kernel_rfl) h
def impl_SumsOk_X0 (n0 n1 : Int) (l2 : List (List D)) (n3 n4 : Int) (l5 l6 l7 l8 : List (List D)) : St :=
 { env := envOf 26 [(1, .al (.one (.v (.int .i64 n0)))), (2, .al (.one (.ptr 2 0))), (5, .al (.one (.v (.int .i64 n1))))], boxes := [(2, [.sl .free 4 l2, .v (.int .i64 n3), .v (.int .i64 n4), .sl .free 8 l5, .sl .free 6 l6, .sl .free 5 l7, .sl .free 3 l8])] }
theorem impl_SumsOk_L0_x1 (l4 : List (List D)) (n7 n8 n9 : Int) (l10 : List (List D)) (n11 n12 : Int) (l13 l14 l15 l16 : List (List D))
  (h : Obs [decide (n8 < (↑l4.length : Int)) = false]) :
  Tr Tryz.prog (qaa Tryz.f98 0) (impl_SumsOk_L0 l4 n7 n8 n9 l10 n11 n12 l13 l14 l15 l16) (.exit 0) (impl_SumsOk_X0 n7 n9 l10 n11 n12 l13 l14 l15 l16) :=
 .of_loopc (ks := [2, 1, 5]) (bs := [2]) (ans := [.br false]) (by kernel_rfl) h
theorem impl_SumsOk_p0 (l0 : List (List D)) (n1 n2 : Int) (l3 l4 l5 l6 : List (List D)) (n7 n8 : Int) (l9 : List (List D)) (n10 n11 : Int) (l12 l13 l14 l15 : List (List D)) (n16 : Int)
  (h : Obs [qac Tryz.prog (qaa Tryz.f98 0) (impl_SumsOk_L0 l4 n7 0 0 l0 n1 n2 l3 l4 l5 l6) (.exit 0) (impl_SumsOk_X0 n7 n8 l9 n10 n11 l12 l13 l14 l15), Ret Tryz.prog 193 [.agg [D.sl 4 l9, I n10, I n11, D.sl 8 l12, D.sl 6 l13, D.sl 5 l14, D.sl 3 l15], .one (I n7)] [.one (I n16)]]) :
  Ret Tryz.prog 98 [.agg [D.sl 4 l0, I n1, I n2, D.sl 8 l3, D.sl 6 l4, D.sl 5 l5, D.sl 3 l6], .one (I n7)] [.one (B (n16 == n8))] :=
 .of [.loop [] [11, 10, 9, 5, 1, 2] [2] (.exit 0) (impl_SumsOk_X0 n7 n8 l9 n10 n11 l12 l13 l14 l15), .res [.one (I n16)]] _ Tryz.func98 rfl (by kernel_rfl) h
theorem spec_OwnerOf_p0 (n0 n1 : Int)
  (h : Obs [decide (n1 < 1) = true]) :
  Ret Tryz.prog 265 [.one (I n0), .one (I n1)] [.one (I 0)] :=
 .of [.br true] _ Tryz.func265 rfl (by kernel_rfl) h
theorem spec_OwnerOf_p1 (n0 n1 : Int)
  (h : Obs [decide (n1 < 1) = false, n1 ≠ 0, decide (n0.tmod n1 < 0) = true, inInt .i64 (n0.tmod n1 + n1)]) :
  Ret Tryz.prog 265 [.one (I n0), .one (I n1)] [.one (I (n0.tmod n1 + n1))] :=
 .of [.br false, .br true] _ Tryz.func265 rfl (by kernel_rfl) h
theorem spec_OwnerOf_p2 (n0 n1 : Int)
  (h : Obs [decide (n1 < 1) = false, n1 ≠ 0, decide (n0.tmod n1 < 0) = false]) :
  Ret Tryz.prog 265 [.one (I n0), .one (I n1)] [.one (I (n0.tmod n1))] :=
 .of [.br false, .br false] _ Tryz.func265 rfl (by kernel_rfl) h
theorem impl_OwnerOf_p0 (n0 n1 : Int)
  (h : Obs [decide (n1 < 1) = true]) :
  Ret Tryz.prog 226 [.one (I n0), .one (I n1)] [.one (I 0)] :=
 .of [.br true] _ Tryz.func226 rfl (by kernel_rfl) h
theorem impl_OwnerOf_p1 (n0 n1 : Int)
  (h : Obs [decide (n1 < 1) = false, n1 ≠ 0, decide (n0.tmod n1 < 0) = true, inInt .i64 (n0.tmod n1 + n1)]) :
  Ret Tryz.prog 226 [.one (I n0), .one (I n1)] [.one (I (n0.tmod n1 + n1))] :=
 .of [.br false, .br true] _ Tryz.func226 rfl (by kernel_rfl) h
theorem impl_OwnerOf_p2 (n0 n1 : Int)
  (h : Obs [decide (n1 < 1) = false, n1 ≠ 0, decide (n0.tmod n1 < 0) = false]) :
  Ret Tryz.prog 226 [.one (I n0), .one (I n1)] [.one (I (n0.tmod n1))] :=
 .of [.br false, .br false] _ Tryz.func226 rfl (by kernel_rfl) h
def spec_l21Own_L0 (l0 : List (List D)) (n1 n2 : Int) (l3 l4 l5 l6 l7 : List (List D)) (n8 n9 : Int) : St :=
 { env := envOf 25 [(1, .al (.one (.sl .free 5 l7))), (2, .al (.one (.v (.int .i64 n8)))), (3, .al (.one (.ptr 3 0))), (7, .al (.one (.v (.int .i64 n9))))], boxes := [(3, [.sl .free 4 l0, .v (.int .i64 n1), .v (.int .i64 n2), .sl .free 8 l3, .sl .free 6 l4, .sl .free 5 l5, .sl .free 3 l6])] }
def spec_l21Own_X0 (b0 : Bool) : St :=
 { env := envOf 25 [(6, .al (.one (.sb b0)))], boxes := [] }
theorem spec_l21Own_L0_x0 (l0 : List (List D)) (n1 n2 : Int) (l3 l4 l5 l6 l7 : List (List D)) (n8 n9 n10 n11 n12 n13 n14 n15 : Int)
  (h : Obs [decide (n9 < (↑l7.length : Int)) = true, 0 ≤ n9, n9 < (↑l7.length : Int), l7[n9.toNat]? = some [I n10, I n11, I n12, I n13, I n14], Ret Tryz.prog 265 [.one (I n13), .one (I n1)] [.one (I n15)], (n15 != n8) = true]) :
  Tr Tryz.prog (qaa Tryz.f176 0) (spec_l21Own_L0 l0 n1 n2 l3 l4 l5 l6 l7 n8 n9) .ret (spec_l21Own_X0 false) :=
 .of_loopc (ks := [6]) (bs := []) (ans := [.br true, .el [I n10, I n11, I n12, I n13, I n14], .res [.one (I n15)], .br true]) (by kernel_rfl) h
theorem spec_l21Own_L0_s1 (l0 : List (List D)) (n1 n2 : Int) (l3 l4 l5 l6 l7 : List (List D)) (n8 n9 n10 n11 n12 n13 n14 n15 : Int)
  (h : Obs [decide (n9 < (↑l7.length : Int)) = true, 0 ≤ n9, n9 < (↑l7.length : Int), l7[n9.toNat]? = some [I n10, I n11, I n12, I n13, I n14], Ret Tryz.prog 265 [.one (I n13), .one (I n1)] [.one (I n15)], (n15 != n8) = false, inInt .i64 (n9 + 1)]) :
  Tr Tryz.prog (qaa Tryz.f176 0) (spec_l21Own_L0 l0 n1 n2 l3 l4 l5 l6 l7 n8 n9) .normal (spec_l21Own_L0 l0 n1 n2 l3 l4 l5 l6 l7 n8 (n9 + 1)) :=
 .of_loopc (ks := [7, 1, 3, 2]) (bs := [3]) (ans := [.br true, .el [I n10, I n11, I n12, I n13, I n14], .res [.one (I n15)], .br false]) (by kernel_rfl) h
def spec_l21Own_X0v2 : St :=
 { env := envOf 25 [], boxes := [] }
theorem spec_l21Own_L0_x2 (l0 : List (List D)) (n1 n2 : Int) (l3 l4 l5 l6 l7 : List (List D)) (n8 n9 : Int)
  (h : Obs [decide (n9 < (↑l7.length : Int)) = false]) :
  Tr Tryz.prog (qaa Tryz.f176 0) (spec_l21Own_L0 l0 n1 n2 l3 l4 l5 l6 l7 n8 n9) (.exit 0) spec_l21Own_X0v2 :=
 .of_loopc (ks := []) (bs := []) (ans := [.br false]) (by kernel_rfl) h
theorem spec_l21Own_p0 (l0 : List (List D)) (n1 n2 : Int) (l3 l4 l5 l6 l7 : List (List D)) (n8 : Int) (b9 : Bool)
  (h : Obs [qac Tryz.prog (qaa Tryz.f176 0) (spec_l21Own_L0 l0 n1 n2 l3 l4 l5 l6 l7 n8 0) .ret (spec_l21Own_X0 b9)]) :
  Ret Tryz.prog 176 [.agg [D.sl 4 l0, I n1, I n2, D.sl 8 l3, D.sl 6 l4, D.sl 5 l5, D.sl 3 l6], .one (.sl 5 l7), .one (I n8)] [.one (B b9)] :=
 .of [.loop [] [7, 1, 3, 2] [3] .ret (spec_l21Own_X0 b9)] _ Tryz.func176 rfl (by kernel_rfl) h
theorem spec_l21Own_p1 (l0 : List (List D)) (n1 n2 : Int) (l3 l4 l5 l6 l7 : List (List D)) (n8 : Int)
  (h : Obs [qac Tryz.prog (qaa Tryz.f176 0) (spec_l21Own_L0 l0 n1 n2 l3 l4 l5 l6 l7 n8 0) (.exit 0) spec_l21Own_X0v2]) :
  Ret Tryz.prog 176 [.agg [D.sl 4 l0, I n1, I n2, D.sl 8 l3, D.sl 6 l4, D.sl 5 l5, D.sl 3 l6], .one (.sl 5 l7), .one (I n8)] [.one (B true)] :=
 .of [.loop [] [7, 1, 3, 2] [3] (.exit 0) spec_l21Own_X0v2] _ Tryz.func176 rfl (by kernel_rfl) h
theorem impl_ownedBy_p0 (l0 : List (List D)) (n1 n2 : Int) (b3 : Bool)
  (h : Obs [Ret Tryz.prog 269 [.one (.sl 5 l0), .one (.cl 270 [D.ptr [I n2], D.ptr [I n1]])] [.one (B b3)]]) :
  Ret Tryz.prog 185 [.one (.sl 5 l0), .one (I n1), .one (I n2)] [.one (B !b3)] :=
 .of [.res [.one (B b3)]] _ Tryz.func185 rfl (by kernel_rfl) h
theorem impl_ownedBy_1_p0 (n0 n1 n2 n3 n4 n5 n6 n7 : Int)
  (h : Obs [Ret Tryz.prog 226 [.one (I n3), .one (I n5)] [.one (I n7)]]) :
  Ret Tryz.prog 270 [.agg [I n0, I n1, I n2, I n3, I n4], .one (.ptr [I n5]), .one (.ptr [I n6])] [.one (B (n7 != n6))] :=
 .of [.res [.one (I n7)]] _ Tryz.func270 rfl (by kernel_rfl) h
def spec_OwnersOk_L0 (l0 : List (List D)) (n1 n2 : Int) (l3 l4 l5 l6 : List (List D)) (n7 : Int) : St :=
 { env := envOf 61 [(1, .al (.one (.ptr 1 0))), (3, .al (.one (.v (.int .i64 n7))))], boxes := [(1, [.sl .free 4 l0, .v (.int .i64 n1), .v (.int .i64 n2), .sl .free 8 l3, .sl .free 6 l4, .sl .free 5 l5, .sl .free 3 l6])] }
def spec_OwnersOk_X0 (b0 : Bool) : St :=
 { env := envOf 61 [(2, .al (.one (.sb b0)))], boxes := [] }
theorem spec_OwnersOk_L0_x0 (l0 : List (List D)) (n1 n2 : Int) (l3 l4 l5 l6 : List (List D)) (n7 : Int) (l8 l9 l10 l11 l12 l13 l14 l15 : List (List D)) (b16 : Bool)
  (h : Obs [decide (n7 < (↑l3.length : Int)) = true, 0 ≤ n7, n7 < (↑l3.length : Int), l3[n7.toNat]? = some [D.sl 5 l8, D.sl 5 l9, D.sl 5 l10, D.sl 4 l11, D.sl 1 l12, D.sl 1 l13, D.sl 1 l14, D.sl 2 l15], Ret Tryz.prog 176 [.agg [D.sl 4 l0, I n1, I n2, D.sl 8 l3, D.sl 6 l4, D.sl 5 l5, D.sl 3 l6], .one (.sl 5 l8), .one (I n7)] [.one (B b16)], (!b16) = true]) :
  Tr Tryz.prog (qaa Tryz.f91 0) (spec_OwnersOk_L0 l0 n1 n2 l3 l4 l5 l6 n7) .ret (spec_OwnersOk_X0 false) :=
 .of_loopc (ks := [2]) (bs := []) (ans := [.br true, .el [D.sl 5 l8, D.sl 5 l9, D.sl 5 l10, D.sl 4 l11, D.sl 1 l12, D.sl 1 l13, D.sl 1 l14, D.sl 2 l15], .res [.one (B b16)], .br true]) (by kernel_rfl) h
theorem spec_OwnersOk_L0_x1 (l0 : List (List D)) (n1 n2 : Int) (l3 l4 l5 l6 : List (List D)) (n7 : Int) (l8 l9 l10 l11 l12 l13 l14 l15 : List (List D)) (b16 : Bool) (l17 l18 l19 l20 l21 l22 l23 l24 : List (List D)) (b25 : Bool)
  (h : Obs [decide (n7 < (↑l3.length : Int)) = true, 0 ≤ n7, n7 < (↑l3.length : Int), l3[n7.toNat]? = some [D.sl 5 l8, D.sl 5 l9, D.sl 5 l10, D.sl 4 l11, D.sl 1 l12, D.sl 1 l13, D.sl 1 l14, D.sl 2 l15], Ret Tryz.prog 176 [.agg [D.sl 4 l0, I n1, I n2, D.sl 8 l3, D.sl 6 l4, D.sl 5 l5, D.sl 3 l6], .one (.sl 5 l8), .one (I n7)] [.one (B b16)], (!b16) = false, 0 ≤ n7, n7 < (↑l3.length : Int), l3[n7.toNat]? = some [D.sl 5 l17, D.sl 5 l18, D.sl 5 l19, D.sl 4 l20, D.sl 1 l21, D.sl 1 l22, D.sl 1 l23, D.sl 2 l24], Ret Tryz.prog 176 [.agg [D.sl 4 l0, I n1, I n2, D.sl 8 l3, D.sl 6 l4, D.sl 5 l5, D.sl 3 l6], .one (.sl 5 l19), .one (I n7)] [.one (B b25)], (!b25) = true]) :
  Tr Tryz.prog (qaa Tryz.f91 0) (spec_OwnersOk_L0 l0 n1 n2 l3 l4 l5 l6 n7) .ret (spec_OwnersOk_X0 false) :=
 .of_loopc (ks := [2]) (bs := []) (ans := [.br true, .el [D.sl 5 l8, D.sl 5 l9, D.sl 5 l10, D.sl 4 l11, D.sl 1 l12, D.sl 1 l13, D.sl 1 l14, D.sl 2 l15], .res [.one (B b16)], .br false, .el [D.sl 5 l17, D.sl 5 l18, D.sl 5 l19, D.sl 4 l20, D.sl 1 l21, D.sl 1 l22, D.sl 1 l23, D.sl 2 l24], .res [.one (B b25)], .br true]) (by kernel_rfl) h
theorem spec_OwnersOk_L0_s2 (l0 : List (List D)) (n1 n2 : Int) (l3 l4 l5 l6 : List (List D)) (n7 : Int) (l8 l9 l10 l11 l12 l13 l14 l15 : List (List D)) (b16 : Bool) (l17 l18 l19 l20 l21 l22 l23 l24 : List (List D)) (b25 : Bool)
  (h : Obs [decide (n7 < (↑l3.length : Int)) = true, 0 ≤ n7, n7 < (↑l3.length : Int), l3[n7.toNat]? = some [D.sl 5 l8, D.sl 5 l9, D.sl 5 l10, D.sl 4 l11, D.sl 1 l12, D.sl 1 l13, D.sl 1 l14, D.sl 2 l15], Ret Tryz.prog 176 [.agg [D.sl 4 l0, I n1, I n2, D.sl 8 l3, D.sl 6 l4, D.sl 5 l5, D.sl 3 l6], .one (.sl 5 l8), .one (I n7)] [.one (B b16)], (!b16) = false, 0 ≤ n7, n7 < (↑l3.length : Int), l3[n7.toNat]? = some [D.sl 5 l17, D.sl 5 l18, D.sl 5 l19, D.sl 4 l20, D.sl 1 l21, D.sl 1 l22, D.sl 1 l23, D.sl 2 l24], Ret Tryz.prog 176 [.agg [D.sl 4 l0, I n1, I n2, D.sl 8 l3, D.sl 6 l4, D.sl 5 l5, D.sl 3 l6], .one (.sl 5 l19), .one (I n7)] [.one (B b25)], (!b25) = false, inInt .i64 (n7 + 1)]) :
  Tr Tryz.prog (qaa Tryz.f91 0) (spec_OwnersOk_L0 l0 n1 n2 l3 l4 l5 l6 n7) .normal (spec_OwnersOk_L0 l0 n1 n2 l3 l4 l5 l6 (n7 + 1)) :=
 .of_loopc (ks := [3, 1]) (bs := [1]) (ans := [.br true, .el [D.sl 5 l8, D.sl 5 l9, D.sl 5 l10, D.sl 4 l11, D.sl 1 l12, D.sl 1 l13, D.sl 1 l14, D.sl 2 l15], .res [.one (B b16)], .br false, .el [D.sl 5 l17, D.sl 5 l18, D.sl 5 l19, D.sl 4 l20, D.sl 1 l21, D.sl 1 l22, D.sl 1 l23, D.sl 2 l24], .res [.one (B b25)], .br false]) (by kernel_rfl) h
def spec_OwnersOk_X0v2 (l0 : List (List D)) (n1 n2 : Int) (l3 l4 l5 l6 : List (List D)) : St :=
 { env := envOf 61 [(1, .al (.one (.ptr 1 0)))], boxes := [(1, [.sl .free 4 l0, .v (.int .i64 n1), .v (.int .i64 n2), .sl .free 8 l3, .sl .free 6 l4, .sl .free 5 l5, .sl .free 3 l6])] }
theorem spec_OwnersOk_L0_x3 (l0 : List (List D)) (n1 n2 : Int) (l3 l4 l5 l6 : List (List D)) (n7 : Int)
  (h : Obs [decide (n7 < (↑l3.length : Int)) = false]) :
  Tr Tryz.prog (qaa Tryz.f91 0) (spec_OwnersOk_L0 l0 n1 n2 l3 l4 l5 l6 n7) (.exit 0) (spec_OwnersOk_X0v2 l0 n1 n2 l3 l4 l5 l6) :=
 .of_loopc (ks := [1]) (bs := [1]) (ans := [.br false]) (by kernel_rfl) h
theorem spec_OwnersOk_p0 (l0 : List (List D)) (n1 n2 : Int) (l3 l4 l5 l6 : List (List D)) (b7 : Bool)
  (h : Obs [qac Tryz.prog (qaa Tryz.f91 0) (spec_OwnersOk_L0 l0 n1 n2 l3 l4 l5 l6 0) .ret (spec_OwnersOk_X0 b7)]) :
  Ret Tryz.prog 91 [.agg [D.sl 4 l0, I n1, I n2, D.sl 8 l3, D.sl 6 l4, D.sl 5 l5, D.sl 3 l6]] [.one (B b7)] :=
 .of [.loop [] [3, 1] [1] .ret (spec_OwnersOk_X0 b7)] _ Tryz.func91 rfl (by kernel_rfl) h
def spec_OwnersOk_L1 (l0 : List (List D)) (n1 n2 : Int) (l3 l4 l5 l6 : List (List D)) (n7 : Int) : St :=
 { env := envOf 61 [(1, .al (.one (.ptr 1 0))), (4, .al (.one (.v (.int .i64 n7))))], boxes := [(1, [.sl .free 4 l0, .v (.int .i64 n1), .v (.int .i64 n2), .sl .free 8 l3, .sl .free 6 l4, .sl .free 5 l5, .sl .free 3 l6])] }
def spec_OwnersOk_X1 (b0 : Bool) : St :=
 { env := envOf 61 [(2, .al (.one (.sb b0)))], boxes := [] }
theorem spec_OwnersOk_L1_x0 (l0 : List (List D)) (n1 n2 : Int) (l3 l4 l5 l6 : List (List D)) (n7 : Int)
  (h : Obs [decide (n7 < (↑l4.length : Int)) = true, decide (n1 < 1) = true]) :
  Tr Tryz.prog (qaa Tryz.f91 1) (spec_OwnersOk_L1 l0 n1 n2 l3 l4 l5 l6 n7) .ret (spec_OwnersOk_X1 false) :=
 .of_loopc (ks := [2]) (bs := []) (ans := [.br true, .br true]) (by kernel_rfl) h
theorem spec_OwnersOk_L1_x1 (l0 : List (List D)) (n1 n2 : Int) (l3 l4 l5 l6 : List (List D)) (n7 n8 : Int) (l9 : List (List D)) (n10 n11 n12 n13 : Int) (b14 : Bool)
  (h : Obs [decide (n7 < (↑l4.length : Int)) = true, decide (n1 < 1) = false, 0 ≤ n7, n7 < (↑l4.length : Int), l4[n7.toNat]? = some [I n8, D.sl 5 l9, I n10, I n11, I n12, I n13], n1 ≠ 0, Ret Tryz.prog 176 [.agg [D.sl 4 l0, I n1, I n2, D.sl 8 l3, D.sl 6 l4, D.sl 5 l5, D.sl 3 l6], .one (.sl 5 l9), .one (I (n7.tmod n1))] [.one (B b14)], (!b14) = true]) :
  Tr Tryz.prog (qaa Tryz.f91 1) (spec_OwnersOk_L1 l0 n1 n2 l3 l4 l5 l6 n7) .ret (spec_OwnersOk_X1 false) :=
 .of_loopc (ks := [2]) (bs := []) (ans := [.br true, .br false, .el [I n8, D.sl 5 l9, I n10, I n11, I n12, I n13], .res [.one (B b14)], .br true]) (by kernel_rfl) h
theorem spec_OwnersOk_L1_s2 (l0 : List (List D)) (n1 n2 : Int) (l3 l4 l5 l6 : List (List D)) (n7 n8 : Int) (l9 : List (List D)) (n10 n11 n12 n13 : Int) (b14 : Bool)
  (h : Obs [decide (n7 < (↑l4.length : Int)) = true, decide (n1 < 1) = false, 0 ≤ n7, n7 < (↑l4.length : Int), l4[n7.toNat]? = some [I n8, D.sl 5 l9, I n10, I n11, I n12, I n13], n1 ≠ 0, Ret Tryz.prog 176 [.agg [D.sl 4 l0, I n1, I n2, D.sl 8 l3, D.sl 6 l4, D.sl 5 l5, D.sl 3 l6], .one (.sl 5 l9), .one (I (n7.tmod n1))] [.one (B b14)], (!b14) = false, inInt .i64 (n7 + 1)]) :
  Tr Tryz.prog (qaa Tryz.f91 1) (spec_OwnersOk_L1 l0 n1 n2 l3 l4 l5 l6 n7) .normal (spec_OwnersOk_L1 l0 n1 n2 l3 l4 l5 l6 (n7 + 1)) :=
 .of_loopc (ks := [4, 1]) (bs := [1]) (ans := [.br true, .br false, .el [I n8, D.sl 5 l9, I n10, I n11, I n12, I n13], .res [.one (B b14)], .br false]) (by kernel_rfl) h
def spec_OwnersOk_X1v5 : St :=
 { env := envOf 61 [], boxes := [] }
theorem spec_OwnersOk_L1_x3 (l0 : List (List D)) (n1 n2 : Int) (l3 l4 l5 l6 : List (List D)) (n7 : Int)
  (h : Obs [decide (n7 < (↑l4.length : Int)) = false]) :
  Tr Tryz.prog (qaa Tryz.f91 1) (spec_OwnersOk_L1 l0 n1 n2 l3 l4 l5 l6 n7) (.exit 2) spec_OwnersOk_X1v5 :=
 .of_loopc (ks := []) (bs := []) (ans := [.br false]) (by kernel_rfl) h
theorem spec_OwnersOk_p1 (l0 : List (List D)) (n1 n2 : Int) (l3 l4 l5 l6 : List (List D)) (b7 : Bool)
  (h : Obs [qac Tryz.prog (qaa Tryz.f91 0) (spec_OwnersOk_L0 l0 n1 n2 l3 l4 l5 l6 0) (.exit 0) (spec_OwnersOk_X0v2 l0 n1 n2 l3 l4 l5 l6), qac Tryz.prog (qaa Tryz.f91 1) (spec_OwnersOk_L1 l0 n1 n2 l3 l4 l5 l6 0) .ret (spec_OwnersOk_X1 b7)]) :
  Ret Tryz.prog 91 [.agg [D.sl 4 l0, I n1, I n2, D.sl 8 l3, D.sl 6 l4, D.sl 5 l5, D.sl 3 l6]] [.one (B b7)] :=
 .of [.loop [] [3, 1] [1] (.exit 0) (spec_OwnersOk_X0v2 l0 n1 n2 l3 l4 l5 l6), .loop [] [4, 1] [1] .ret (spec_OwnersOk_X1 b7)] _ Tryz.func91 rfl (by kernel_rfl) h
theorem spec_OwnersOk_p2 (l0 : List (List D)) (n1 n2 : Int) (l3 l4 l5 l6 : List (List D))
  (h : Obs [qac Tryz.prog (qaa Tryz.f91 0) (spec_OwnersOk_L0 l0 n1 n2 l3 l4 l5 l6 0) (.exit 0) (spec_OwnersOk_X0v2 l0 n1 n2 l3 l4 l5 l6), qac Tryz.prog (qaa Tryz.f91 1) (spec_OwnersOk_L1 l0 n1 n2 l3 l4 l5 l6 0) (.exit 2) spec_OwnersOk_X1v5]) :
  Ret Tryz.prog 91 [.agg [D.sl 4 l0, I n1, I n2, D.sl 8 l3, D.sl 6 l4, D.sl 5 l5, D.sl 3 l6]] [.one (B true)] :=
 .of [.loop [] [3, 1] [1] (.exit 0) (spec_OwnersOk_X0v2 l0 n1 n2 l3 l4 l5 l6), .loop [] [4, 1] [1] (.exit 2) spec_OwnersOk_X1v5] _ Tryz.func91 rfl (by kernel_rfl) h
theorem impl_OwnersOk_p0 (l0 : List (List D)) (n1 n2 : Int) (l3 l4 l5 l6 : List (List D))
  (h : Obs [decide ((↑l4.length : Int) > 0) = true, decide (n1 < 1) = true]) :
  Ret Tryz.prog 96 [.agg [D.sl 4 l0, I n1, I n2, D.sl 8 l3, D.sl 6 l4, D.sl 5 l5, D.sl 3 l6]] [.one (B false)] :=
 .of [.br true, .br true] _ Tryz.func96 rfl (by kernel_rfl) h
def impl_OwnersOk_L0 (n0 : Int) (l1 : List (List D)) (n2 : Int) (l3 : List (List D)) (n4 n5 : Int) (l6 l7 l8 l9 : List (List D)) : St :=
 { env := envOf 59 [(1, .al (.one (.ptr 1 0))), (3, .al (.one (.v (.int .i64 n0)))), (20, .al (.one (.sl .free 8 l1))), (21, .al (.one (.v (.int .i64 (↑l1.length : Int))))), (22, .al (.one (.v (.int .i64 n2))))], boxes := [(1, [.sl .free 4 l3, .v (.int .i64 n4), .v (.int .i64 n5), .sl .free 8 l6, .sl .free 6 l7, .sl .free 5 l8, .sl .free 3 l9])] }
def impl_OwnersOk_X0 (b0 : Bool) : St :=
 { env := envOf 59 [(2, .al (.one (.sb b0)))], boxes := [] }
theorem impl_OwnersOk_L0_x0 (n1 : Int) (l3 : List (List D)) (n7 : Int) (l8 : List (List D)) (n9 n10 : Int) (l11 l12 l13 l14 l15 l16 l17 l18 l19 l20 l21 l22 : List (List D)) (b23 : Bool)
  (h : Obs [decide (n7 < (↑l3.length : Int)) = true, 0 ≤ n7, n7 < (↑l3.length : Int), l3[n7.toNat]? = some [D.sl 5 l15, D.sl 5 l16, D.sl 5 l17, D.sl 4 l18, D.sl 1 l19, D.sl 1 l20, D.sl 1 l21, D.sl 2 l22], Ret Tryz.prog 185 [.one (.sl 5 l15), .one (I n7), .one (I n1)] [.one (B b23)], (!b23) = true]) :
  Tr Tryz.prog (qaa Tryz.f96 0) (impl_OwnersOk_L0 n1 l3 n7 l8 n9 n10 l11 l12 l13 l14) .ret (impl_OwnersOk_X0 false) :=
 .of_loopc (ks := [2]) (bs := []) (ans := [.br true, .el [D.sl 5 l15, D.sl 5 l16, D.sl 5 l17, D.sl 4 l18, D.sl 1 l19, D.sl 1 l20, D.sl 1 l21, D.sl 2 l22], .res [.one (B b23)], .br true]) (by kernel_rfl) h
theorem impl_OwnersOk_L0_x1 (n1 : Int) (l3 : List (List D)) (n7 : Int) (l8 : List (List D)) (n9 n10 : Int) (l11 l12 l13 l14 l15 l16 l17 l18 l19 l20 l21 l22 : List (List D)) (b23 b24 : Bool)
  (h : Obs [decide (n7 < (↑l3.length : Int)) = true, 0 ≤ n7, n7 < (↑l3.length : Int), l3[n7.toNat]? = some [D.sl 5 l15, D.sl 5 l16, D.sl 5 l17, D.sl 4 l18, D.sl 1 l19, D.sl 1 l20, D.sl 1 l21, D.sl 2 l22], Ret Tryz.prog 185 [.one (.sl 5 l15), .one (I n7), .one (I n1)] [.one (B b23)], (!b23) = false, Ret Tryz.prog 185 [.one (.sl 5 l17), .one (I n7), .one (I n1)] [.one (B b24)], (!b24) = true]) :
  Tr Tryz.prog (qaa Tryz.f96 0) (impl_OwnersOk_L0 n1 l3 n7 l8 n9 n10 l11 l12 l13 l14) .ret (impl_OwnersOk_X0 false) :=
 .of_loopc (ks := [2]) (bs := []) (ans := [.br true, .el [D.sl 5 l15, D.sl 5 l16, D.sl 5 l17, D.sl 4 l18, D.sl 1 l19, D.sl 1 l20, D.sl 1 l21, D.sl 2 l22], .res [.one (B b23)], .br false, .res [.one (B b24)], .br true]) (by kernel_rfl) h
theorem impl_OwnersOk_L0_s2 (n1 : Int) (l3 : List (List D)) (n7 : Int) (l8 : List (List D)) (n9 n10 : Int) (l11 l12 l13 l14 l15 l16 l17 l18 l19 l20 l21 l22 : List (List D)) (b23 b24 : Bool)
  (h : Obs [decide (n7 < (↑l3.length : Int)) = true, 0 ≤ n7, n7 < (↑l3.length : Int), l3[n7.toNat]? = some [D.sl 5 l15, D.sl 5 l16, D.sl 5 l17, D.sl 4 l18, D.sl 1 l19, D.sl 1 l20, D.sl 1 l21, D.sl 2 l22], Ret Tryz.prog 185 [.one (.sl 5 l15), .one (I n7), .one (I n1)] [.one (B b23)], (!b23) = false, Ret Tryz.prog 185 [.one (.sl 5 l17), .one (I n7), .one (I n1)] [.one (B b24)], (!b24) = false, inInt .i64 (n7 + 1)]) :
  Tr Tryz.prog (qaa Tryz.f96 0) (impl_OwnersOk_L0 n1 l3 n7 l8 n9 n10 l11 l12 l13 l14) .normal (impl_OwnersOk_L0 n1 l3 (n7 + 1) l8 n9 n10 l11 l12 l13 l14) :=
 .of_loopc (ks := [22, 21, 20, 3, 1]) (bs := [1]) (ans := [.br true, .el [D.sl 5 l15, D.sl 5 l16, D.sl 5 l17, D.sl 4 l18, D.sl 1 l19, D.sl 1 l20, D.sl 1 l21, D.sl 2 l22], .res [.one (B b23)], .br false, .res [.one (B b24)], .br false]) (by kernel_rfl) h
def impl_OwnersOk_X0v2 (n0 : Int) (l1 : List (List D)) (n2 n3 : Int) (l4 l5 l6 l7 : List (List D)) : St :=
 { env := envOf 59 [(1, .al (.one (.ptr 1 0))), (3, .al (.one (.v (.int .i64 n0))))], boxes := [(1, [.sl .free 4 l1, .v (.int .i64 n2), .v (.int .i64 n3), .sl .free 8 l4, .sl .free 6 l5, .sl .free 5 l6, .sl .free 3 l7])] }
theorem impl_OwnersOk_L0_x3 (n1 : Int) (l3 : List (List D)) (n7 : Int) (l8 : List (List D)) (n9 n10 : Int) (l11 l12 l13 l14 : List (List D))
  (h : Obs [decide (n7 < (↑l3.length : Int)) = false]) :
  Tr Tryz.prog (qaa Tryz.f96 0) (impl_OwnersOk_L0 n1 l3 n7 l8 n9 n10 l11 l12 l13 l14) (.exit 0) (impl_OwnersOk_X0v2 n1 l8 n9 n10 l11 l12 l13 l14) :=
 .of_loopc (ks := [1, 3]) (bs := [1]) (ans := [.br false]) (by kernel_rfl) h
theorem impl_OwnersOk_p1 (l0 : List (List D)) (n1 n2 : Int) (l3 l4 l5 l6 : List (List D)) (b7 : Bool)
  (h : Obs [decide ((↑l4.length : Int) > 0) = true, decide (n1 < 1) = false, qac Tryz.prog (qaa Tryz.f96 0) (impl_OwnersOk_L0 n1 l3 0 l0 n1 n2 l3 l4 l5 l6) .ret (impl_OwnersOk_X0 b7)]) :
  Ret Tryz.prog 96 [.agg [D.sl 4 l0, I n1, I n2, D.sl 8 l3, D.sl 6 l4, D.sl 5 l5, D.sl 3 l6]] [.one (B b7)] :=
 .of [.br true, .br false, .loop [] [22, 21, 20, 3, 1] [1] .ret (impl_OwnersOk_X0 b7)] _ Tryz.func96 rfl (by kernel_rfl) h
def impl_OwnersOk_L1 (n0 : Int) (l1 : List (List D)) (n2 : Int) : St :=
 { env := envOf 59 [(3, .al (.one (.v (.int .i64 n0)))), (43, .al (.one (.sl .free 6 l1))), (44, .al (.one (.v (.int .i64 (↑l1.length : Int))))), (45, .al (.one (.v (.int .i64 n2))))], boxes := [] }
def impl_OwnersOk_X1 (b0 : Bool) : St :=
 { env := envOf 59 [(2, .al (.one (.sb b0)))], boxes := [] }
theorem impl_OwnersOk_L1_x0 (n1 : Int) (l11 : List (List D)) (n14 n15 : Int) (l16 : List (List D)) (n17 n18 n19 n20 : Int) (b21 : Bool)
  (h : Obs [decide (n14 < (↑l11.length : Int)) = true, 0 ≤ n14, n14 < (↑l11.length : Int), l11[n14.toNat]? = some [I n15, D.sl 5 l16, I n17, I n18, I n19, I n20], n1 ≠ 0, Ret Tryz.prog 185 [.one (.sl 5 l16), .one (I (n14.tmod n1)), .one (I n1)] [.one (B b21)], (!b21) = true]) :
  Tr Tryz.prog (qaa Tryz.f96 1) (impl_OwnersOk_L1 n1 l11 n14) .ret (impl_OwnersOk_X1 false) :=
 .of_loopc (ks := [2]) (bs := []) (ans := [.br true, .el [I n15, D.sl 5 l16, I n17, I n18, I n19, I n20], .res [.one (B b21)], .br true]) (by kernel_rfl) h
theorem impl_OwnersOk_L1_s1 (n1 : Int) (l11 : List (List D)) (n14 n15 : Int) (l16 : List (List D)) (n17 n18 n19 n20 : Int) (b21 : Bool)
  (h : Obs [decide (n14 < (↑l11.length : Int)) = true, 0 ≤ n14, n14 < (↑l11.length : Int), l11[n14.toNat]? = some [I n15, D.sl 5 l16, I n17, I n18, I n19, I n20], n1 ≠ 0, Ret Tryz.prog 185 [.one (.sl 5 l16), .one (I (n14.tmod n1)), .one (I n1)] [.one (B b21)], (!b21) = false, inInt .i64 (n14 + 1)]) :
  Tr Tryz.prog (qaa Tryz.f96 1) (impl_OwnersOk_L1 n1 l11 n14) .normal (impl_OwnersOk_L1 n1 l11 (n14 + 1)) :=
 .of_loopc (ks := [45, 44, 43, 3]) (bs := []) (ans := [.br true, .el [I n15, D.sl 5 l16, I n17, I n18, I n19, I n20], .res [.one (B b21)], .br false]) (by kernel_rfl) h
def impl_OwnersOk_X1v5 : St :=
 { env := envOf 59 [], boxes := [] }
theorem impl_OwnersOk_L1_x2 (n1 : Int) (l11 : List (List D)) (n14 : Int)
  (h : Obs [decide (n14 < (↑l11.length : Int)) = false]) :
  Tr Tryz.prog (qaa Tryz.f96 1) (impl_OwnersOk_L1 n1 l11 n14) (.exit 2) impl_OwnersOk_X1v5 :=
 .of_loopc (ks := []) (bs := []) (ans := [.br false]) (by kernel_rfl) h
theorem impl_OwnersOk_p2 (l0 : List (List D)) (n1 n2 : Int) (l3 l4 l5 l6 l7 : List (List D)) (n8 n9 : Int) (l10 l11 l12 l13 : List (List D)) (b14 : Bool)
  (h : Obs [decide ((↑l4.length : Int) > 0) = true, decide (n1 < 1) = false, qac Tryz.prog (qaa Tryz.f96 0) (impl_OwnersOk_L0 n1 l3 0 l0 n1 n2 l3 l4 l5 l6) (.exit 0) (impl_OwnersOk_X0v2 n1 l7 n8 n9 l10 l11 l12 l13), qac Tryz.prog (qaa Tryz.f96 1) (impl_OwnersOk_L1 n1 l11 0) .ret (impl_OwnersOk_X1 b14)]) :
  Ret Tryz.prog 96 [.agg [D.sl 4 l0, I n1, I n2, D.sl 8 l3, D.sl 6 l4, D.sl 5 l5, D.sl 3 l6]] [.one (B b14)] :=
 .of [.br true, .br false, .loop [] [22, 21, 20, 3, 1] [1] (.exit 0) (impl_OwnersOk_X0v2 n1 l7 n8 n9 l10 l11 l12 l13), .loop [] [45, 44, 43, 3] [] .ret (impl_OwnersOk_X1 b14)] _ Tryz.func96 rfl (by kernel_rfl) h
theorem impl_OwnersOk_p3 (l0 : List (List D)) (n1 n2 : Int) (l3 l4 l5 l6 l7 : List (List D)) (n8 n9 : Int) (l10 l11 l12 l13 : List (List D))
  (h : Obs [decide ((↑l4.length : Int) > 0) = true, decide (n1 < 1) = false, qac Tryz.prog (qaa Tryz.f96 0) (impl_OwnersOk_L0 n1 l3 0 l0 n1 n2 l3 l4 l5 l6) (.exit 0) (impl_OwnersOk_X0v2 n1 l7 n8 n9 l10 l11 l12 l13), qac Tryz.prog (qaa Tryz.f96 1) (impl_OwnersOk_L1 n1 l11 0) (.exit 2) impl_OwnersOk_X1v5]) :
  Ret Tryz.prog 96 [.agg [D.sl 4 l0, I n1, I n2, D.sl 8 l3, D.sl 6 l4, D.sl 5 l5, D.sl 3 l6]] [.one (B true)] :=
 .of [.br true, .br false, .loop [] [22, 21, 20, 3, 1] [1] (.exit 0) (impl_OwnersOk_X0v2 n1 l7 n8 n9 l10 l11 l12 l13), .loop [] [45, 44, 43, 3] [] (.exit 2) impl_OwnersOk_X1v5] _ Tryz.func96 rfl (by kernel_rfl) h
theorem impl_OwnersOk_p4 (l0 : List (List D)) (n1 n2 : Int) (l3 l4 l5 l6 : List (List D)) (b7 : Bool)
  (h : Obs [decide ((↑l4.length : Int) > 0) = false, qac Tryz.prog (qaa Tryz.f96 0) (impl_OwnersOk_L0 n1 l3 0 l0 n1 n2 l3 l4 l5 l6) .ret (impl_OwnersOk_X0 b7)]) :
  Ret Tryz.prog 96 [.agg [D.sl 4 l0, I n1, I n2, D.sl 8 l3, D.sl 6 l4, D.sl 5 l5, D.sl 3 l6]] [.one (B b7)] :=
 .of [.br false, .loop [] [22, 21, 20, 3, 1] [1] .ret (impl_OwnersOk_X0 b7)] _ Tryz.func96 rfl (by kernel_rfl) h
theorem impl_OwnersOk_p6 (l0 : List (List D)) (n1 n2 : Int) (l3 l4 l5 l6 l7 : List (List D)) (n8 n9 : Int) (l10 l11 l12 l13 : List (List D))
  (h : Obs [decide ((↑l4.length : Int) > 0) = false, qac Tryz.prog (qaa Tryz.f96 0) (impl_OwnersOk_L0 n1 l3 0 l0 n1 n2 l3 l4 l5 l6) (.exit 0) (impl_OwnersOk_X0v2 n1 l7 n8 n9 l10 l11 l12 l13), qac Tryz.prog (qaa Tryz.f96 1) (impl_OwnersOk_L1 n1 l11 0) (.exit 2) impl_OwnersOk_X1v5]) :
  Ret Tryz.prog 96 [.agg [D.sl 4 l0, I n1, I n2, D.sl 8 l3, D.sl 6 l4, D.sl 5 l5, D.sl 3 l6]] [.one (B true)] :=
 .of [.br false, .loop [] [22, 21, 20, 3, 1] [1] (.exit 0) (impl_OwnersOk_X0v2 n1 l7 n8 n9 l10 l11 l12 l13), .loop [] [45, 44, 43, 3] [] (.exit 2) impl_OwnersOk_X1v5] _ Tryz.func96 rfl (by kernel_rfl) h
def spec_CellsOk_L0 (l0 : List (List D)) (n1 : Int) : St :=
 { env := envOf 21 [(0, .al (.one (.sl .free 4 l0))), (3, .al (.one (.v (.int .i64 n1))))], boxes := [] }
def spec_CellsOk_X0 (b0 : Bool) : St :=
 { env := envOf 21 [(2, .al (.one (.sb b0)))], boxes := [] }
theorem spec_CellsOk_L0_x0 (l0 : List (List D)) (n1 n2 n3 n4 n5 n6 n7 n8 n9 n10 : Int)
  (h : Obs [decide (n1 < (↑l0.length : Int)) = true, inInt .i64 (n1 - 1), 0 ≤ n1 - 1, n1 - 1 < (↑l0.length : Int), l0[(n1 - 1).toNat]? = some [I n2, I n3, I n4, I n5], 0 ≤ n1, n1 < (↑l0.length : Int), l0[n1.toNat]? = some [I n6, I n7, I n8, I n9], Ret Tryz.prog 292 [.agg [I n2, I n3, I n4, I n5], .agg [I n6, I n7, I n8, I n9]] [.one (I n10)], decide (n10 ≥ 0) = true]) :
  Tr Tryz.prog (qaa Tryz.f264 0) (spec_CellsOk_L0 l0 n1) .ret (spec_CellsOk_X0 false) :=
 .of_loopc (ks := [2]) (bs := []) (ans := [.br true, .el [I n2, I n3, I n4, I n5], .el [I n6, I n7, I n8, I n9], .res [.one (I n10)], .br true]) (by kernel_rfl) h
theorem spec_CellsOk_L0_s1 (l0 : List (List D)) (n1 n2 n3 n4 n5 n6 n7 n8 n9 n10 : Int)
  (h : Obs [decide (n1 < (↑l0.length : Int)) = true, inInt .i64 (n1 - 1), 0 ≤ n1 - 1, n1 - 1 < (↑l0.length : Int), l0[(n1 - 1).toNat]? = some [I n2, I n3, I n4, I n5], 0 ≤ n1, n1 < (↑l0.length : Int), l0[n1.toNat]? = some [I n6, I n7, I n8, I n9], Ret Tryz.prog 292 [.agg [I n2, I n3, I n4, I n5], .agg [I n6, I n7, I n8, I n9]] [.one (I n10)], decide (n10 ≥ 0) = false, inInt .i64 (n1 + 1)]) :
  Tr Tryz.prog (qaa Tryz.f264 0) (spec_CellsOk_L0 l0 n1) .normal (spec_CellsOk_L0 l0 (n1 + 1)) :=
 .of_loopc (ks := [3, 0]) (bs := []) (ans := [.br true, .el [I n2, I n3, I n4, I n5], .el [I n6, I n7, I n8, I n9], .res [.one (I n10)], .br false]) (by kernel_rfl) h
def spec_CellsOk_X0v2 : St :=
 { env := envOf 21 [], boxes := [] }
theorem spec_CellsOk_L0_x2 (l0 : List (List D)) (n1 : Int)
  (h : Obs [decide (n1 < (↑l0.length : Int)) = false]) :
  Tr Tryz.prog (qaa Tryz.f264 0) (spec_CellsOk_L0 l0 n1) (.exit 0) spec_CellsOk_X0v2 :=
 .of_loopc (ks := []) (bs := []) (ans := [.br false]) (by kernel_rfl) h
theorem spec_CellsOk_p0 (l0 : List (List D)) (b1 : Bool)
  (h : Obs [qac Tryz.prog (qaa Tryz.f264 0) (spec_CellsOk_L0 l0 1) .ret (spec_CellsOk_X0 b1)]) :
  Ret Tryz.prog 264 [.one (.sl 4 l0)] [.one (B b1)] :=
 .of [.loop [] [3, 0] [] .ret (spec_CellsOk_X0 b1)] _ Tryz.func264 rfl (by kernel_rfl) h
theorem spec_CellsOk_p1 (l0 : List (List D))
  (h : Obs [qac Tryz.prog (qaa Tryz.f264 0) (spec_CellsOk_L0 l0 1) (.exit 0) spec_CellsOk_X0v2]) :
  Ret Tryz.prog 264 [.one (.sl 4 l0)] [.one (B true)] :=
 .of [.loop [] [3, 0] [] (.exit 0) spec_CellsOk_X0v2] _ Tryz.func264 rfl (by kernel_rfl) h
def impl_CellsOk_L0 (l0 : List (List D)) (n1 : Int) : St :=
 { env := envOf 21 [(0, .al (.one (.sl .free 4 l0))), (3, .al (.one (.v (.int .i64 n1))))], boxes := [] }
def impl_CellsOk_X0 (b0 : Bool) : St :=
 { env := envOf 21 [(2, .al (.one (.sb b0)))], boxes := [] }
theorem impl_CellsOk_L0_x0 (l0 : List (List D)) (n1 n2 n3 n4 n5 n6 n7 n8 n9 n10 : Int)
  (h : Obs [decide (n1 < (↑l0.length : Int)) = true, inInt .i64 (n1 - 1), 0 ≤ n1 - 1, n1 - 1 < (↑l0.length : Int), l0[(n1 - 1).toNat]? = some [I n2, I n3, I n4, I n5], 0 ≤ n1, n1 < (↑l0.length : Int), l0[n1.toNat]? = some [I n6, I n7, I n8, I n9], Ret Tryz.prog 299 [.agg [I n2, I n3, I n4, I n5], .agg [I n6, I n7, I n8, I n9]] [.one (I n10)], decide (n10 ≥ 0) = true]) :
  Tr Tryz.prog (qaa Tryz.f267 0) (impl_CellsOk_L0 l0 n1) .ret (impl_CellsOk_X0 false) :=
 .of_loopc (ks := [2]) (bs := []) (ans := [.br true, .el [I n2, I n3, I n4, I n5], .el [I n6, I n7, I n8, I n9], .res [.one (I n10)], .br true]) (by kernel_rfl) h
theorem impl_CellsOk_L0_s1 (l0 : List (List D)) (n1 n2 n3 n4 n5 n6 n7 n8 n9 n10 : Int)
  (h : Obs [decide (n1 < (↑l0.length : Int)) = true, inInt .i64 (n1 - 1), 0 ≤ n1 - 1, n1 - 1 < (↑l0.length : Int), l0[(n1 - 1).toNat]? = some [I n2, I n3, I n4, I n5], 0 ≤ n1, n1 < (↑l0.length : Int), l0[n1.toNat]? = some [I n6, I n7, I n8, I n9], Ret Tryz.prog 299 [.agg [I n2, I n3, I n4, I n5], .agg [I n6, I n7, I n8, I n9]] [.one (I n10)], decide (n10 ≥ 0) = false, inInt .i64 (n1 + 1)]) :
  Tr Tryz.prog (qaa Tryz.f267 0) (impl_CellsOk_L0 l0 n1) .normal (impl_CellsOk_L0 l0 (n1 + 1)) :=
 .of_loopc (ks := [3, 0]) (bs := []) (ans := [.br true, .el [I n2, I n3, I n4, I n5], .el [I n6, I n7, I n8, I n9], .res [.one (I n10)], .br false]) (by kernel_rfl) h
def impl_CellsOk_X0v2 : St :=
 { env := envOf 21 [], boxes := [] }
theorem impl_CellsOk_L0_x2 (l0 : List (List D)) (n1 : Int)
  (h : Obs [decide (n1 < (↑l0.length : Int)) = false]) :
  Tr Tryz.prog (qaa Tryz.f267 0) (impl_CellsOk_L0 l0 n1) (.exit 0) impl_CellsOk_X0v2 :=
 .of_loopc (ks := []) (bs := []) (ans := [.br false]) (by kernel_rfl) h
theorem impl_CellsOk_p0 (l0 : List (List D)) (b1 : Bool)
  (h : Obs [qac Tryz.prog (qaa Tryz.f267 0) (impl_CellsOk_L0 l0 1) .ret (impl_CellsOk_X0 b1)]) :
  Ret Tryz.prog 267 [.one (.sl 4 l0)] [.one (B b1)] :=
 .of [.loop [] [3, 0] [] .ret (impl_CellsOk_X0 b1)] _ Tryz.func267 rfl (by kernel_rfl) h
theorem impl_CellsOk_p1 (l0 : List (List D))
  (h : Obs [qac Tryz.prog (qaa Tryz.f267 0) (impl_CellsOk_L0 l0 1) (.exit 0) impl_CellsOk_X0v2]) :
  Ret Tryz.prog 267 [.one (.sl 4 l0)] [.one (B true)] :=
 .of [.loop [] [3, 0] [] (.exit 0) impl_CellsOk_X0v2] _ Tryz.func267 rfl (by kernel_rfl) h
def spec_l12Records_L0 (l0 : List (List D)) (n1 n2 : Int) (l3 : List (List D)) (n4 : Int) : St :=
 { env := envOf 29 [(1, .al (.one (.sl .free 5 l3))), (2, .al (.one (.ptr 2 0))), (5, .al (.one (.v (.int .i64 n4))))], boxes := [(2, [.sl .free 4 l0, .v (.int .i64 n1), .v (.int .i64 n2)])] }
def spec_l12Records_X0 (b0 : Bool) : St :=
 { env := envOf 29 [(4, .al (.one (.sb b0)))], boxes := [] }
theorem spec_l12Records_L0_x0 (l0 : List (List D)) (n1 n2 : Int) (l3 : List (List D)) (n4 n5 n6 n7 n8 n9 : Int) (b10 : Bool)
  (h : Obs [decide (n4 < (↑l3.length : Int)) = true, 0 ≤ n4, n4 < (↑l3.length : Int), l3[n4.toNat]? = some [I n5, I n6, I n7, I n8, I n9], Ret Tryz.prog 141 [.agg [I n5, I n6, I n7, I n8, I n9]] [.one (B b10)], (!b10) = true]) :
  Tr Tryz.prog (qaa Tryz.f175 0) (spec_l12Records_L0 l0 n1 n2 l3 n4) .ret (spec_l12Records_X0 false) :=
 .of_loopc (ks := [4]) (bs := []) (ans := [.br true, .el [I n5, I n6, I n7, I n8, I n9], .res [.one (B b10)], .br true]) (by kernel_rfl) h
theorem spec_l12Records_L0_x1 (l0 : List (List D)) (n1 n2 : Int) (l3 : List (List D)) (n4 n5 n6 n7 n8 n9 : Int) (b10 : Bool) (n11 n12 n13 n14 n15 : Int)
  (h : Obs [decide (n4 < (↑l3.length : Int)) = true, 0 ≤ n4, n4 < (↑l3.length : Int), l3[n4.toNat]? = some [I n5, I n6, I n7, I n8, I n9], Ret Tryz.prog 141 [.agg [I n5, I n6, I n7, I n8, I n9]] [.one (B b10)], (!b10) = false, 0 ≤ n4, n4 < (↑l3.length : Int), l3[n4.toNat]? = some [I n11, I n12, I n13, I n14, I n15], decide (n11 ≥ (↑l0.length : Int)) = true]) :
  Tr Tryz.prog (qaa Tryz.f175 0) (spec_l12Records_L0 l0 n1 n2 l3 n4) .ret (spec_l12Records_X0 false) :=
 .of_loopc (ks := [4]) (bs := []) (ans := [.br true, .el [I n5, I n6, I n7, I n8, I n9], .res [.one (B b10)], .br false, .el [I n11, I n12, I n13, I n14, I n15], .br true]) (by kernel_rfl) h
theorem spec_l12Records_L0_s2 (l0 : List (List D)) (n1 n2 : Int) (l3 : List (List D)) (n4 n5 n6 n7 n8 n9 : Int) (b10 : Bool) (n11 n12 n13 n14 n15 : Int)
  (h : Obs [decide (n4 < (↑l3.length : Int)) = true, 0 ≤ n4, n4 < (↑l3.length : Int), l3[n4.toNat]? = some [I n5, I n6, I n7, I n8, I n9], Ret Tryz.prog 141 [.agg [I n5, I n6, I n7, I n8, I n9]] [.one (B b10)], (!b10) = false, 0 ≤ n4, n4 < (↑l3.length : Int), l3[n4.toNat]? = some [I n11, I n12, I n13, I n14, I n15], decide (n11 ≥ (↑l0.length : Int)) = false, inInt .i64 (n4 + 1)]) :
  Tr Tryz.prog (qaa Tryz.f175 0) (spec_l12Records_L0 l0 n1 n2 l3 n4) .normal (spec_l12Records_L0 l0 n1 n2 l3 (n4 + 1)) :=
 .of_loopc (ks := [5, 1, 2]) (bs := [2]) (ans := [.br true, .el [I n5, I n6, I n7, I n8, I n9], .res [.one (B b10)], .br false, .el [I n11, I n12, I n13, I n14, I n15], .br false]) (by kernel_rfl) h
def spec_l12Records_X0v2 : St :=
 { env := envOf 29 [], boxes := [] }
theorem spec_l12Records_L0_x3 (l0 : List (List D)) (n1 n2 : Int) (l3 : List (List D)) (n4 : Int)
  (h : Obs [decide (n4 < (↑l3.length : Int)) = false]) :
  Tr Tryz.prog (qaa Tryz.f175 0) (spec_l12Records_L0 l0 n1 n2 l3 n4) (.exit 0) spec_l12Records_X0v2 :=
 .of_loopc (ks := []) (bs := []) (ans := [.br false]) (by kernel_rfl) h
theorem spec_l12Records_p0 (l0 : List (List D)) (n1 n2 : Int) (l3 : List (List D)) (b4 : Bool)
  (h : Obs [qac Tryz.prog (qaa Tryz.f175 0) (spec_l12Records_L0 l0 n1 n2 l3 0) .ret (spec_l12Records_X0 b4)]) :
  Ret Tryz.prog 175 [.agg [D.sl 4 l0, I n1, I n2], .one (.sl 5 l3)] [.one (B b4)] :=
 .of [.loop [] [5, 1, 2] [2] .ret (spec_l12Records_X0 b4)] _ Tryz.func175 rfl (by kernel_rfl) h
theorem spec_l12Records_p1 (l0 : List (List D)) (n1 n2 : Int) (l3 : List (List D))
  (h : Obs [qac Tryz.prog (qaa Tryz.f175 0) (spec_l12Records_L0 l0 n1 n2 l3 0) (.exit 0) spec_l12Records_X0v2]) :
  Ret Tryz.prog 175 [.agg [D.sl 4 l0, I n1, I n2], .one (.sl 5 l3)] [.one (B true)] :=
 .of [.loop [] [5, 1, 2] [2] (.exit 0) spec_l12Records_X0v2] _ Tryz.func175 rfl (by kernel_rfl) h
def impl_opsOk_L0 (l0 : List (List D)) (n1 : Int) (l2 : List (List D)) (n3 n4 : Int) : St :=
 { env := envOf 24 [(2, .al (.one (.ptr 2 0))), (7, .al (.one (.sl .free 5 l0))), (8, .al (.one (.v (.int .i64 (↑l0.length : Int))))), (9, .al (.one (.v (.int .i64 n1))))], boxes := [(2, [.sl .free 4 l2, .v (.int .i64 n3), .v (.int .i64 n4)])] }
def impl_opsOk_X0 (b0 : Bool) : St :=
 { env := envOf 24 [(4, .al (.one (.sb b0)))], boxes := [] }
theorem impl_opsOk_L0_x0 (l3 : List (List D)) (n4 : Int) (l5 : List (List D)) (n6 n7 n8 n9 n10 n11 n12 : Int) (b13 : Bool)
  (h : Obs [decide (n4 < (↑l3.length : Int)) = true, 0 ≤ n4, n4 < (↑l3.length : Int), l3[n4.toNat]? = some [I n8, I n9, I n10, I n11, I n12], Ret Tryz.prog 152 [.agg [I n8, I n9, I n10, I n11, I n12]] [.one (B b13)], (!b13) = true]) :
  Tr Tryz.prog (qaa Tryz.f184 0) (impl_opsOk_L0 l3 n4 l5 n6 n7) .ret (impl_opsOk_X0 false) :=
 .of_loopc (ks := [4]) (bs := []) (ans := [.br true, .el [I n8, I n9, I n10, I n11, I n12], .res [.one (B b13)], .br true]) (by kernel_rfl) h
theorem impl_opsOk_L0_x1 (l3 : List (List D)) (n4 : Int) (l5 : List (List D)) (n6 n7 n8 n9 n10 n11 n12 : Int) (b13 b14 : Bool)
  (h : Obs [decide (n4 < (↑l3.length : Int)) = true, 0 ≤ n4, n4 < (↑l3.length : Int), l3[n4.toNat]? = some [I n8, I n9, I n10, I n11, I n12], Ret Tryz.prog 152 [.agg [I n8, I n9, I n10, I n11, I n12]] [.one (B b13)], (!b13) = false, Ret Tryz.prog 153 [.agg [D.sl 4 l5, I n6, I n7], .one (I n8)] [.one (B b14)], (!b14) = true]) :
  Tr Tryz.prog (qaa Tryz.f184 0) (impl_opsOk_L0 l3 n4 l5 n6 n7) .ret (impl_opsOk_X0 false) :=
 .of_loopc (ks := [4]) (bs := []) (ans := [.br true, .el [I n8, I n9, I n10, I n11, I n12], .res [.one (B b13)], .br false, .res [.one (B b14)], .br true]) (by kernel_rfl) h
theorem impl_opsOk_L0_s2 (l3 : List (List D)) (n4 : Int) (l5 : List (List D)) (n6 n7 n8 n9 n10 n11 n12 : Int) (b13 b14 : Bool)
  (h : Obs [decide (n4 < (↑l3.length : Int)) = true, 0 ≤ n4, n4 < (↑l3.length : Int), l3[n4.toNat]? = some [I n8, I n9, I n10, I n11, I n12], Ret Tryz.prog 152 [.agg [I n8, I n9, I n10, I n11, I n12]] [.one (B b13)], (!b13) = false, Ret Tryz.prog 153 [.agg [D.sl 4 l5, I n6, I n7], .one (I n8)] [.one (B b14)], (!b14) = false, inInt .i64 (n4 + 1)]) :
  Tr Tryz.prog (qaa Tryz.f184 0) (impl_opsOk_L0 l3 n4 l5 n6 n7) .normal (impl_opsOk_L0 l3 (n4 + 1) l5 n6 n7) :=
 .of_loopc (ks := [9, 8, 7, 2]) (bs := [2]) (ans := [.br true, .el [I n8, I n9, I n10, I n11, I n12], .res [.one (B b13)], .br false, .res [.one (B b14)], .br false]) (by kernel_rfl) h
def impl_opsOk_X0v2 : St :=
 { env := envOf 24 [], boxes := [] }
theorem impl_opsOk_L0_x3 (l3 : List (List D)) (n4 : Int) (l5 : List (List D)) (n6 n7 : Int)
  (h : Obs [decide (n4 < (↑l3.length : Int)) = false]) :
  Tr Tryz.prog (qaa Tryz.f184 0) (impl_opsOk_L0 l3 n4 l5 n6 n7) (.exit 0) impl_opsOk_X0v2 :=
 .of_loopc (ks := []) (bs := []) (ans := [.br false]) (by kernel_rfl) h
theorem impl_opsOk_p0 (l0 : List (List D)) (n1 n2 : Int) (l3 : List (List D)) (b4 : Bool)
  (h : Obs [qac Tryz.prog (qaa Tryz.f184 0) (impl_opsOk_L0 l3 0 l0 n1 n2) .ret (impl_opsOk_X0 b4)]) :
  Ret Tryz.prog 184 [.agg [D.sl 4 l0, I n1, I n2], .one (.sl 5 l3)] [.one (B b4)] :=
 .of [.loop [] [9, 8, 7, 2] [2] .ret (impl_opsOk_X0 b4)] _ Tryz.func184 rfl (by kernel_rfl) h
theorem impl_opsOk_p1 (l0 : List (List D)) (n1 n2 : Int) (l3 : List (List D))
  (h : Obs [qac Tryz.prog (qaa Tryz.f184 0) (impl_opsOk_L0 l3 0 l0 n1 n2) (.exit 0) impl_opsOk_X0v2]) :
  Ret Tryz.prog 184 [.agg [D.sl 4 l0, I n1, I n2], .one (.sl 5 l3)] [.one (B true)] :=
 .of [.loop [] [9, 8, 7, 2] [2] (.exit 0) impl_opsOk_X0v2] _ Tryz.func184 rfl (by kernel_rfl) h
theorem spec_WorkerOk_p0 (l0 : List (List D)) (n1 n2 : Int) (l3 l4 l5 l6 l7 l8 l9 l10 : List (List D)) (b11 : Bool)
  (h : Obs [Ret Tryz.prog 175 [.agg [D.sl 4 l0, I n1, I n2], .one (.sl 5 l3)] [.one (B b11)], (!b11) = true]) :
  Ret Tryz.prog 173 [.agg [D.sl 4 l0, I n1, I n2], .agg [D.sl 5 l3, D.sl 5 l4, D.sl 5 l5, D.sl 4 l6, D.sl 1 l7, D.sl 1 l8, D.sl 1 l9, D.sl 2 l10]] [.one (B false)] :=
 .of [.res [.one (B b11)], .br true] _ Tryz.func173 rfl (by kernel_rfl) h
theorem spec_WorkerOk_p1 (l0 : List (List D)) (n1 n2 : Int) (l3 l4 l5 l6 l7 l8 l9 l10 : List (List D)) (b11 b12 : Bool)
  (h : Obs [Ret Tryz.prog 175 [.agg [D.sl 4 l0, I n1, I n2], .one (.sl 5 l3)] [.one (B b11)], (!b11) = false, Ret Tryz.prog 175 [.agg [D.sl 4 l0, I n1, I n2], .one (.sl 5 l4)] [.one (B b12)], (!b12) = true]) :
  Ret Tryz.prog 173 [.agg [D.sl 4 l0, I n1, I n2], .agg [D.sl 5 l3, D.sl 5 l4, D.sl 5 l5, D.sl 4 l6, D.sl 1 l7, D.sl 1 l8, D.sl 1 l9, D.sl 2 l10]] [.one (B false)] :=
 .of [.res [.one (B b11)], .br false, .res [.one (B b12)], .br true] _ Tryz.func173 rfl (by kernel_rfl) h
theorem spec_WorkerOk_p2 (l0 : List (List D)) (n1 n2 : Int) (l3 l4 l5 l6 l7 l8 l9 l10 : List (List D)) (b11 b12 b13 : Bool)
  (h : Obs [Ret Tryz.prog 175 [.agg [D.sl 4 l0, I n1, I n2], .one (.sl 5 l3)] [.one (B b11)], (!b11) = false, Ret Tryz.prog 175 [.agg [D.sl 4 l0, I n1, I n2], .one (.sl 5 l4)] [.one (B b12)], (!b12) = false, Ret Tryz.prog 175 [.agg [D.sl 4 l0, I n1, I n2], .one (.sl 5 l5)] [.one (B b13)], (!b13) = true]) :
  Ret Tryz.prog 173 [.agg [D.sl 4 l0, I n1, I n2], .agg [D.sl 5 l3, D.sl 5 l4, D.sl 5 l5, D.sl 4 l6, D.sl 1 l7, D.sl 1 l8, D.sl 1 l9, D.sl 2 l10]] [.one (B false)] :=
 .of [.res [.one (B b11)], .br false, .res [.one (B b12)], .br false, .res [.one (B b13)], .br true] _ Tryz.func173 rfl (by kernel_rfl) h
theorem spec_WorkerOk_p3 (l0 : List (List D)) (n1 n2 : Int) (l3 l4 l5 l6 l7 l8 l9 l10 : List (List D)) (b11 b12 b13 b14 : Bool)
  (h : Obs [Ret Tryz.prog 175 [.agg [D.sl 4 l0, I n1, I n2], .one (.sl 5 l3)] [.one (B b11)], (!b11) = false, Ret Tryz.prog 175 [.agg [D.sl 4 l0, I n1, I n2], .one (.sl 5 l4)] [.one (B b12)], (!b12) = false, Ret Tryz.prog 175 [.agg [D.sl 4 l0, I n1, I n2], .one (.sl 5 l5)] [.one (B b13)], (!b13) = false, Ret Tryz.prog 264 [.one (.sl 4 l6)] [.one (B b14)], (!b14) = true]) :
  Ret Tryz.prog 173 [.agg [D.sl 4 l0, I n1, I n2], .agg [D.sl 5 l3, D.sl 5 l4, D.sl 5 l5, D.sl 4 l6, D.sl 1 l7, D.sl 1 l8, D.sl 1 l9, D.sl 2 l10]] [.one (B false)] :=
 .of [.res [.one (B b11)], .br false, .res [.one (B b12)], .br false, .res [.one (B b13)], .br false, .res [.one (B b14)], .br true] _ Tryz.func173 rfl (by kernel_rfl) h
theorem spec_WorkerOk_p4 (l0 : List (List D)) (n1 n2 : Int) (l3 l4 l5 l6 l7 l8 l9 l10 : List (List D)) (b11 b12 b13 b14 : Bool)
  (h : Obs [Ret Tryz.prog 175 [.agg [D.sl 4 l0, I n1, I n2], .one (.sl 5 l3)] [.one (B b11)], (!b11) = false, Ret Tryz.prog 175 [.agg [D.sl 4 l0, I n1, I n2], .one (.sl 5 l4)] [.one (B b12)], (!b12) = false, Ret Tryz.prog 175 [.agg [D.sl 4 l0, I n1, I n2], .one (.sl 5 l5)] [.one (B b13)], (!b13) = false, Ret Tryz.prog 264 [.one (.sl 4 l6)] [.one (B b14)], (!b14) = false, ((↑l7.length : Int) != 4) = true]) :
  Ret Tryz.prog 173 [.agg [D.sl 4 l0, I n1, I n2], .agg [D.sl 5 l3, D.sl 5 l4, D.sl 5 l5, D.sl 4 l6, D.sl 1 l7, D.sl 1 l8, D.sl 1 l9, D.sl 2 l10]] [.one (B false)] :=
 .of [.res [.one (B b11)], .br false, .res [.one (B b12)], .br false, .res [.one (B b13)], .br false, .res [.one (B b14)], .br false, .br true] _ Tryz.func173 rfl (by kernel_rfl) h
theorem spec_WorkerOk_p5 (l0 : List (List D)) (n1 n2 : Int) (l3 l4 l5 l6 l7 l8 l9 l10 : List (List D)) (b11 b12 b13 b14 : Bool)
  (h : Obs [Ret Tryz.prog 175 [.agg [D.sl 4 l0, I n1, I n2], .one (.sl 5 l3)] [.one (B b11)], (!b11) = false, Ret Tryz.prog 175 [.agg [D.sl 4 l0, I n1, I n2], .one (.sl 5 l4)] [.one (B b12)], (!b12) = false, Ret Tryz.prog 175 [.agg [D.sl 4 l0, I n1, I n2], .one (.sl 5 l5)] [.one (B b13)], (!b13) = false, Ret Tryz.prog 264 [.one (.sl 4 l6)] [.one (B b14)], (!b14) = false, ((↑l7.length : Int) != 4) = false, ((↑l8.length : Int) != 4) = true]) :
  Ret Tryz.prog 173 [.agg [D.sl 4 l0, I n1, I n2], .agg [D.sl 5 l3, D.sl 5 l4, D.sl 5 l5, D.sl 4 l6, D.sl 1 l7, D.sl 1 l8, D.sl 1 l9, D.sl 2 l10]] [.one (B false)] :=
 .of [.res [.one (B b11)], .br false, .res [.one (B b12)], .br false, .res [.one (B b13)], .br false, .res [.one (B b14)], .br false, .br false, .br true] _ Tryz.func173 rfl (by kernel_rfl) h
theorem spec_WorkerOk_p6 (l0 : List (List D)) (n1 n2 : Int) (l3 l4 l5 l6 l7 l8 l9 l10 : List (List D)) (b11 b12 b13 b14 : Bool)
  (h : Obs [Ret Tryz.prog 175 [.agg [D.sl 4 l0, I n1, I n2], .one (.sl 5 l3)] [.one (B b11)], (!b11) = false, Ret Tryz.prog 175 [.agg [D.sl 4 l0, I n1, I n2], .one (.sl 5 l4)] [.one (B b12)], (!b12) = false, Ret Tryz.prog 175 [.agg [D.sl 4 l0, I n1, I n2], .one (.sl 5 l5)] [.one (B b13)], (!b13) = false, Ret Tryz.prog 264 [.one (.sl 4 l6)] [.one (B b14)], (!b14) = false, ((↑l7.length : Int) != 4) = false, ((↑l8.length : Int) != 4) = false, ((↑l9.length : Int) != 4) = true]) :
  Ret Tryz.prog 173 [.agg [D.sl 4 l0, I n1, I n2], .agg [D.sl 5 l3, D.sl 5 l4, D.sl 5 l5, D.sl 4 l6, D.sl 1 l7, D.sl 1 l8, D.sl 1 l9, D.sl 2 l10]] [.one (B false)] :=
 .of [.res [.one (B b11)], .br false, .res [.one (B b12)], .br false, .res [.one (B b13)], .br false, .res [.one (B b14)], .br false, .br false, .br false, .br true] _ Tryz.func173 rfl (by kernel_rfl) h
def spec_WorkerOk_L0 (l0 l1 l2 l3 l4 l5 l6 l7 : List (List D)) (n8 : Int) : St :=
 { env := envOf 147 [(3, .al (.one (.ptr 3 0))), (5, .al (.one (.v (.int .i64 4)))), (6, .al (.one (.v (.int .i64 n8))))], boxes := [(3, [.sl .free 5 l0, .sl .free 5 l1, .sl .free 5 l2, .sl .free 4 l3, .sl .free 1 l4, .sl .free 1 l5, .sl .free 1 l6, .sl .free 2 l7])] }
def spec_WorkerOk_X0 (b0 : Bool) : St :=
 { env := envOf 147 [(4, .al (.one (.sb b0)))], boxes := [] }
theorem spec_WorkerOk_L0_x0 (l3 l4 l5 l6 l7 l8 l9 l10 : List (List D)) (n15 n16 n17 n18 n19 n20 : Int)
  (h : Obs [decide (n15 < (↑l5.length : Int)) = true, 0 ≤ n15, n15 < (↑l5.length : Int), l5[n15.toNat]? = some [I n16, I n17, I n18, I n19, I n20], (n16 != 0) = true]) :
  Tr Tryz.prog (qaa Tryz.f173 0) (spec_WorkerOk_L0 l3 l4 l5 l6 l7 l8 l9 l10 n15) .ret (spec_WorkerOk_X0 false) :=
 .of_loopc (ks := [4]) (bs := []) (ans := [.br true, .el [I n16, I n17, I n18, I n19, I n20], .br true]) (by kernel_rfl) h
theorem spec_WorkerOk_L0_x1 (l3 l4 l5 l6 l7 l8 l9 l10 : List (List D)) (n15 n16 n17 n18 n19 n20 n21 n22 n23 n24 n25 : Int)
  (h : Obs [decide (n15 < (↑l5.length : Int)) = true, 0 ≤ n15, n15 < (↑l5.length : Int), l5[n15.toNat]? = some [I n16, I n17, I n18, I n19, I n20], (n16 != 0) = false, 0 ≤ n15, n15 < (↑l5.length : Int), l5[n15.toNat]? = some [I n21, I n22, I n23, I n24, I n25], (n23 != 0) = true]) :
  Tr Tryz.prog (qaa Tryz.f173 0) (spec_WorkerOk_L0 l3 l4 l5 l6 l7 l8 l9 l10 n15) .ret (spec_WorkerOk_X0 false) :=
 .of_loopc (ks := [4]) (bs := []) (ans := [.br true, .el [I n16, I n17, I n18, I n19, I n20], .br false, .el [I n21, I n22, I n23, I n24, I n25], .br true]) (by kernel_rfl) h
theorem spec_WorkerOk_L0_x2 (l3 l4 l5 l6 l7 l8 l9 l10 : List (List D)) (n15 n16 n17 n18 n19 n20 n21 n22 n23 n24 n25 n26 n27 n28 n29 n30 n31 n32 n33 n34 n35 : Int)
  (h : Obs [decide (n15 < (↑l5.length : Int)) = true, 0 ≤ n15, n15 < (↑l5.length : Int), l5[n15.toNat]? = some [I n16, I n17, I n18, I n19, I n20], (n16 != 0) = false, 0 ≤ n15, n15 < (↑l5.length : Int), l5[n15.toNat]? = some [I n21, I n22, I n23, I n24, I n25], (n23 != 0) = false, decide (n15 > 0) = true, inInt .i64 (n15 - 1), 0 ≤ n15 - 1, n15 - 1 < (↑l5.length : Int), l5[(n15 - 1).toNat]? = some [I n26, I n27, I n28, I n29, I n30], 0 ≤ n15, n15 < (↑l5.length : Int), l5[n15.toNat]? = some [I n31, I n32, I n33, I n34, I n35], decide (n27 > n32) = true]) :
  Tr Tryz.prog (qaa Tryz.f173 0) (spec_WorkerOk_L0 l3 l4 l5 l6 l7 l8 l9 l10 n15) .ret (spec_WorkerOk_X0 false) :=
 .of_loopc (ks := [4]) (bs := []) (ans := [.br true, .el [I n16, I n17, I n18, I n19, I n20], .br false, .el [I n21, I n22, I n23, I n24, I n25], .br false, .br true, .el [I n26, I n27, I n28, I n29, I n30], .el [I n31, I n32, I n33, I n34, I n35], .br true]) (by kernel_rfl) h
theorem spec_WorkerOk_L0_s3 (l3 l4 l5 l6 l7 l8 l9 l10 : List (List D)) (n15 n16 n17 n18 n19 n20 n21 n22 n23 n24 n25 n26 n27 n28 n29 n30 n31 n32 n33 n34 n35 : Int)
  (h : Obs [decide (n15 < (↑l5.length : Int)) = true, 0 ≤ n15, n15 < (↑l5.length : Int), l5[n15.toNat]? = some [I n16, I n17, I n18, I n19, I n20], (n16 != 0) = false, 0 ≤ n15, n15 < (↑l5.length : Int), l5[n15.toNat]? = some [I n21, I n22, I n23, I n24, I n25], (n23 != 0) = false, decide (n15 > 0) = true, inInt .i64 (n15 - 1), 0 ≤ n15 - 1, n15 - 1 < (↑l5.length : Int), l5[(n15 - 1).toNat]? = some [I n26, I n27, I n28, I n29, I n30], 0 ≤ n15, n15 < (↑l5.length : Int), l5[n15.toNat]? = some [I n31, I n32, I n33, I n34, I n35], decide (n27 > n32) = false, inInt .i64 (n15 + 1)]) :
  Tr Tryz.prog (qaa Tryz.f173 0) (spec_WorkerOk_L0 l3 l4 l5 l6 l7 l8 l9 l10 n15) .normal (spec_WorkerOk_L0 l3 l4 l5 l6 l7 l8 l9 l10 (n15 + 1)) :=
 .of_loopc (ks := [6, 3, 5]) (bs := [3]) (ans := [.br true, .el [I n16, I n17, I n18, I n19, I n20], .br false, .el [I n21, I n22, I n23, I n24, I n25], .br false, .br true, .el [I n26, I n27, I n28, I n29, I n30], .el [I n31, I n32, I n33, I n34, I n35], .br false]) (by kernel_rfl) h
theorem spec_WorkerOk_L0_s4 (l3 l4 l5 l6 l7 l8 l9 l10 : List (List D)) (n15 n16 n17 n18 n19 n20 n21 n22 n23 n24 n25 : Int)
  (h : Obs [decide (n15 < (↑l5.length : Int)) = true, 0 ≤ n15, n15 < (↑l5.length : Int), l5[n15.toNat]? = some [I n16, I n17, I n18, I n19, I n20], (n16 != 0) = false, 0 ≤ n15, n15 < (↑l5.length : Int), l5[n15.toNat]? = some [I n21, I n22, I n23, I n24, I n25], (n23 != 0) = false, decide (n15 > 0) = false, inInt .i64 (n15 + 1)]) :
  Tr Tryz.prog (qaa Tryz.f173 0) (spec_WorkerOk_L0 l3 l4 l5 l6 l7 l8 l9 l10 n15) .normal (spec_WorkerOk_L0 l3 l4 l5 l6 l7 l8 l9 l10 (n15 + 1)) :=
 .of_loopc (ks := [6, 3, 5]) (bs := [3]) (ans := [.br true, .el [I n16, I n17, I n18, I n19, I n20], .br false, .el [I n21, I n22, I n23, I n24, I n25], .br false, .br false]) (by kernel_rfl) h
def spec_WorkerOk_X0v2 (l0 l1 l2 l3 l4 l5 l6 l7 : List (List D)) : St :=
 { env := envOf 147 [(3, .al (.one (.ptr 3 0))), (5, .al (.one (.v (.int .i64 4))))], boxes := [(3, [.sl .free 5 l0, .sl .free 5 l1, .sl .free 5 l2, .sl .free 4 l3, .sl .free 1 l4, .sl .free 1 l5, .sl .free 1 l6, .sl .free 2 l7])] }
theorem spec_WorkerOk_L0_x5 (l3 l4 l5 l6 l7 l8 l9 l10 : List (List D)) (n15 : Int)
  (h : Obs [decide (n15 < (↑l5.length : Int)) = false]) :
  Tr Tryz.prog (qaa Tryz.f173 0) (spec_WorkerOk_L0 l3 l4 l5 l6 l7 l8 l9 l10 n15) (.exit 0) (spec_WorkerOk_X0v2 l3 l4 l5 l6 l7 l8 l9 l10) :=
 .of_loopc (ks := [5, 3]) (bs := [3]) (ans := [.br false]) (by kernel_rfl) h
theorem spec_WorkerOk_p7 (l0 : List (List D)) (n1 n2 : Int) (l3 l4 l5 l6 l7 l8 l9 l10 : List (List D)) (b11 b12 b13 b14 b15 : Bool)
  (h : Obs [Ret Tryz.prog 175 [.agg [D.sl 4 l0, I n1, I n2], .one (.sl 5 l3)] [.one (B b11)], (!b11) = false, Ret Tryz.prog 175 [.agg [D.sl 4 l0, I n1, I n2], .one (.sl 5 l4)] [.one (B b12)], (!b12) = false, Ret Tryz.prog 175 [.agg [D.sl 4 l0, I n1, I n2], .one (.sl 5 l5)] [.one (B b13)], (!b13) = false, Ret Tryz.prog 264 [.one (.sl 4 l6)] [.one (B b14)], (!b14) = false, ((↑l7.length : Int) != 4) = false, ((↑l8.length : Int) != 4) = false, ((↑l9.length : Int) != 4) = false, qac Tryz.prog (qaa Tryz.f173 0) (spec_WorkerOk_L0 l3 l4 l5 l6 l7 l8 l9 l10 0) .ret (spec_WorkerOk_X0 b15)]) :
  Ret Tryz.prog 173 [.agg [D.sl 4 l0, I n1, I n2], .agg [D.sl 5 l3, D.sl 5 l4, D.sl 5 l5, D.sl 4 l6, D.sl 1 l7, D.sl 1 l8, D.sl 1 l9, D.sl 2 l10]] [.one (B b15)] :=
 .of [.res [.one (B b11)], .br false, .res [.one (B b12)], .br false, .res [.one (B b13)], .br false, .res [.one (B b14)], .br false, .br false, .br false, .br false, .loop [] [6, 3, 5] [3] .ret (spec_WorkerOk_X0 b15)] _ Tryz.func173 rfl (by kernel_rfl) h
def spec_WorkerOk_L1 (l0 l1 l2 l3 l4 l5 l6 l7 : List (List D)) (n8 : Int) : St :=
 { env := envOf 147 [(3, .al (.one (.ptr 3 0))), (5, .al (.one (.v (.int .i64 4)))), (7, .al (.one (.v (.int .i64 n8))))], boxes := [(3, [.sl .free 5 l0, .sl .free 5 l1, .sl .free 5 l2, .sl .free 4 l3, .sl .free 1 l4, .sl .free 1 l5, .sl .free 1 l6, .sl .free 2 l7])] }
def spec_WorkerOk_X1 (b0 : Bool) : St :=
 { env := envOf 147 [(4, .al (.one (.sb b0)))], boxes := [] }
theorem spec_WorkerOk_L1_x0 (l3 l4 l5 l6 l7 l8 l9 l10 : List (List D)) (n15 n16 : Int) (b17 : Bool)
  (h : Obs [decide (n15 < 4) = true, 0 ≤ n15, n15 < (↑l7.length : Int), l7[n15.toNat]? = some [I n16], Ret Tryz.prog 138 [.one (I n16), .one (I (-1000000)), .one (I 1000000)] [.one (B b17)], (!b17) = true]) :
  Tr Tryz.prog (qaa Tryz.f173 1) (spec_WorkerOk_L1 l3 l4 l5 l6 l7 l8 l9 l10 n15) .ret (spec_WorkerOk_X1 false) :=
 .of_loopc (ks := [4]) (bs := []) (ans := [.br true, .el [I n16], .res [.one (B b17)], .br true]) (by kernel_rfl) h
theorem spec_WorkerOk_L1_s1 (l3 l4 l5 l6 l7 l8 l9 l10 : List (List D)) (n15 n16 : Int) (b17 : Bool)
  (h : Obs [decide (n15 < 4) = true, 0 ≤ n15, n15 < (↑l7.length : Int), l7[n15.toNat]? = some [I n16], Ret Tryz.prog 138 [.one (I n16), .one (I (-1000000)), .one (I 1000000)] [.one (B b17)], (!b17) = false, inInt .i64 (n15 + 1)]) :
  Tr Tryz.prog (qaa Tryz.f173 1) (spec_WorkerOk_L1 l3 l4 l5 l6 l7 l8 l9 l10 n15) .normal (spec_WorkerOk_L1 l3 l4 l5 l6 l7 l8 l9 l10 (n15 + 1)) :=
 .of_loopc (ks := [7, 5, 3]) (bs := [3]) (ans := [.br true, .el [I n16], .res [.one (B b17)], .br false]) (by kernel_rfl) h
def spec_WorkerOk_X1v5 (l0 l1 l2 l3 l4 l5 l6 l7 : List (List D)) : St :=
 { env := envOf 147 [(3, .al (.one (.ptr 3 0)))], boxes := [(3, [.sl .free 5 l0, .sl .free 5 l1, .sl .free 5 l2, .sl .free 4 l3, .sl .free 1 l4, .sl .free 1 l5, .sl .free 1 l6, .sl .free 2 l7])] }
theorem spec_WorkerOk_L1_x2 (l3 l4 l5 l6 l7 l8 l9 l10 : List (List D)) (n15 : Int)
  (h : Obs [decide (n15 < 4) = false]) :
  Tr Tryz.prog (qaa Tryz.f173 1) (spec_WorkerOk_L1 l3 l4 l5 l6 l7 l8 l9 l10 n15) (.exit 2) (spec_WorkerOk_X1v5 l3 l4 l5 l6 l7 l8 l9 l10) :=
 .of_loopc (ks := [3]) (bs := [3]) (ans := [.br false]) (by kernel_rfl) h
theorem spec_WorkerOk_p8 (l0 : List (List D)) (n1 n2 : Int) (l3 l4 l5 l6 l7 l8 l9 l10 : List (List D)) (b11 b12 b13 b14 b15 : Bool)
  (h : Obs [Ret Tryz.prog 175 [.agg [D.sl 4 l0, I n1, I n2], .one (.sl 5 l3)] [.one (B b11)], (!b11) = false, Ret Tryz.prog 175 [.agg [D.sl 4 l0, I n1, I n2], .one (.sl 5 l4)] [.one (B b12)], (!b12) = false, Ret Tryz.prog 175 [.agg [D.sl 4 l0, I n1, I n2], .one (.sl 5 l5)] [.one (B b13)], (!b13) = false, Ret Tryz.prog 264 [.one (.sl 4 l6)] [.one (B b14)], (!b14) = false, ((↑l7.length : Int) != 4) = false, ((↑l8.length : Int) != 4) = false, ((↑l9.length : Int) != 4) = false, qac Tryz.prog (qaa Tryz.f173 0) (spec_WorkerOk_L0 l3 l4 l5 l6 l7 l8 l9 l10 0) (.exit 0) (spec_WorkerOk_X0v2 l3 l4 l5 l6 l7 l8 l9 l10), qac Tryz.prog (qaa Tryz.f173 1) (spec_WorkerOk_L1 l3 l4 l5 l6 l7 l8 l9 l10 0) .ret (spec_WorkerOk_X1 b15)]) :
  Ret Tryz.prog 173 [.agg [D.sl 4 l0, I n1, I n2], .agg [D.sl 5 l3, D.sl 5 l4, D.sl 5 l5, D.sl 4 l6, D.sl 1 l7, D.sl 1 l8, D.sl 1 l9, D.sl 2 l10]] [.one (B b15)] :=
 .of [.res [.one (B b11)], .br false, .res [.one (B b12)], .br false, .res [.one (B b13)], .br false, .res [.one (B b14)], .br false, .br false, .br false, .br false, .loop [] [6, 3, 5] [3] (.exit 0) (spec_WorkerOk_X0v2 l3 l4 l5 l6 l7 l8 l9 l10), .loop [] [7, 5, 3] [3] .ret (spec_WorkerOk_X1 b15)] _ Tryz.func173 rfl (by kernel_rfl) h
def spec_WorkerOk_L2 (l0 l1 l2 l3 l4 l5 l6 l7 : List (List D)) (n8 : Int) : St :=
 { env := envOf 147 [(3, .al (.one (.ptr 3 0))), (8, .al (.one (.v (.int .i64 n8))))], boxes := [(3, [.sl .free 5 l0, .sl .free 5 l1, .sl .free 5 l2, .sl .free 4 l3, .sl .free 1 l4, .sl .free 1 l5, .sl .free 1 l6, .sl .free 2 l7])] }
def spec_WorkerOk_X2 (b0 : Bool) : St :=
 { env := envOf 147 [(4, .al (.one (.sb b0)))], boxes := [] }
theorem spec_WorkerOk_L2_x0 (l3 l4 l5 l6 l7 l8 l9 l10 : List (List D)) (n15 n16 : Int) (b17 b18 : Bool)
  (h : Obs [decide (n15 < (↑l10.length : Int)) = true, 0 ≤ n15, n15 < (↑l10.length : Int), l10[n15.toNat]? = some [I n16, B b17], Ret Tryz.prog 138 [.one (I n16), .one (I 0), .one (I 3)] [.one (B b18)], (!b18) = true]) :
  Tr Tryz.prog (qaa Tryz.f173 2) (spec_WorkerOk_L2 l3 l4 l5 l6 l7 l8 l9 l10 n15) .ret (spec_WorkerOk_X2 false) :=
 .of_loopc (ks := [4]) (bs := []) (ans := [.br true, .el [I n16, B b17], .res [.one (B b18)], .br true]) (by kernel_rfl) h
def spec_WorkerOk_L3 (l0 l1 l2 l3 l4 l5 l6 l7 : List (List D)) (n8 n9 : Int) : St :=
 { env := envOf 147 [(3, .al (.one (.ptr 3 0))), (8, .al (.one (.v (.int .i64 n8)))), (9, .al (.one (.v (.int .i64 n9))))], boxes := [(3, [.sl .free 5 l0, .sl .free 5 l1, .sl .free 5 l2, .sl .free 4 l3, .sl .free 1 l4, .sl .free 1 l5, .sl .free 1 l6, .sl .free 2 l7])] }
def spec_WorkerOk_X3 (b0 : Bool) : St :=
 { env := envOf 147 [(4, .al (.one (.sb b0)))], boxes := [] }
theorem spec_WorkerOk_L3_x0 (l3 l4 l5 l6 l7 l8 l9 l10 : List (List D)) (n15 n19 n20 : Int) (b21 : Bool) (n22 : Int) (b23 : Bool)
  (h : Obs [decide (n19 < n15) = true, 0 ≤ n19, n19 < (↑l10.length : Int), l10[n19.toNat]? = some [I n20, B b21], 0 ≤ n15, n15 < (↑l10.length : Int), l10[n15.toNat]? = some [I n22, B b23], (n20 == n22) = true]) :
  Tr Tryz.prog (qaa Tryz.f173 3) (spec_WorkerOk_L3 l3 l4 l5 l6 l7 l8 l9 l10 n15 n19) .ret (spec_WorkerOk_X3 false) :=
 .of_loopc (ks := [4]) (bs := []) (ans := [.br true, .el [I n20, B b21], .el [I n22, B b23], .br true]) (by kernel_rfl) h
theorem spec_WorkerOk_L3_s1 (l3 l4 l5 l6 l7 l8 l9 l10 : List (List D)) (n15 n19 n20 : Int) (b21 : Bool) (n22 : Int) (b23 : Bool)
  (h : Obs [decide (n19 < n15) = true, 0 ≤ n19, n19 < (↑l10.length : Int), l10[n19.toNat]? = some [I n20, B b21], 0 ≤ n15, n15 < (↑l10.length : Int), l10[n15.toNat]? = some [I n22, B b23], (n20 == n22) = false, inInt .i64 (n19 + 1)]) :
  Tr Tryz.prog (qaa Tryz.f173 3) (spec_WorkerOk_L3 l3 l4 l5 l6 l7 l8 l9 l10 n15 n19) .normal (spec_WorkerOk_L3 l3 l4 l5 l6 l7 l8 l9 l10 n15 (n19 + 1)) :=
 .of_loopc (ks := [9, 8, 3]) (bs := [3]) (ans := [.br true, .el [I n20, B b21], .el [I n22, B b23], .br false]) (by kernel_rfl) h
def spec_WorkerOk_X3v10 (l0 l1 l2 l3 l4 l5 l6 l7 : List (List D)) (n8 : Int) : St :=
 { env := envOf 147 [(3, .al (.one (.ptr 3 0))), (8, .al (.one (.v (.int .i64 n8))))], boxes := [(3, [.sl .free 5 l0, .sl .free 5 l1, .sl .free 5 l2, .sl .free 4 l3, .sl .free 1 l4, .sl .free 1 l5, .sl .free 1 l6, .sl .free 2 l7])] }
theorem spec_WorkerOk_L3_x2 (l3 l4 l5 l6 l7 l8 l9 l10 : List (List D)) (n15 n19 : Int)
  (h : Obs [decide (n19 < n15) = false]) :
  Tr Tryz.prog (qaa Tryz.f173 3) (spec_WorkerOk_L3 l3 l4 l5 l6 l7 l8 l9 l10 n15 n19) (.exit 6) (spec_WorkerOk_X3v10 l3 l4 l5 l6 l7 l8 l9 l10 n15) :=
 .of_loopc (ks := [8, 3]) (bs := [3]) (ans := [.br false]) (by kernel_rfl) h
theorem spec_WorkerOk_L2_x1 (l3 l4 l5 l6 l7 l8 l9 l10 : List (List D)) (n15 n16 : Int) (b17 b18 b19 : Bool)
  (h : Obs [decide (n15 < (↑l10.length : Int)) = true, 0 ≤ n15, n15 < (↑l10.length : Int), l10[n15.toNat]? = some [I n16, B b17], Ret Tryz.prog 138 [.one (I n16), .one (I 0), .one (I 3)] [.one (B b18)], (!b18) = false, qac Tryz.prog (qaa Tryz.f173 3) (spec_WorkerOk_L3 l3 l4 l5 l6 l7 l8 l9 l10 n15 0) .ret (spec_WorkerOk_X3 b19)]) :
  Tr Tryz.prog (qaa Tryz.f173 2) (spec_WorkerOk_L2 l3 l4 l5 l6 l7 l8 l9 l10 n15) .ret (spec_WorkerOk_X2 b19) :=
 .of_loopc (ks := [4]) (bs := []) (ans := [.br true, .el [I n16, B b17], .res [.one (B b18)], .br false, .loop [] [9, 8, 3] [3] .ret (spec_WorkerOk_X3 b19)]) (by kernel_rfl) h
theorem spec_WorkerOk_L2_s2 (l3 l4 l5 l6 l7 l8 l9 l10 : List (List D)) (n15 n16 : Int) (b17 b18 : Bool)
  (h : Obs [decide (n15 < (↑l10.length : Int)) = true, 0 ≤ n15, n15 < (↑l10.length : Int), l10[n15.toNat]? = some [I n16, B b17], Ret Tryz.prog 138 [.one (I n16), .one (I 0), .one (I 3)] [.one (B b18)], (!b18) = false, qac Tryz.prog (qaa Tryz.f173 3) (spec_WorkerOk_L3 l3 l4 l5 l6 l7 l8 l9 l10 n15 0) (.exit 6) (spec_WorkerOk_X3v10 l3 l4 l5 l6 l7 l8 l9 l10 n15), inInt .i64 (n15 + 1)]) :
  Tr Tryz.prog (qaa Tryz.f173 2) (spec_WorkerOk_L2 l3 l4 l5 l6 l7 l8 l9 l10 n15) .normal (spec_WorkerOk_L2 l3 l4 l5 l6 l7 l8 l9 l10 (n15 + 1)) :=
 .of_loopc (ks := [8, 3]) (bs := [3]) (ans := [.br true, .el [I n16, B b17], .res [.one (B b18)], .br false, .loop [] [9, 8, 3] [3] (.exit 6) (spec_WorkerOk_X3v10 l3 l4 l5 l6 l7 l8 l9 l10 n15)]) (by kernel_rfl) h
def spec_WorkerOk_X2v11 : St :=
 { env := envOf 147 [], boxes := [] }
theorem spec_WorkerOk_L2_x3 (l3 l4 l5 l6 l7 l8 l9 l10 : List (List D)) (n15 : Int)
  (h : Obs [decide (n15 < (↑l10.length : Int)) = false]) :
  Tr Tryz.prog (qaa Tryz.f173 2) (spec_WorkerOk_L2 l3 l4 l5 l6 l7 l8 l9 l10 n15) (.exit 4) spec_WorkerOk_X2v11 :=
 .of_loopc (ks := []) (bs := []) (ans := [.br false]) (by kernel_rfl) h
theorem spec_WorkerOk_p9 (l0 : List (List D)) (n1 n2 : Int) (l3 l4 l5 l6 l7 l8 l9 l10 : List (List D)) (b11 b12 b13 b14 b15 : Bool)
  (h : Obs [Ret Tryz.prog 175 [.agg [D.sl 4 l0, I n1, I n2], .one (.sl 5 l3)] [.one (B b11)], (!b11) = false, Ret Tryz.prog 175 [.agg [D.sl 4 l0, I n1, I n2], .one (.sl 5 l4)] [.one (B b12)], (!b12) = false, Ret Tryz.prog 175 [.agg [D.sl 4 l0, I n1, I n2], .one (.sl 5 l5)] [.one (B b13)], (!b13) = false, Ret Tryz.prog 264 [.one (.sl 4 l6)] [.one (B b14)], (!b14) = false, ((↑l7.length : Int) != 4) = false, ((↑l8.length : Int) != 4) = false, ((↑l9.length : Int) != 4) = false, qac Tryz.prog (qaa Tryz.f173 0) (spec_WorkerOk_L0 l3 l4 l5 l6 l7 l8 l9 l10 0) (.exit 0) (spec_WorkerOk_X0v2 l3 l4 l5 l6 l7 l8 l9 l10), qac Tryz.prog (qaa Tryz.f173 1) (spec_WorkerOk_L1 l3 l4 l5 l6 l7 l8 l9 l10 0) (.exit 2) (spec_WorkerOk_X1v5 l3 l4 l5 l6 l7 l8 l9 l10), qac Tryz.prog (qaa Tryz.f173 2) (spec_WorkerOk_L2 l3 l4 l5 l6 l7 l8 l9 l10 0) .ret (spec_WorkerOk_X2 b15)]) :
  Ret Tryz.prog 173 [.agg [D.sl 4 l0, I n1, I n2], .agg [D.sl 5 l3, D.sl 5 l4, D.sl 5 l5, D.sl 4 l6, D.sl 1 l7, D.sl 1 l8, D.sl 1 l9, D.sl 2 l10]] [.one (B b15)] :=
 .of [.res [.one (B b11)], .br false, .res [.one (B b12)], .br false, .res [.one (B b13)], .br false, .res [.one (B b14)], .br false, .br false, .br false, .br false, .loop [] [6, 3, 5] [3] (.exit 0) (spec_WorkerOk_X0v2 l3 l4 l5 l6 l7 l8 l9 l10), .loop [] [7, 5, 3] [3] (.exit 2) (spec_WorkerOk_X1v5 l3 l4 l5 l6 l7 l8 l9 l10), .loop [] [8, 3] [3] .ret (spec_WorkerOk_X2 b15)] _ Tryz.func173 rfl (by kernel_rfl) h
theorem spec_WorkerOk_p10 (l0 : List (List D)) (n1 n2 : Int) (l3 l4 l5 l6 l7 l8 l9 l10 : List (List D)) (b11 b12 b13 b14 : Bool)
  (h : Obs [Ret Tryz.prog 175 [.agg [D.sl 4 l0, I n1, I n2], .one (.sl 5 l3)] [.one (B b11)], (!b11) = false, Ret Tryz.prog 175 [.agg [D.sl 4 l0, I n1, I n2], .one (.sl 5 l4)] [.one (B b12)], (!b12) = false, Ret Tryz.prog 175 [.agg [D.sl 4 l0, I n1, I n2], .one (.sl 5 l5)] [.one (B b13)], (!b13) = false, Ret Tryz.prog 264 [.one (.sl 4 l6)] [.one (B b14)], (!b14) = false, ((↑l7.length : Int) != 4) = false, ((↑l8.length : Int) != 4) = false, ((↑l9.length : Int) != 4) = false, qac Tryz.prog (qaa Tryz.f173 0) (spec_WorkerOk_L0 l3 l4 l5 l6 l7 l8 l9 l10 0) (.exit 0) (spec_WorkerOk_X0v2 l3 l4 l5 l6 l7 l8 l9 l10), qac Tryz.prog (qaa Tryz.f173 1) (spec_WorkerOk_L1 l3 l4 l5 l6 l7 l8 l9 l10 0) (.exit 2) (spec_WorkerOk_X1v5 l3 l4 l5 l6 l7 l8 l9 l10), qac Tryz.prog (qaa Tryz.f173 2) (spec_WorkerOk_L2 l3 l4 l5 l6 l7 l8 l9 l10 0) (.exit 4) spec_WorkerOk_X2v11]) :
  Ret Tryz.prog 173 [.agg [D.sl 4 l0, I n1, I n2], .agg [D.sl 5 l3, D.sl 5 l4, D.sl 5 l5, D.sl 4 l6, D.sl 1 l7, D.sl 1 l8, D.sl 1 l9, D.sl 2 l10]] [.one (B true)] :=
 .of [.res [.one (B b11)], .br false, .res [.one (B b12)], .br false, .res [.one (B b13)], .br false, .res [.one (B b14)], .br false, .br false, .br false, .br false, .loop [] [6, 3, 5] [3] (.exit 0) (spec_WorkerOk_X0v2 l3 l4 l5 l6 l7 l8 l9 l10), .loop [] [7, 5, 3] [3] (.exit 2) (spec_WorkerOk_X1v5 l3 l4 l5 l6 l7 l8 l9 l10), .loop [] [8, 3] [3] (.exit 4) spec_WorkerOk_X2v11] _ Tryz.func173 rfl (by kernel_rfl) h
theorem impl_WorkerOk_p0 (l0 : List (List D)) (n1 n2 : Int) (l3 l4 l5 l6 l7 l8 l9 l10 : List (List D)) (b11 : Bool)
  (h : Obs [Ret Tryz.prog 184 [.agg [D.sl 4 l0, I n1, I n2], .one (.sl 5 l3)] [.one (B b11)], (!b11) = true]) :
  Ret Tryz.prog 182 [.agg [D.sl 4 l0, I n1, I n2], .agg [D.sl 5 l3, D.sl 5 l4, D.sl 5 l5, D.sl 4 l6, D.sl 1 l7, D.sl 1 l8, D.sl 1 l9, D.sl 2 l10]] [.one (B false)] :=
 .of [.res [.one (B b11)], .br true] _ Tryz.func182 rfl (by kernel_rfl) h
theorem impl_WorkerOk_p1 (l0 : List (List D)) (n1 n2 : Int) (l3 l4 l5 l6 l7 l8 l9 l10 : List (List D)) (b11 b12 : Bool)
  (h : Obs [Ret Tryz.prog 184 [.agg [D.sl 4 l0, I n1, I n2], .one (.sl 5 l3)] [.one (B b11)], (!b11) = false, Ret Tryz.prog 184 [.agg [D.sl 4 l0, I n1, I n2], .one (.sl 5 l4)] [.one (B b12)], (!b12) = true]) :
  Ret Tryz.prog 182 [.agg [D.sl 4 l0, I n1, I n2], .agg [D.sl 5 l3, D.sl 5 l4, D.sl 5 l5, D.sl 4 l6, D.sl 1 l7, D.sl 1 l8, D.sl 1 l9, D.sl 2 l10]] [.one (B false)] :=
 .of [.res [.one (B b11)], .br false, .res [.one (B b12)], .br true] _ Tryz.func182 rfl (by kernel_rfl) h
theorem impl_WorkerOk_p2 (l0 : List (List D)) (n1 n2 : Int) (l3 l4 l5 l6 l7 l8 l9 l10 : List (List D)) (b11 b12 b13 : Bool)
  (h : Obs [Ret Tryz.prog 184 [.agg [D.sl 4 l0, I n1, I n2], .one (.sl 5 l3)] [.one (B b11)], (!b11) = false, Ret Tryz.prog 184 [.agg [D.sl 4 l0, I n1, I n2], .one (.sl 5 l4)] [.one (B b12)], (!b12) = false, Ret Tryz.prog 184 [.agg [D.sl 4 l0, I n1, I n2], .one (.sl 5 l5)] [.one (B b13)], (!b13) = true]) :
  Ret Tryz.prog 182 [.agg [D.sl 4 l0, I n1, I n2], .agg [D.sl 5 l3, D.sl 5 l4, D.sl 5 l5, D.sl 4 l6, D.sl 1 l7, D.sl 1 l8, D.sl 1 l9, D.sl 2 l10]] [.one (B false)] :=
 .of [.res [.one (B b11)], .br false, .res [.one (B b12)], .br false, .res [.one (B b13)], .br true] _ Tryz.func182 rfl (by kernel_rfl) h
theorem impl_WorkerOk_p3 (l0 : List (List D)) (n1 n2 : Int) (l3 l4 l5 l6 l7 l8 l9 l10 : List (List D)) (b11 b12 b13 b14 : Bool)
  (h : Obs [Ret Tryz.prog 184 [.agg [D.sl 4 l0, I n1, I n2], .one (.sl 5 l3)] [.one (B b11)], (!b11) = false, Ret Tryz.prog 184 [.agg [D.sl 4 l0, I n1, I n2], .one (.sl 5 l4)] [.one (B b12)], (!b12) = false, Ret Tryz.prog 184 [.agg [D.sl 4 l0, I n1, I n2], .one (.sl 5 l5)] [.one (B b13)], (!b13) = false, Ret Tryz.prog 267 [.one (.sl 4 l6)] [.one (B b14)], (!b14) = true]) :
  Ret Tryz.prog 182 [.agg [D.sl 4 l0, I n1, I n2], .agg [D.sl 5 l3, D.sl 5 l4, D.sl 5 l5, D.sl 4 l6, D.sl 1 l7, D.sl 1 l8, D.sl 1 l9, D.sl 2 l10]] [.one (B false)] :=
 .of [.res [.one (B b11)], .br false, .res [.one (B b12)], .br false, .res [.one (B b13)], .br false, .res [.one (B b14)], .br true] _ Tryz.func182 rfl (by kernel_rfl) h
def impl_WorkerOk_L0 (l0 : List (List D)) (n1 : Int) (l2 l3 l4 l5 l6 l7 l8 l9 : List (List D)) : St :=
 { env := envOf 121 [(3, .al (.one (.ptr 3 0))), (37, .al (.one (.sl .free 5 l0))), (38, .al (.one (.v (.int .i64 (↑l0.length : Int))))), (39, .al (.one (.v (.int .i64 n1))))], boxes := [(3, [.sl .free 5 l2, .sl .free 5 l3, .sl .free 5 l4, .sl .free 4 l5, .sl .free 1 l6, .sl .free 1 l7, .sl .free 1 l8, .sl .free 2 l9])] }
def impl_WorkerOk_X0 (b0 : Bool) : St :=
 { env := envOf 121 [(4, .al (.one (.sb b0)))], boxes := [] }
theorem impl_WorkerOk_L0_x0 (l5 : List (List D)) (n15 : Int) (l16 l17 l18 l19 l20 l21 l22 l23 : List (List D)) (n24 n25 n26 n27 n28 : Int)
  (h : Obs [decide (n15 < (↑l5.length : Int)) = true, 0 ≤ n15, n15 < (↑l5.length : Int), l5[n15.toNat]? = some [I n24, I n25, I n26, I n27, I n28], (n24 != 0) = true]) :
  Tr Tryz.prog (qaa Tryz.f182 0) (impl_WorkerOk_L0 l5 n15 l16 l17 l18 l19 l20 l21 l22 l23) .ret (impl_WorkerOk_X0 false) :=
 .of_loopc (ks := [4]) (bs := []) (ans := [.br true, .el [I n24, I n25, I n26, I n27, I n28], .br true]) (by kernel_rfl) h
theorem impl_WorkerOk_L0_x1 (l5 : List (List D)) (n15 : Int) (l16 l17 l18 l19 l20 l21 l22 l23 : List (List D)) (n24 n25 n26 n27 n28 : Int)
  (h : Obs [decide (n15 < (↑l5.length : Int)) = true, 0 ≤ n15, n15 < (↑l5.length : Int), l5[n15.toNat]? = some [I n24, I n25, I n26, I n27, I n28], (n24 != 0) = false, (n26 != 0) = true]) :
  Tr Tryz.prog (qaa Tryz.f182 0) (impl_WorkerOk_L0 l5 n15 l16 l17 l18 l19 l20 l21 l22 l23) .ret (impl_WorkerOk_X0 false) :=
 .of_loopc (ks := [4]) (bs := []) (ans := [.br true, .el [I n24, I n25, I n26, I n27, I n28], .br false, .br true]) (by kernel_rfl) h
theorem impl_WorkerOk_L0_x2 (l5 : List (List D)) (n15 : Int) (l16 l17 l18 l19 l20 l21 l22 l23 : List (List D)) (n24 n25 n26 n27 n28 n29 n30 n31 n32 n33 : Int)
  (h : Obs [decide (n15 < (↑l5.length : Int)) = true, 0 ≤ n15, n15 < (↑l5.length : Int), l5[n15.toNat]? = some [I n24, I n25, I n26, I n27, I n28], (n24 != 0) = false, (n26 != 0) = false, decide (n15 > 0) = true, inInt .i64 (n15 - 1), 0 ≤ n15 - 1, n15 - 1 < (↑l18.length : Int), l18[(n15 - 1).toNat]? = some [I n29, I n30, I n31, I n32, I n33], decide (n30 > n25) = true]) :
  Tr Tryz.prog (qaa Tryz.f182 0) (impl_WorkerOk_L0 l5 n15 l16 l17 l18 l19 l20 l21 l22 l23) .ret (impl_WorkerOk_X0 false) :=
 .of_loopc (ks := [4]) (bs := []) (ans := [.br true, .el [I n24, I n25, I n26, I n27, I n28], .br false, .br false, .br true, .el [I n29, I n30, I n31, I n32, I n33], .br true]) (by kernel_rfl) h
theorem impl_WorkerOk_L0_s3 (l5 : List (List D)) (n15 : Int) (l16 l17 l18 l19 l20 l21 l22 l23 : List (List D)) (n24 n25 n26 n27 n28 n29 n30 n31 n32 n33 : Int)
  (h : Obs [decide (n15 < (↑l5.length : Int)) = true, 0 ≤ n15, n15 < (↑l5.length : Int), l5[n15.toNat]? = some [I n24, I n25, I n26, I n27, I n28], (n24 != 0) = false, (n26 != 0) = false, decide (n15 > 0) = true, inInt .i64 (n15 - 1), 0 ≤ n15 - 1, n15 - 1 < (↑l18.length : Int), l18[(n15 - 1).toNat]? = some [I n29, I n30, I n31, I n32, I n33], decide (n30 > n25) = false, inInt .i64 (n15 + 1)]) :
  Tr Tryz.prog (qaa Tryz.f182 0) (impl_WorkerOk_L0 l5 n15 l16 l17 l18 l19 l20 l21 l22 l23) .normal (impl_WorkerOk_L0 l5 (n15 + 1) l16 l17 l18 l19 l20 l21 l22 l23) :=
 .of_loopc (ks := [39, 38, 37, 3]) (bs := [3]) (ans := [.br true, .el [I n24, I n25, I n26, I n27, I n28], .br false, .br false, .br true, .el [I n29, I n30, I n31, I n32, I n33], .br false]) (by kernel_rfl) h
theorem impl_WorkerOk_L0_s4 (l5 : List (List D)) (n15 : Int) (l16 l17 l18 l19 l20 l21 l22 l23 : List (List D)) (n24 n25 n26 n27 n28 : Int)
  (h : Obs [decide (n15 < (↑l5.length : Int)) = true, 0 ≤ n15, n15 < (↑l5.length : Int), l5[n15.toNat]? = some [I n24, I n25, I n26, I n27, I n28], (n24 != 0) = false, (n26 != 0) = false, decide (n15 > 0) = false, inInt .i64 (n15 + 1)]) :
  Tr Tryz.prog (qaa Tryz.f182 0) (impl_WorkerOk_L0 l5 n15 l16 l17 l18 l19 l20 l21 l22 l23) .normal (impl_WorkerOk_L0 l5 (n15 + 1) l16 l17 l18 l19 l20 l21 l22 l23) :=
 .of_loopc (ks := [39, 38, 37, 3]) (bs := [3]) (ans := [.br true, .el [I n24, I n25, I n26, I n27, I n28], .br false, .br false, .br false]) (by kernel_rfl) h
def impl_WorkerOk_X0v2 (l0 l1 l2 l3 l4 l5 l6 l7 : List (List D)) : St :=
 { env := envOf 121 [(3, .al (.one (.ptr 3 0)))], boxes := [(3, [.sl .free 5 l0, .sl .free 5 l1, .sl .free 5 l2, .sl .free 4 l3, .sl .free 1 l4, .sl .free 1 l5, .sl .free 1 l6, .sl .free 2 l7])] }
theorem impl_WorkerOk_L0_x5 (l5 : List (List D)) (n15 : Int) (l16 l17 l18 l19 l20 l21 l22 l23 : List (List D))
  (h : Obs [decide (n15 < (↑l5.length : Int)) = false]) :
  Tr Tryz.prog (qaa Tryz.f182 0) (impl_WorkerOk_L0 l5 n15 l16 l17 l18 l19 l20 l21 l22 l23) (.exit 0) (impl_WorkerOk_X0v2 l16 l17 l18 l19 l20 l21 l22 l23) :=
 .of_loopc (ks := [3]) (bs := [3]) (ans := [.br false]) (by kernel_rfl) h
theorem impl_WorkerOk_p4 (l0 : List (List D)) (n1 n2 : Int) (l3 l4 l5 l6 l7 l8 l9 l10 : List (List D)) (b11 b12 b13 b14 b15 : Bool)
  (h : Obs [Ret Tryz.prog 184 [.agg [D.sl 4 l0, I n1, I n2], .one (.sl 5 l3)] [.one (B b11)], (!b11) = false, Ret Tryz.prog 184 [.agg [D.sl 4 l0, I n1, I n2], .one (.sl 5 l4)] [.one (B b12)], (!b12) = false, Ret Tryz.prog 184 [.agg [D.sl 4 l0, I n1, I n2], .one (.sl 5 l5)] [.one (B b13)], (!b13) = false, Ret Tryz.prog 267 [.one (.sl 4 l6)] [.one (B b14)], (!b14) = false, qac Tryz.prog (qaa Tryz.f182 0) (impl_WorkerOk_L0 l5 0 l3 l4 l5 l6 l7 l8 l9 l10) .ret (impl_WorkerOk_X0 b15)]) :
  Ret Tryz.prog 182 [.agg [D.sl 4 l0, I n1, I n2], .agg [D.sl 5 l3, D.sl 5 l4, D.sl 5 l5, D.sl 4 l6, D.sl 1 l7, D.sl 1 l8, D.sl 1 l9, D.sl 2 l10]] [.one (B b15)] :=
 .of [.res [.one (B b11)], .br false, .res [.one (B b12)], .br false, .res [.one (B b13)], .br false, .res [.one (B b14)], .br false, .loop [] [39, 38, 37, 3] [3] .ret (impl_WorkerOk_X0 b15)] _ Tryz.func182 rfl (by kernel_rfl) h
theorem impl_WorkerOk_p5 (l0 : List (List D)) (n1 n2 : Int) (l3 l4 l5 l6 l7 l8 l9 l10 : List (List D)) (b11 b12 b13 b14 : Bool) (l15 l16 l17 l18 l19 l20 l21 l22 : List (List D))
  (h : Obs [Ret Tryz.prog 184 [.agg [D.sl 4 l0, I n1, I n2], .one (.sl 5 l3)] [.one (B b11)], (!b11) = false, Ret Tryz.prog 184 [.agg [D.sl 4 l0, I n1, I n2], .one (.sl 5 l4)] [.one (B b12)], (!b12) = false, Ret Tryz.prog 184 [.agg [D.sl 4 l0, I n1, I n2], .one (.sl 5 l5)] [.one (B b13)], (!b13) = false, Ret Tryz.prog 267 [.one (.sl 4 l6)] [.one (B b14)], (!b14) = false, qac Tryz.prog (qaa Tryz.f182 0) (impl_WorkerOk_L0 l5 0 l3 l4 l5 l6 l7 l8 l9 l10) (.exit 0) (impl_WorkerOk_X0v2 l15 l16 l17 l18 l19 l20 l21 l22), ((↑l19.length : Int) != 4) = true]) :
  Ret Tryz.prog 182 [.agg [D.sl 4 l0, I n1, I n2], .agg [D.sl 5 l3, D.sl 5 l4, D.sl 5 l5, D.sl 4 l6, D.sl 1 l7, D.sl 1 l8, D.sl 1 l9, D.sl 2 l10]] [.one (B false)] :=
 .of [.res [.one (B b11)], .br false, .res [.one (B b12)], .br false, .res [.one (B b13)], .br false, .res [.one (B b14)], .br false, .loop [] [39, 38, 37, 3] [3] (.exit 0) (impl_WorkerOk_X0v2 l15 l16 l17 l18 l19 l20 l21 l22), .br true] _ Tryz.func182 rfl (by kernel_rfl) h
theorem impl_WorkerOk_p6 (l0 : List (List D)) (n1 n2 : Int) (l3 l4 l5 l6 l7 l8 l9 l10 : List (List D)) (b11 b12 b13 b14 : Bool) (l15 l16 l17 l18 l19 l20 l21 l22 : List (List D))
  (h : Obs [Ret Tryz.prog 184 [.agg [D.sl 4 l0, I n1, I n2], .one (.sl 5 l3)] [.one (B b11)], (!b11) = false, Ret Tryz.prog 184 [.agg [D.sl 4 l0, I n1, I n2], .one (.sl 5 l4)] [.one (B b12)], (!b12) = false, Ret Tryz.prog 184 [.agg [D.sl 4 l0, I n1, I n2], .one (.sl 5 l5)] [.one (B b13)], (!b13) = false, Ret Tryz.prog 267 [.one (.sl 4 l6)] [.one (B b14)], (!b14) = false, qac Tryz.prog (qaa Tryz.f182 0) (impl_WorkerOk_L0 l5 0 l3 l4 l5 l6 l7 l8 l9 l10) (.exit 0) (impl_WorkerOk_X0v2 l15 l16 l17 l18 l19 l20 l21 l22), ((↑l19.length : Int) != 4) = false, ((↑l20.length : Int) != 4) = true]) :
  Ret Tryz.prog 182 [.agg [D.sl 4 l0, I n1, I n2], .agg [D.sl 5 l3, D.sl 5 l4, D.sl 5 l5, D.sl 4 l6, D.sl 1 l7, D.sl 1 l8, D.sl 1 l9, D.sl 2 l10]] [.one (B false)] :=
 .of [.res [.one (B b11)], .br false, .res [.one (B b12)], .br false, .res [.one (B b13)], .br false, .res [.one (B b14)], .br false, .loop [] [39, 38, 37, 3] [3] (.exit 0) (impl_WorkerOk_X0v2 l15 l16 l17 l18 l19 l20 l21 l22), .br false, .br true] _ Tryz.func182 rfl (by kernel_rfl) h
theorem impl_WorkerOk_p7 (l0 : List (List D)) (n1 n2 : Int) (l3 l4 l5 l6 l7 l8 l9 l10 : List (List D)) (b11 b12 b13 b14 : Bool) (l15 l16 l17 l18 l19 l20 l21 l22 : List (List D))
  (h : Obs [Ret Tryz.prog 184 [.agg [D.sl 4 l0, I n1, I n2], .one (.sl 5 l3)] [.one (B b11)], (!b11) = false, Ret Tryz.prog 184 [.agg [D.sl 4 l0, I n1, I n2], .one (.sl 5 l4)] [.one (B b12)], (!b12) = false, Ret Tryz.prog 184 [.agg [D.sl 4 l0, I n1, I n2], .one (.sl 5 l5)] [.one (B b13)], (!b13) = false, Ret Tryz.prog 267 [.one (.sl 4 l6)] [.one (B b14)], (!b14) = false, qac Tryz.prog (qaa Tryz.f182 0) (impl_WorkerOk_L0 l5 0 l3 l4 l5 l6 l7 l8 l9 l10) (.exit 0) (impl_WorkerOk_X0v2 l15 l16 l17 l18 l19 l20 l21 l22), ((↑l19.length : Int) != 4) = false, ((↑l20.length : Int) != 4) = false, ((↑l21.length : Int) != 4) = true]) :
  Ret Tryz.prog 182 [.agg [D.sl 4 l0, I n1, I n2], .agg [D.sl 5 l3, D.sl 5 l4, D.sl 5 l5, D.sl 4 l6, D.sl 1 l7, D.sl 1 l8, D.sl 1 l9, D.sl 2 l10]] [.one (B false)] :=
 .of [.res [.one (B b11)], .br false, .res [.one (B b12)], .br false, .res [.one (B b13)], .br false, .res [.one (B b14)], .br false, .loop [] [39, 38, 37, 3] [3] (.exit 0) (impl_WorkerOk_X0v2 l15 l16 l17 l18 l19 l20 l21 l22), .br false, .br false, .br true] _ Tryz.func182 rfl (by kernel_rfl) h
def impl_WorkerOk_L1 (l0 l1 l2 l3 l4 l5 l6 l7 : List (List D)) (n8 : Int) : St :=
 { env := envOf 121 [(3, .al (.one (.ptr 3 0))), (89, .al (.one (.sl .free 1 l4))), (90, .al (.one (.v (.int .i64 (↑l4.length : Int))))), (91, .al (.one (.v (.int .i64 n8))))], boxes := [(3, [.sl .free 5 l0, .sl .free 5 l1, .sl .free 5 l2, .sl .free 4 l3, .sl .free 1 l4, .sl .free 1 l5, .sl .free 1 l6, .sl .free 2 l7])] }
def impl_WorkerOk_X1 (b0 : Bool) : St :=
 { env := envOf 121 [(4, .al (.one (.sb b0)))], boxes := [] }
theorem impl_WorkerOk_L1_x0 (l15 l16 l17 l18 l19 l20 l21 l22 : List (List D)) (n23 n24 : Int) (b25 : Bool)
  (h : Obs [decide (n23 < (↑l19.length : Int)) = true, 0 ≤ n23, n23 < (↑l19.length : Int), l19[n23.toNat]? = some [I n24], Ret Tryz.prog 119 [.one (I n24), .one (I (-1000000)), .one (I 1000000)] [.one (B b25)], (!b25) = true]) :
  Tr Tryz.prog (qaa Tryz.f182 1) (impl_WorkerOk_L1 l15 l16 l17 l18 l19 l20 l21 l22 n23) .ret (impl_WorkerOk_X1 false) :=
 .of_loopc (ks := [4]) (bs := []) (ans := [.br true, .el [I n24], .res [.one (B b25)], .br true]) (by kernel_rfl) h
theorem impl_WorkerOk_L1_s1 (l15 l16 l17 l18 l19 l20 l21 l22 : List (List D)) (n23 n24 : Int) (b25 : Bool)
  (h : Obs [decide (n23 < (↑l19.length : Int)) = true, 0 ≤ n23, n23 < (↑l19.length : Int), l19[n23.toNat]? = some [I n24], Ret Tryz.prog 119 [.one (I n24), .one (I (-1000000)), .one (I 1000000)] [.one (B b25)], (!b25) = false, inInt .i64 (n23 + 1)]) :
  Tr Tryz.prog (qaa Tryz.f182 1) (impl_WorkerOk_L1 l15 l16 l17 l18 l19 l20 l21 l22 n23) .normal (impl_WorkerOk_L1 l15 l16 l17 l18 l19 l20 l21 l22 (n23 + 1)) :=
 .of_loopc (ks := [91, 90, 89, 3]) (bs := [3]) (ans := [.br true, .el [I n24], .res [.one (B b25)], .br false]) (by kernel_rfl) h
def impl_WorkerOk_X1v5 (l0 l1 l2 l3 l4 l5 l6 l7 : List (List D)) : St :=
 { env := envOf 121 [(3, .al (.one (.ptr 3 0)))], boxes := [(3, [.sl .free 5 l0, .sl .free 5 l1, .sl .free 5 l2, .sl .free 4 l3, .sl .free 1 l4, .sl .free 1 l5, .sl .free 1 l6, .sl .free 2 l7])] }
theorem impl_WorkerOk_L1_x2 (l15 l16 l17 l18 l19 l20 l21 l22 : List (List D)) (n23 : Int)
  (h : Obs [decide (n23 < (↑l19.length : Int)) = false]) :
  Tr Tryz.prog (qaa Tryz.f182 1) (impl_WorkerOk_L1 l15 l16 l17 l18 l19 l20 l21 l22 n23) (.exit 2) (impl_WorkerOk_X1v5 l15 l16 l17 l18 l19 l20 l21 l22) :=
 .of_loopc (ks := [3]) (bs := [3]) (ans := [.br false]) (by kernel_rfl) h
theorem impl_WorkerOk_p8 (l0 : List (List D)) (n1 n2 : Int) (l3 l4 l5 l6 l7 l8 l9 l10 : List (List D)) (b11 b12 b13 b14 : Bool) (l15 l16 l17 l18 l19 l20 l21 l22 : List (List D)) (b23 : Bool)
  (h : Obs [Ret Tryz.prog 184 [.agg [D.sl 4 l0, I n1, I n2], .one (.sl 5 l3)] [.one (B b11)], (!b11) = false, Ret Tryz.prog 184 [.agg [D.sl 4 l0, I n1, I n2], .one (.sl 5 l4)] [.one (B b12)], (!b12) = false, Ret Tryz.prog 184 [.agg [D.sl 4 l0, I n1, I n2], .one (.sl 5 l5)] [.one (B b13)], (!b13) = false, Ret Tryz.prog 267 [.one (.sl 4 l6)] [.one (B b14)], (!b14) = false, qac Tryz.prog (qaa Tryz.f182 0) (impl_WorkerOk_L0 l5 0 l3 l4 l5 l6 l7 l8 l9 l10) (.exit 0) (impl_WorkerOk_X0v2 l15 l16 l17 l18 l19 l20 l21 l22), ((↑l19.length : Int) != 4) = false, ((↑l20.length : Int) != 4) = false, ((↑l21.length : Int) != 4) = false, qac Tryz.prog (qaa Tryz.f182 1) (impl_WorkerOk_L1 l15 l16 l17 l18 l19 l20 l21 l22 0) .ret (impl_WorkerOk_X1 b23)]) :
  Ret Tryz.prog 182 [.agg [D.sl 4 l0, I n1, I n2], .agg [D.sl 5 l3, D.sl 5 l4, D.sl 5 l5, D.sl 4 l6, D.sl 1 l7, D.sl 1 l8, D.sl 1 l9, D.sl 2 l10]] [.one (B b23)] :=
 .of [.res [.one (B b11)], .br false, .res [.one (B b12)], .br false, .res [.one (B b13)], .br false, .res [.one (B b14)], .br false, .loop [] [39, 38, 37, 3] [3] (.exit 0) (impl_WorkerOk_X0v2 l15 l16 l17 l18 l19 l20 l21 l22), .br false, .br false, .br false, .loop [] [91, 90, 89, 3] [3] .ret (impl_WorkerOk_X1 b23)] _ Tryz.func182 rfl (by kernel_rfl) h
def impl_WorkerOk_L2 (l0 : List (List D)) (n1 : Int) (l2 l3 l4 l5 l6 l7 l8 l9 : List (List D)) : St :=
 { env := envOf 121 [(3, .al (.one (.ptr 3 0))), (100, .al (.one (.sl .free 2 l0))), (101, .al (.one (.v (.int .i64 (↑l0.length : Int))))), (102, .al (.one (.v (.int .i64 n1))))], boxes := [(3, [.sl .free 5 l2, .sl .free 5 l3, .sl .free 5 l4, .sl .free 4 l5, .sl .free 1 l6, .sl .free 1 l7, .sl .free 1 l8, .sl .free 2 l9])] }
def impl_WorkerOk_X2 (b0 : Bool) : St :=
 { env := envOf 121 [(4, .al (.one (.sb b0)))], boxes := [] }
theorem impl_WorkerOk_L2_x0 (l22 : List (List D)) (n23 : Int) (l24 l25 l26 l27 l28 l29 l30 l31 : List (List D)) (n32 : Int) (b33 b34 : Bool)
  (h : Obs [decide (n23 < (↑l22.length : Int)) = true, 0 ≤ n23, n23 < (↑l22.length : Int), l22[n23.toNat]? = some [I n32, B b33], Ret Tryz.prog 119 [.one (I n32), .one (I 0), .one (I 3)] [.one (B b34)], (!b34) = true]) :
  Tr Tryz.prog (qaa Tryz.f182 2) (impl_WorkerOk_L2 l22 n23 l24 l25 l26 l27 l28 l29 l30 l31) .ret (impl_WorkerOk_X2 false) :=
 .of_loopc (ks := [4]) (bs := []) (ans := [.br true, .el [I n32, B b33], .res [.one (B b34)], .br true]) (by kernel_rfl) h
theorem impl_WorkerOk_L2_x1 (l22 : List (List D)) (n23 : Int) (l24 l25 l26 l27 l28 l29 l30 l31 : List (List D)) (n32 : Int) (b33 b34 b35 : Bool)
  (h : Obs [decide (n23 < (↑l22.length : Int)) = true, 0 ≤ n23, n23 < (↑l22.length : Int), l22[n23.toNat]? = some [I n32, B b33], Ret Tryz.prog 119 [.one (I n32), .one (I 0), .one (I 3)] [.one (B b34)], (!b34) = false, (0 : Int) ≤ none.getD 0, none.getD 0 ≤ (some n23).getD (↑l31.length : Int), (some n23).getD (↑l31.length : Int) ≤ (↑l31.length : Int), Ret Tryz.prog 206 [.one (.sl 2 (List.take (((some n23).getD (↑l31.length : Int)).toNat - 0) (List.drop 0 l31))), .one (I n32)] [.one (B b35)], b35 = true]) :
  Tr Tryz.prog (qaa Tryz.f182 2) (impl_WorkerOk_L2 l22 n23 l24 l25 l26 l27 l28 l29 l30 l31) .ret (impl_WorkerOk_X2 false) :=
 .of_loopc (ks := [4]) (bs := []) (ans := [.br true, .el [I n32, B b33], .res [.one (B b34)], .br false, .res [.one (B b35)], .br true]) (by kernel_rfl) h
theorem impl_WorkerOk_L2_s2 (l22 : List (List D)) (n23 : Int) (l24 l25 l26 l27 l28 l29 l30 l31 : List (List D)) (n32 : Int) (b33 b34 b35 : Bool)
  (h : Obs [decide (n23 < (↑l22.length : Int)) = true, 0 ≤ n23, n23 < (↑l22.length : Int), l22[n23.toNat]? = some [I n32, B b33], Ret Tryz.prog 119 [.one (I n32), .one (I 0), .one (I 3)] [.one (B b34)], (!b34) = false, (0 : Int) ≤ none.getD 0, none.getD 0 ≤ (some n23).getD (↑l31.length : Int), (some n23).getD (↑l31.length : Int) ≤ (↑l31.length : Int), Ret Tryz.prog 206 [.one (.sl 2 (List.take (((some n23).getD (↑l31.length : Int)).toNat - 0) (List.drop 0 l31))), .one (I n32)] [.one (B b35)], b35 = false, inInt .i64 (n23 + 1)]) :
  Tr Tryz.prog (qaa Tryz.f182 2) (impl_WorkerOk_L2 l22 n23 l24 l25 l26 l27 l28 l29 l30 l31) .normal (impl_WorkerOk_L2 l22 (n23 + 1) l24 l25 l26 l27 l28 l29 l30 l31) :=
 .of_loopc (ks := [102, 101, 100, 3]) (bs := [3]) (ans := [.br true, .el [I n32, B b33], .res [.one (B b34)], .br false, .res [.one (B b35)], .br false]) (by kernel_rfl) h
def impl_WorkerOk_X2v8 : St :=
 { env := envOf 121 [], boxes := [] }
theorem impl_WorkerOk_L2_x3 (l22 : List (List D)) (n23 : Int) (l24 l25 l26 l27 l28 l29 l30 l31 : List (List D))
  (h : Obs [decide (n23 < (↑l22.length : Int)) = false]) :
  Tr Tryz.prog (qaa Tryz.f182 2) (impl_WorkerOk_L2 l22 n23 l24 l25 l26 l27 l28 l29 l30 l31) (.exit 4) impl_WorkerOk_X2v8 :=
 .of_loopc (ks := []) (bs := []) (ans := [.br false]) (by kernel_rfl) h
theorem impl_WorkerOk_p9 (l0 : List (List D)) (n1 n2 : Int) (l3 l4 l5 l6 l7 l8 l9 l10 : List (List D)) (b11 b12 b13 b14 : Bool) (l15 l16 l17 l18 l19 l20 l21 l22 : List (List D)) (b23 : Bool)
  (h : Obs [Ret Tryz.prog 184 [.agg [D.sl 4 l0, I n1, I n2], .one (.sl 5 l3)] [.one (B b11)], (!b11) = false, Ret Tryz.prog 184 [.agg [D.sl 4 l0, I n1, I n2], .one (.sl 5 l4)] [.one (B b12)], (!b12) = false, Ret Tryz.prog 184 [.agg [D.sl 4 l0, I n1, I n2], .one (.sl 5 l5)] [.one (B b13)], (!b13) = false, Ret Tryz.prog 267 [.one (.sl 4 l6)] [.one (B b14)], (!b14) = false, qac Tryz.prog (qaa Tryz.f182 0) (impl_WorkerOk_L0 l5 0 l3 l4 l5 l6 l7 l8 l9 l10) (.exit 0) (impl_WorkerOk_X0v2 l15 l16 l17 l18 l19 l20 l21 l22), ((↑l19.length : Int) != 4) = false, ((↑l20.length : Int) != 4) = false, ((↑l21.length : Int) != 4) = false, qac Tryz.prog (qaa Tryz.f182 1) (impl_WorkerOk_L1 l15 l16 l17 l18 l19 l20 l21 l22 0) (.exit 2) (impl_WorkerOk_X1v5 l15 l16 l17 l18 l19 l20 l21 l22), qac Tryz.prog (qaa Tryz.f182 2) (impl_WorkerOk_L2 l22 0 l15 l16 l17 l18 l19 l20 l21 l22) .ret (impl_WorkerOk_X2 b23)]) :
  Ret Tryz.prog 182 [.agg [D.sl 4 l0, I n1, I n2], .agg [D.sl 5 l3, D.sl 5 l4, D.sl 5 l5, D.sl 4 l6, D.sl 1 l7, D.sl 1 l8, D.sl 1 l9, D.sl 2 l10]] [.one (B b23)] :=
 .of [.res [.one (B b11)], .br false, .res [.one (B b12)], .br false, .res [.one (B b13)], .br false, .res [.one (B b14)], .br false, .loop [] [39, 38, 37, 3] [3] (.exit 0) (impl_WorkerOk_X0v2 l15 l16 l17 l18 l19 l20 l21 l22), .br false, .br false, .br false, .loop [] [91, 90, 89, 3] [3] (.exit 2) (impl_WorkerOk_X1v5 l15 l16 l17 l18 l19 l20 l21 l22), .loop [] [102, 101, 100, 3] [3] .ret (impl_WorkerOk_X2 b23)] _ Tryz.func182 rfl (by kernel_rfl) h
theorem impl_WorkerOk_p10 (l0 : List (List D)) (n1 n2 : Int) (l3 l4 l5 l6 l7 l8 l9 l10 : List (List D)) (b11 b12 b13 b14 : Bool) (l15 l16 l17 l18 l19 l20 l21 l22 : List (List D))
  (h : Obs [Ret Tryz.prog 184 [.agg [D.sl 4 l0, I n1, I n2], .one (.sl 5 l3)] [.one (B b11)], (!b11) = false, Ret Tryz.prog 184 [.agg [D.sl 4 l0, I n1, I n2], .one (.sl 5 l4)] [.one (B b12)], (!b12) = false, Ret Tryz.prog 184 [.agg [D.sl 4 l0, I n1, I n2], .one (.sl 5 l5)] [.one (B b13)], (!b13) = false, Ret Tryz.prog 267 [.one (.sl 4 l6)] [.one (B b14)], (!b14) = false, qac Tryz.prog (qaa Tryz.f182 0) (impl_WorkerOk_L0 l5 0 l3 l4 l5 l6 l7 l8 l9 l10) (.exit 0) (impl_WorkerOk_X0v2 l15 l16 l17 l18 l19 l20 l21 l22), ((↑l19.length : Int) != 4) = false, ((↑l20.length : Int) != 4) = false, ((↑l21.length : Int) != 4) = false, qac Tryz.prog (qaa Tryz.f182 1) (impl_WorkerOk_L1 l15 l16 l17 l18 l19 l20 l21 l22 0) (.exit 2) (impl_WorkerOk_X1v5 l15 l16 l17 l18 l19 l20 l21 l22), qac Tryz.prog (qaa Tryz.f182 2) (impl_WorkerOk_L2 l22 0 l15 l16 l17 l18 l19 l20 l21 l22) (.exit 4) impl_WorkerOk_X2v8]) :
  Ret Tryz.prog 182 [.agg [D.sl 4 l0, I n1, I n2], .agg [D.sl 5 l3, D.sl 5 l4, D.sl 5 l5, D.sl 4 l6, D.sl 1 l7, D.sl 1 l8, D.sl 1 l9, D.sl 2 l10]] [.one (B true)] :=
 .of [.res [.one (B b11)], .br false, .res [.one (B b12)], .br false, .res [.one (B b13)], .br false, .res [.one (B b14)], .br false, .loop [] [39, 38, 37, 3] [3] (.exit 0) (impl_WorkerOk_X0v2 l15 l16 l17 l18 l19 l20 l21 l22), .br false, .br false, .br false, .loop [] [91, 90, 89, 3] [3] (.exit 2) (impl_WorkerOk_X1v5 l15 l16 l17 l18 l19 l20 l21 l22), .loop [] [102, 101, 100, 3] [3] (.exit 4) impl_WorkerOk_X2v8] _ Tryz.func182 rfl (by kernel_rfl) h
def spec_LinkOk_L0 (n0 : Int) (l1 : List (List D)) (n2 n3 n4 n5 n6 : Int) : St :=
 { env := envOf 70 [(1, .al (.one (.ptr 1 0))), (3, .al (.one (.v (.int .i64 n6))))], boxes := [(1, [.v (.int .i64 n0), .sl .free 5 l1, .v (.int .i64 n2), .v (.int .i64 n3), .v (.int .i64 n4), .v (.int .i64 n5)])] }
def spec_LinkOk_X0 (b0 : Bool) : St :=
 { env := envOf 70 [(2, .al (.one (.sb b0)))], boxes := [] }
theorem spec_LinkOk_L0_x0 (n0 : Int) (l1 : List (List D)) (n2 n3 n4 n5 n6 n7 n8 n9 n10 n11 : Int) (b12 : Bool)
  (h : Obs [decide (n6 < (↑l1.length : Int)) = true, 0 ≤ n6, n6 < (↑l1.length : Int), l1[n6.toNat]? = some [I n7, I n8, I n9, I n10, I n11], Ret Tryz.prog 141 [.agg [I n7, I n8, I n9, I n10, I n11]] [.one (B b12)], (!b12) = true]) :
  Tr Tryz.prog (qaa Tryz.f174 0) (spec_LinkOk_L0 n0 l1 n2 n3 n4 n5 n6) .ret (spec_LinkOk_X0 false) :=
 .of_loopc (ks := [2]) (bs := []) (ans := [.br true, .el [I n7, I n8, I n9, I n10, I n11], .res [.one (B b12)], .br true]) (by kernel_rfl) h
theorem spec_LinkOk_L0_s1 (n0 : Int) (l1 : List (List D)) (n2 n3 n4 n5 n6 n7 n8 n9 n10 n11 : Int) (b12 : Bool)
  (h : Obs [decide (n6 < (↑l1.length : Int)) = true, 0 ≤ n6, n6 < (↑l1.length : Int), l1[n6.toNat]? = some [I n7, I n8, I n9, I n10, I n11], Ret Tryz.prog 141 [.agg [I n7, I n8, I n9, I n10, I n11]] [.one (B b12)], (!b12) = false, inInt .i64 (n6 + 1)]) :
  Tr Tryz.prog (qaa Tryz.f174 0) (spec_LinkOk_L0 n0 l1 n2 n3 n4 n5 n6) .normal (spec_LinkOk_L0 n0 l1 n2 n3 n4 n5 (n6 + 1)) :=
 .of_loopc (ks := [3, 1]) (bs := [1]) (ans := [.br true, .el [I n7, I n8, I n9, I n10, I n11], .res [.one (B b12)], .br false]) (by kernel_rfl) h
def spec_LinkOk_X0v2 (n0 : Int) (l1 : List (List D)) (n2 n3 n4 n5 : Int) : St :=
 { env := envOf 70 [(1, .al (.one (.ptr 1 0)))], boxes := [(1, [.v (.int .i64 n0), .sl .free 5 l1, .v (.int .i64 n2), .v (.int .i64 n3), .v (.int .i64 n4), .v (.int .i64 n5)])] }
theorem spec_LinkOk_L0_x2 (n0 : Int) (l1 : List (List D)) (n2 n3 n4 n5 n6 : Int)
  (h : Obs [decide (n6 < (↑l1.length : Int)) = false]) :
  Tr Tryz.prog (qaa Tryz.f174 0) (spec_LinkOk_L0 n0 l1 n2 n3 n4 n5 n6) (.exit 0) (spec_LinkOk_X0v2 n0 l1 n2 n3 n4 n5) :=
 .of_loopc (ks := [1]) (bs := [1]) (ans := [.br false]) (by kernel_rfl) h
theorem spec_LinkOk_p0 (n0 : Int) (l1 : List (List D)) (n2 n3 n4 n5 : Int) (b6 : Bool)
  (h : Obs [qac Tryz.prog (qaa Tryz.f174 0) (spec_LinkOk_L0 n0 l1 n2 n3 n4 n5 0) .ret (spec_LinkOk_X0 b6)]) :
  Ret Tryz.prog 174 [.agg [I n0, D.sl 5 l1, I n2, I n3, I n4, I n5]] [.one (B b6)] :=
 .of [.loop [] [3, 1] [1] .ret (spec_LinkOk_X0 b6)] _ Tryz.func174 rfl (by kernel_rfl) h
theorem spec_LinkOk_p1 (n0 : Int) (l1 : List (List D)) (n2 n3 n4 n5 : Int) (b6 b7 b8 b9 : Bool)
  (h : Obs [qac Tryz.prog (qaa Tryz.f174 0) (spec_LinkOk_L0 n0 l1 n2 n3 n4 n5 0) (.exit 0) (spec_LinkOk_X0v2 n0 l1 n2 n3 n4 n5), Ret Tryz.prog 138 [.one (I n0), .one (I 1), .one (I 4)] [.one (B b6)], b6 = true, Ret Tryz.prog 138 [.one (I n2), .one (I 0), .one (I n0)] [.one (B b7)], b7 = true, Ret Tryz.prog 138 [.one (I n3), .one (I 0), .one (I n0)] [.one (B b8)], b8 = true, inInt .i64 (n2 + n3), inInt .i64 (n2 + n3 + (↑l1.length : Int)), (n2 + n3 + (↑l1.length : Int) == n0) = true, Ret Tryz.prog 138 [.one (I n4), .one (I 0), .one (I 1000000000)] [.one (B b9)], b9 = true, inInt .i64 (n4 - (↑l1.length : Int)), (n5 == n4 - (↑l1.length : Int)) = true]) :
  Ret Tryz.prog 174 [.agg [I n0, D.sl 5 l1, I n2, I n3, I n4, I n5]] [.one (B (decide (n5 ≥ 0)))] :=
 .of [.loop [] [3, 1] [1] (.exit 0) (spec_LinkOk_X0v2 n0 l1 n2 n3 n4 n5), .res [.one (B b6)], .br true, .res [.one (B b7)], .br true, .res [.one (B b8)], .br true, .br true, .res [.one (B b9)], .br true, .br true] _ Tryz.func174 rfl (by kernel_rfl) h
theorem spec_LinkOk_p2 (n0 : Int) (l1 : List (List D)) (n2 n3 n4 n5 : Int) (b6 b7 b8 b9 : Bool)
  (h : Obs [qac Tryz.prog (qaa Tryz.f174 0) (spec_LinkOk_L0 n0 l1 n2 n3 n4 n5 0) (.exit 0) (spec_LinkOk_X0v2 n0 l1 n2 n3 n4 n5), Ret Tryz.prog 138 [.one (I n0), .one (I 1), .one (I 4)] [.one (B b6)], b6 = true, Ret Tryz.prog 138 [.one (I n2), .one (I 0), .one (I n0)] [.one (B b7)], b7 = true, Ret Tryz.prog 138 [.one (I n3), .one (I 0), .one (I n0)] [.one (B b8)], b8 = true, inInt .i64 (n2 + n3), inInt .i64 (n2 + n3 + (↑l1.length : Int)), (n2 + n3 + (↑l1.length : Int) == n0) = true, Ret Tryz.prog 138 [.one (I n4), .one (I 0), .one (I 1000000000)] [.one (B b9)], b9 = true, inInt .i64 (n4 - (↑l1.length : Int)), (n5 == n4 - (↑l1.length : Int)) = false]) :
  Ret Tryz.prog 174 [.agg [I n0, D.sl 5 l1, I n2, I n3, I n4, I n5]] [.one (B false)] :=
 .of [.loop [] [3, 1] [1] (.exit 0) (spec_LinkOk_X0v2 n0 l1 n2 n3 n4 n5), .res [.one (B b6)], .br true, .res [.one (B b7)], .br true, .res [.one (B b8)], .br true, .br true, .res [.one (B b9)], .br true, .br false] _ Tryz.func174 rfl (by kernel_rfl) h
theorem spec_LinkOk_p3 (n0 : Int) (l1 : List (List D)) (n2 n3 n4 n5 : Int) (b6 b7 b8 b9 : Bool)
  (h : Obs [qac Tryz.prog (qaa Tryz.f174 0) (spec_LinkOk_L0 n0 l1 n2 n3 n4 n5 0) (.exit 0) (spec_LinkOk_X0v2 n0 l1 n2 n3 n4 n5), Ret Tryz.prog 138 [.one (I n0), .one (I 1), .one (I 4)] [.one (B b6)], b6 = true, Ret Tryz.prog 138 [.one (I n2), .one (I 0), .one (I n0)] [.one (B b7)], b7 = true, Ret Tryz.prog 138 [.one (I n3), .one (I 0), .one (I n0)] [.one (B b8)], b8 = true, inInt .i64 (n2 + n3), inInt .i64 (n2 + n3 + (↑l1.length : Int)), (n2 + n3 + (↑l1.length : Int) == n0) = true, Ret Tryz.prog 138 [.one (I n4), .one (I 0), .one (I 1000000000)] [.one (B b9)], b9 = false]) :
  Ret Tryz.prog 174 [.agg [I n0, D.sl 5 l1, I n2, I n3, I n4, I n5]] [.one (B false)] :=
 .of [.loop [] [3, 1] [1] (.exit 0) (spec_LinkOk_X0v2 n0 l1 n2 n3 n4 n5), .res [.one (B b6)], .br true, .res [.one (B b7)], .br true, .res [.one (B b8)], .br true, .br true, .res [.one (B b9)], .br false] _ Tryz.func174 rfl (by kernel_rfl) h
theorem spec_LinkOk_p4 (n0 : Int) (l1 : List (List D)) (n2 n3 n4 n5 : Int) (b6 b7 b8 : Bool)
  (h : Obs [qac Tryz.prog (qaa Tryz.f174 0) (spec_LinkOk_L0 n0 l1 n2 n3 n4 n5 0) (.exit 0) (spec_LinkOk_X0v2 n0 l1 n2 n3 n4 n5), Ret Tryz.prog 138 [.one (I n0), .one (I 1), .one (I 4)] [.one (B b6)], b6 = true, Ret Tryz.prog 138 [.one (I n2), .one (I 0), .one (I n0)] [.one (B b7)], b7 = true, Ret Tryz.prog 138 [.one (I n3), .one (I 0), .one (I n0)] [.one (B b8)], b8 = true, inInt .i64 (n2 + n3), inInt .i64 (n2 + n3 + (↑l1.length : Int)), (n2 + n3 + (↑l1.length : Int) == n0) = false]) :
  Ret Tryz.prog 174 [.agg [I n0, D.sl 5 l1, I n2, I n3, I n4, I n5]] [.one (B false)] :=
 .of [.loop [] [3, 1] [1] (.exit 0) (spec_LinkOk_X0v2 n0 l1 n2 n3 n4 n5), .res [.one (B b6)], .br true, .res [.one (B b7)], .br true, .res [.one (B b8)], .br true, .br false] _ Tryz.func174 rfl (by kernel_rfl) h
theorem spec_LinkOk_p5 (n0 : Int) (l1 : List (List D)) (n2 n3 n4 n5 : Int) (b6 b7 b8 : Bool)
  (h : Obs [qac Tryz.prog (qaa Tryz.f174 0) (spec_LinkOk_L0 n0 l1 n2 n3 n4 n5 0) (.exit 0) (spec_LinkOk_X0v2 n0 l1 n2 n3 n4 n5), Ret Tryz.prog 138 [.one (I n0), .one (I 1), .one (I 4)] [.one (B b6)], b6 = true, Ret Tryz.prog 138 [.one (I n2), .one (I 0), .one (I n0)] [.one (B b7)], b7 = true, Ret Tryz.prog 138 [.one (I n3), .one (I 0), .one (I n0)] [.one (B b8)], b8 = false]) :
  Ret Tryz.prog 174 [.agg [I n0, D.sl 5 l1, I n2, I n3, I n4, I n5]] [.one (B false)] :=
 .of [.loop [] [3, 1] [1] (.exit 0) (spec_LinkOk_X0v2 n0 l1 n2 n3 n4 n5), .res [.one (B b6)], .br true, .res [.one (B b7)], .br true, .res [.one (B b8)], .br false] _ Tryz.func174 rfl (by kernel_rfl) h
theorem spec_LinkOk_p6 (n0 : Int) (l1 : List (List D)) (n2 n3 n4 n5 : Int) (b6 b7 : Bool)
  (h : Obs [qac Tryz.prog (qaa Tryz.f174 0) (spec_LinkOk_L0 n0 l1 n2 n3 n4 n5 0) (.exit 0) (spec_LinkOk_X0v2 n0 l1 n2 n3 n4 n5), Ret Tryz.prog 138 [.one (I n0), .one (I 1), .one (I 4)] [.one (B b6)], b6 = true, Ret Tryz.prog 138 [.one (I n2), .one (I 0), .one (I n0)] [.one (B b7)], b7 = false]) :
  Ret Tryz.prog 174 [.agg [I n0, D.sl 5 l1, I n2, I n3, I n4, I n5]] [.one (B false)] :=
 .of [.loop [] [3, 1] [1] (.exit 0) (spec_LinkOk_X0v2 n0 l1 n2 n3 n4 n5), .res [.one (B b6)], .br true, .res [.one (B b7)], .br false] _ Tryz.func174 rfl (by kernel_rfl) h
theorem spec_LinkOk_p7 (n0 : Int) (l1 : List (List D)) (n2 n3 n4 n5 : Int) (b6 : Bool)
  (h : Obs [qac Tryz.prog (qaa Tryz.f174 0) (spec_LinkOk_L0 n0 l1 n2 n3 n4 n5 0) (.exit 0) (spec_LinkOk_X0v2 n0 l1 n2 n3 n4 n5), Ret Tryz.prog 138 [.one (I n0), .one (I 1), .one (I 4)] [.one (B b6)], b6 = false]) :
  Ret Tryz.prog 174 [.agg [I n0, D.sl 5 l1, I n2, I n3, I n4, I n5]] [.one (B false)] :=
 .of [.loop [] [3, 1] [1] (.exit 0) (spec_LinkOk_X0v2 n0 l1 n2 n3 n4 n5), .res [.one (B b6)], .br false] _ Tryz.func174 rfl (by kernel_rfl) h
theorem impl_LinkOk_p0 (n0 : Int) (l1 : List (List D)) (n2 n3 n4 n5 : Int) (b6 : Bool)
  (h : Obs [Ret Tryz.prog 119 [.one (I n0), .one (I 1), .one (I 4)] [.one (B b6)], (!b6) = true]) :
  Ret Tryz.prog 183 [.agg [I n0, D.sl 5 l1, I n2, I n3, I n4, I n5]] [.one (B false)] :=
 .of [.res [.one (B b6)], .br true] _ Tryz.func183 rfl (by kernel_rfl) h
theorem impl_LinkOk_p1 (n0 : Int) (l1 : List (List D)) (n2 n3 n4 n5 : Int) (b6 b7 : Bool)
  (h : Obs [Ret Tryz.prog 119 [.one (I n0), .one (I 1), .one (I 4)] [.one (B b6)], (!b6) = false, Ret Tryz.prog 119 [.one (I n2), .one (I 0), .one (I n0)] [.one (B b7)], (!b7) = true]) :
  Ret Tryz.prog 183 [.agg [I n0, D.sl 5 l1, I n2, I n3, I n4, I n5]] [.one (B false)] :=
 .of [.res [.one (B b6)], .br false, .res [.one (B b7)], .br true] _ Tryz.func183 rfl (by kernel_rfl) h
theorem impl_LinkOk_p2 (n0 : Int) (l1 : List (List D)) (n2 n3 n4 n5 : Int) (b6 b7 b8 : Bool)
  (h : Obs [Ret Tryz.prog 119 [.one (I n0), .one (I 1), .one (I 4)] [.one (B b6)], (!b6) = false, Ret Tryz.prog 119 [.one (I n2), .one (I 0), .one (I n0)] [.one (B b7)], (!b7) = false, Ret Tryz.prog 119 [.one (I n3), .one (I 0), .one (I n0)] [.one (B b8)], (!b8) = true]) :
  Ret Tryz.prog 183 [.agg [I n0, D.sl 5 l1, I n2, I n3, I n4, I n5]] [.one (B false)] :=
 .of [.res [.one (B b6)], .br false, .res [.one (B b7)], .br false, .res [.one (B b8)], .br true] _ Tryz.func183 rfl (by kernel_rfl) h
theorem impl_LinkOk_p3 (n0 : Int) (l1 : List (List D)) (n2 n3 n4 n5 : Int) (b6 b7 b8 : Bool)
  (h : Obs [Ret Tryz.prog 119 [.one (I n0), .one (I 1), .one (I 4)] [.one (B b6)], (!b6) = false, Ret Tryz.prog 119 [.one (I n2), .one (I 0), .one (I n0)] [.one (B b7)], (!b7) = false, Ret Tryz.prog 119 [.one (I n3), .one (I 0), .one (I n0)] [.one (B b8)], (!b8) = false, inInt .i64 (n2 + n3), inInt .i64 (n2 + n3 + (↑l1.length : Int)), (n2 + n3 + (↑l1.length : Int) != n0) = true]) :
  Ret Tryz.prog 183 [.agg [I n0, D.sl 5 l1, I n2, I n3, I n4, I n5]] [.one (B false)] :=
 .of [.res [.one (B b6)], .br false, .res [.one (B b7)], .br false, .res [.one (B b8)], .br false, .br true] _ Tryz.func183 rfl (by kernel_rfl) h
theorem impl_LinkOk_p4 (n0 : Int) (l1 : List (List D)) (n2 n3 n4 n5 : Int) (b6 b7 b8 b9 : Bool)
  (h : Obs [Ret Tryz.prog 119 [.one (I n0), .one (I 1), .one (I 4)] [.one (B b6)], (!b6) = false, Ret Tryz.prog 119 [.one (I n2), .one (I 0), .one (I n0)] [.one (B b7)], (!b7) = false, Ret Tryz.prog 119 [.one (I n3), .one (I 0), .one (I n0)] [.one (B b8)], (!b8) = false, inInt .i64 (n2 + n3), inInt .i64 (n2 + n3 + (↑l1.length : Int)), (n2 + n3 + (↑l1.length : Int) != n0) = false, Ret Tryz.prog 119 [.one (I n4), .one (I 0), .one (I 1000000000)] [.one (B b9)], (!b9) = true]) :
  Ret Tryz.prog 183 [.agg [I n0, D.sl 5 l1, I n2, I n3, I n4, I n5]] [.one (B false)] :=
 .of [.res [.one (B b6)], .br false, .res [.one (B b7)], .br false, .res [.one (B b8)], .br false, .br false, .res [.one (B b9)], .br true] _ Tryz.func183 rfl (by kernel_rfl) h
theorem impl_LinkOk_p5 (n0 : Int) (l1 : List (List D)) (n2 n3 n4 n5 : Int) (b6 b7 b8 b9 : Bool)
  (h : Obs [Ret Tryz.prog 119 [.one (I n0), .one (I 1), .one (I 4)] [.one (B b6)], (!b6) = false, Ret Tryz.prog 119 [.one (I n2), .one (I 0), .one (I n0)] [.one (B b7)], (!b7) = false, Ret Tryz.prog 119 [.one (I n3), .one (I 0), .one (I n0)] [.one (B b8)], (!b8) = false, inInt .i64 (n2 + n3), inInt .i64 (n2 + n3 + (↑l1.length : Int)), (n2 + n3 + (↑l1.length : Int) != n0) = false, Ret Tryz.prog 119 [.one (I n4), .one (I 0), .one (I 1000000000)] [.one (B b9)], (!b9) = false, decide (n5 < 0) = true]) :
  Ret Tryz.prog 183 [.agg [I n0, D.sl 5 l1, I n2, I n3, I n4, I n5]] [.one (B false)] :=
 .of [.res [.one (B b6)], .br false, .res [.one (B b7)], .br false, .res [.one (B b8)], .br false, .br false, .res [.one (B b9)], .br false, .br true] _ Tryz.func183 rfl (by kernel_rfl) h
theorem impl_LinkOk_p6 (n0 : Int) (l1 : List (List D)) (n2 n3 n4 n5 : Int) (b6 b7 b8 b9 : Bool)
  (h : Obs [Ret Tryz.prog 119 [.one (I n0), .one (I 1), .one (I 4)] [.one (B b6)], (!b6) = false, Ret Tryz.prog 119 [.one (I n2), .one (I 0), .one (I n0)] [.one (B b7)], (!b7) = false, Ret Tryz.prog 119 [.one (I n3), .one (I 0), .one (I n0)] [.one (B b8)], (!b8) = false, inInt .i64 (n2 + n3), inInt .i64 (n2 + n3 + (↑l1.length : Int)), (n2 + n3 + (↑l1.length : Int) != n0) = false, Ret Tryz.prog 119 [.one (I n4), .one (I 0), .one (I 1000000000)] [.one (B b9)], (!b9) = false, decide (n5 < 0) = false, inInt .i64 (n4 - n5), (n4 - n5 != (↑l1.length : Int)) = true]) :
  Ret Tryz.prog 183 [.agg [I n0, D.sl 5 l1, I n2, I n3, I n4, I n5]] [.one (B false)] :=
 .of [.res [.one (B b6)], .br false, .res [.one (B b7)], .br false, .res [.one (B b8)], .br false, .br false, .res [.one (B b9)], .br false, .br false, .br true] _ Tryz.func183 rfl (by kernel_rfl) h
theorem impl_LinkOk_p7 (n0 : Int) (l1 : List (List D)) (n2 n3 n4 n5 : Int) (b6 b7 b8 b9 b10 : Bool)
  (h : Obs [Ret Tryz.prog 119 [.one (I n0), .one (I 1), .one (I 4)] [.one (B b6)], (!b6) = false, Ret Tryz.prog 119 [.one (I n2), .one (I 0), .one (I n0)] [.one (B b7)], (!b7) = false, Ret Tryz.prog 119 [.one (I n3), .one (I 0), .one (I n0)] [.one (B b8)], (!b8) = false, inInt .i64 (n2 + n3), inInt .i64 (n2 + n3 + (↑l1.length : Int)), (n2 + n3 + (↑l1.length : Int) != n0) = false, Ret Tryz.prog 119 [.one (I n4), .one (I 0), .one (I 1000000000)] [.one (B b9)], (!b9) = false, decide (n5 < 0) = false, inInt .i64 (n4 - n5), (n4 - n5 != (↑l1.length : Int)) = false, Ret Tryz.prog 268 [.one (.sl 5 l1)] [.one (B b10)]]) :
  Ret Tryz.prog 183 [.agg [I n0, D.sl 5 l1, I n2, I n3, I n4, I n5]] [.one (B b10)] :=
 .of [.res [.one (B b6)], .br false, .res [.one (B b7)], .br false, .res [.one (B b8)], .br false, .br false, .res [.one (B b9)], .br false, .br false, .br false, .res [.one (B b10)]] _ Tryz.func183 rfl (by kernel_rfl) h
def impl_allRecordsOk_L0 (l0 : List (List D)) (n1 : Int) : St :=
 { env := envOf 15 [(5, .al (.one (.sl .free 5 l0))), (6, .al (.one (.v (.int .i64 (↑l0.length : Int))))), (7, .al (.one (.v (.int .i64 n1))))], boxes := [] }
def impl_allRecordsOk_X0 (b0 : Bool) : St :=
 { env := envOf 15 [(2, .al (.one (.sb b0)))], boxes := [] }
theorem impl_allRecordsOk_L0_x0 (l0 : List (List D)) (n1 n2 n3 n4 n5 n6 : Int) (b7 : Bool)
  (h : Obs [decide (n1 < (↑l0.length : Int)) = true, 0 ≤ n1, n1 < (↑l0.length : Int), l0[n1.toNat]? = some [I n2, I n3, I n4, I n5, I n6], Ret Tryz.prog 152 [.agg [I n2, I n3, I n4, I n5, I n6]] [.one (B b7)], (!b7) = true]) :
  Tr Tryz.prog (qaa Tryz.f268 0) (impl_allRecordsOk_L0 l0 n1) .ret (impl_allRecordsOk_X0 false) :=
 .of_loopc (ks := [2]) (bs := []) (ans := [.br true, .el [I n2, I n3, I n4, I n5, I n6], .res [.one (B b7)], .br true]) (by kernel_rfl) h
theorem impl_allRecordsOk_L0_s1 (l0 : List (List D)) (n1 n2 n3 n4 n5 n6 : Int) (b7 : Bool)
  (h : Obs [decide (n1 < (↑l0.length : Int)) = true, 0 ≤ n1, n1 < (↑l0.length : Int), l0[n1.toNat]? = some [I n2, I n3, I n4, I n5, I n6], Ret Tryz.prog 152 [.agg [I n2, I n3, I n4, I n5, I n6]] [.one (B b7)], (!b7) = false, inInt .i64 (n1 + 1)]) :
  Tr Tryz.prog (qaa Tryz.f268 0) (impl_allRecordsOk_L0 l0 n1) .normal (impl_allRecordsOk_L0 l0 (n1 + 1)) :=
 .of_loopc (ks := [7, 6, 5]) (bs := []) (ans := [.br true, .el [I n2, I n3, I n4, I n5, I n6], .res [.one (B b7)], .br false]) (by kernel_rfl) h
def impl_allRecordsOk_X0v2 : St :=
 { env := envOf 15 [], boxes := [] }
theorem impl_allRecordsOk_L0_x2 (l0 : List (List D)) (n1 : Int)
  (h : Obs [decide (n1 < (↑l0.length : Int)) = false]) :
  Tr Tryz.prog (qaa Tryz.f268 0) (impl_allRecordsOk_L0 l0 n1) (.exit 0) impl_allRecordsOk_X0v2 :=
 .of_loopc (ks := []) (bs := []) (ans := [.br false]) (by kernel_rfl) h
theorem impl_allRecordsOk_p0 (l0 : List (List D)) (b1 : Bool)
  (h : Obs [qac Tryz.prog (qaa Tryz.f268 0) (impl_allRecordsOk_L0 l0 0) .ret (impl_allRecordsOk_X0 b1)]) :
  Ret Tryz.prog 268 [.one (.sl 5 l0)] [.one (B b1)] :=
 .of [.loop [] [7, 6, 5] [] .ret (impl_allRecordsOk_X0 b1)] _ Tryz.func268 rfl (by kernel_rfl) h
theorem impl_allRecordsOk_p1 (l0 : List (List D))
  (h : Obs [qac Tryz.prog (qaa Tryz.f268 0) (impl_allRecordsOk_L0 l0 0) (.exit 0) impl_allRecordsOk_X0v2]) :
  Ret Tryz.prog 268 [.one (.sl 5 l0)] [.one (B true)] :=
 .of [.loop [] [7, 6, 5] [] (.exit 0) impl_allRecordsOk_X0v2] _ Tryz.func268 rfl (by kernel_rfl) h
theorem spec_ClusterOk_p0 (l0 : List (List D)) (n1 n2 : Int) (l3 l4 l5 l6 : List (List D)) (b7 : Bool)
  (h : Obs [Ret Tryz.prog 140 [.agg [D.sl 4 l0, I n1, I n2]] [.one (B b7)], (!b7) = true]) :
  Ret Tryz.prog 89 [.agg [D.sl 4 l0, I n1, I n2, D.sl 8 l3, D.sl 6 l4, D.sl 5 l5, D.sl 3 l6]] [.one (B false)] :=
 .of [.res [.one (B b7)], .br true] _ Tryz.func89 rfl (by kernel_rfl) h
theorem spec_ClusterOk_p1 (l0 : List (List D)) (n1 n2 : Int) (l3 l4 l5 l6 : List (List D)) (b7 : Bool)
  (h : Obs [Ret Tryz.prog 140 [.agg [D.sl 4 l0, I n1, I n2]] [.one (B b7)], (!b7) = false, ((↑l3.length : Int) != n1) = true]) :
  Ret Tryz.prog 89 [.agg [D.sl 4 l0, I n1, I n2, D.sl 8 l3, D.sl 6 l4, D.sl 5 l5, D.sl 3 l6]] [.one (B false)] :=
 .of [.res [.one (B b7)], .br false, .br true] _ Tryz.func89 rfl (by kernel_rfl) h
theorem spec_ClusterOk_p2 (l0 : List (List D)) (n1 n2 : Int) (l3 l4 l5 l6 : List (List D)) (b7 : Bool)
  (h : Obs [Ret Tryz.prog 140 [.agg [D.sl 4 l0, I n1, I n2]] [.one (B b7)], (!b7) = false, ((↑l3.length : Int) != n1) = false, inInt .i64 (n1 * n1), ((↑l4.length : Int) != n1 * n1) = true]) :
  Ret Tryz.prog 89 [.agg [D.sl 4 l0, I n1, I n2, D.sl 8 l3, D.sl 6 l4, D.sl 5 l5, D.sl 3 l6]] [.one (B false)] :=
 .of [.res [.one (B b7)], .br false, .br false, .br true] _ Tryz.func89 rfl (by kernel_rfl) h
theorem spec_ClusterOk_p3 (l0 : List (List D)) (n1 n2 : Int) (l3 l4 l5 l6 : List (List D)) (b7 : Bool)
  (h : Obs [Ret Tryz.prog 140 [.agg [D.sl 4 l0, I n1, I n2]] [.one (B b7)], (!b7) = false, ((↑l3.length : Int) != n1) = false, inInt .i64 (n1 * n1), ((↑l4.length : Int) != n1 * n1) = false, ((↑l5.length : Int) != 4) = true]) :
  Ret Tryz.prog 89 [.agg [D.sl 4 l0, I n1, I n2, D.sl 8 l3, D.sl 6 l4, D.sl 5 l5, D.sl 3 l6]] [.one (B false)] :=
 .of [.res [.one (B b7)], .br false, .br false, .br false, .br true] _ Tryz.func89 rfl (by kernel_rfl) h
def spec_ClusterOk_L0 (l0 : List (List D)) (n1 n2 : Int) (l3 l4 l5 l6 : List (List D)) (n7 : Int) : St :=
 { env := envOf 170 [(1, .al (.one (.ptr 1 0))), (3, .al (.one (.v (.int .i64 n1)))), (4, .al (.one (.v (.int .i64 n7))))], boxes := [(1, [.sl .free 4 l0, .v (.int .i64 n1), .v (.int .i64 n2), .sl .free 8 l3, .sl .free 6 l4, .sl .free 5 l5, .sl .free 3 l6])] }
def spec_ClusterOk_X0 (b0 : Bool) : St :=
 { env := envOf 170 [(2, .al (.one (.sb b0)))], boxes := [] }
theorem spec_ClusterOk_L0_x0 (l0 : List (List D)) (n1 n2 : Int) (l3 l4 l5 l6 : List (List D)) (n8 : Int) (l9 l10 l11 l12 l13 l14 l15 l16 : List (List D)) (b17 : Bool)
  (h : Obs [decide (n8 < n1) = true, 0 ≤ n8, n8 < (↑l3.length : Int), l3[n8.toNat]? = some [D.sl 5 l9, D.sl 5 l10, D.sl 5 l11, D.sl 4 l12, D.sl 1 l13, D.sl 1 l14, D.sl 1 l15, D.sl 2 l16], Ret Tryz.prog 173 [.agg [D.sl 4 l0, I n1, I n2], .agg [D.sl 5 l9, D.sl 5 l10, D.sl 5 l11, D.sl 4 l12, D.sl 1 l13, D.sl 1 l14, D.sl 1 l15, D.sl 2 l16]] [.one (B b17)], (!b17) = true]) :
  Tr Tryz.prog (qaa Tryz.f89 0) (spec_ClusterOk_L0 l0 n1 n2 l3 l4 l5 l6 n8) .ret (spec_ClusterOk_X0 false) :=
 .of_loopc (ks := [2]) (bs := []) (ans := [.br true, .el [D.sl 5 l9, D.sl 5 l10, D.sl 5 l11, D.sl 4 l12, D.sl 1 l13, D.sl 1 l14, D.sl 1 l15, D.sl 2 l16], .res [.one (B b17)], .br true]) (by kernel_rfl) h
theorem spec_ClusterOk_L0_s1 (l0 : List (List D)) (n1 n2 : Int) (l3 l4 l5 l6 : List (List D)) (n8 : Int) (l9 l10 l11 l12 l13 l14 l15 l16 : List (List D)) (b17 : Bool)
  (h : Obs [decide (n8 < n1) = true, 0 ≤ n8, n8 < (↑l3.length : Int), l3[n8.toNat]? = some [D.sl 5 l9, D.sl 5 l10, D.sl 5 l11, D.sl 4 l12, D.sl 1 l13, D.sl 1 l14, D.sl 1 l15, D.sl 2 l16], Ret Tryz.prog 173 [.agg [D.sl 4 l0, I n1, I n2], .agg [D.sl 5 l9, D.sl 5 l10, D.sl 5 l11, D.sl 4 l12, D.sl 1 l13, D.sl 1 l14, D.sl 1 l15, D.sl 2 l16]] [.one (B b17)], (!b17) = false, inInt .i64 (n8 + 1)]) :
  Tr Tryz.prog (qaa Tryz.f89 0) (spec_ClusterOk_L0 l0 n1 n2 l3 l4 l5 l6 n8) .normal (spec_ClusterOk_L0 l0 n1 n2 l3 l4 l5 l6 (n8 + 1)) :=
 .of_loopc (ks := [4, 3, 1]) (bs := [1]) (ans := [.br true, .el [D.sl 5 l9, D.sl 5 l10, D.sl 5 l11, D.sl 4 l12, D.sl 1 l13, D.sl 1 l14, D.sl 1 l15, D.sl 2 l16], .res [.one (B b17)], .br false]) (by kernel_rfl) h
def spec_ClusterOk_X0v2 (l0 : List (List D)) (n1 n2 : Int) (l3 l4 l5 l6 : List (List D)) : St :=
 { env := envOf 170 [(1, .al (.one (.ptr 1 0))), (3, .al (.one (.v (.int .i64 n1))))], boxes := [(1, [.sl .free 4 l0, .v (.int .i64 n1), .v (.int .i64 n2), .sl .free 8 l3, .sl .free 6 l4, .sl .free 5 l5, .sl .free 3 l6])] }
theorem spec_ClusterOk_L0_x2 (l0 : List (List D)) (n1 n2 : Int) (l3 l4 l5 l6 : List (List D)) (n8 : Int)
  (h : Obs [decide (n8 < n1) = false]) :
  Tr Tryz.prog (qaa Tryz.f89 0) (spec_ClusterOk_L0 l0 n1 n2 l3 l4 l5 l6 n8) (.exit 0) (spec_ClusterOk_X0v2 l0 n1 n2 l3 l4 l5 l6) :=
 .of_loopc (ks := [1, 3]) (bs := [1]) (ans := [.br false]) (by kernel_rfl) h
theorem spec_ClusterOk_p4 (l0 : List (List D)) (n1 n2 : Int) (l3 l4 l5 l6 : List (List D)) (b7 b8 : Bool)
  (h : Obs [Ret Tryz.prog 140 [.agg [D.sl 4 l0, I n1, I n2]] [.one (B b7)], (!b7) = false, ((↑l3.length : Int) != n1) = false, inInt .i64 (n1 * n1), ((↑l4.length : Int) != n1 * n1) = false, ((↑l5.length : Int) != 4) = false, qac Tryz.prog (qaa Tryz.f89 0) (spec_ClusterOk_L0 l0 n1 n2 l3 l4 l5 l6 0) .ret (spec_ClusterOk_X0 b8)]) :
  Ret Tryz.prog 89 [.agg [D.sl 4 l0, I n1, I n2, D.sl 8 l3, D.sl 6 l4, D.sl 5 l5, D.sl 3 l6]] [.one (B b8)] :=
 .of [.res [.one (B b7)], .br false, .br false, .br false, .br false, .loop [] [4, 3, 1] [1] .ret (spec_ClusterOk_X0 b8)] _ Tryz.func89 rfl (by kernel_rfl) h
def spec_ClusterOk_L1 (n0 n1 : Int) (l2 : List (List D)) (n3 n4 : Int) (l5 l6 l7 l8 : List (List D)) : St :=
 { env := envOf 170 [(1, .al (.one (.ptr 1 0))), (3, .al (.one (.v (.int .i64 n0)))), (5, .al (.one (.v (.int .i64 n1))))], boxes := [(1, [.sl .free 4 l2, .v (.int .i64 n3), .v (.int .i64 n4), .sl .free 8 l5, .sl .free 6 l6, .sl .free 5 l7, .sl .free 3 l8])] }
def spec_ClusterOk_X1 (b0 : Bool) : St :=
 { env := envOf 170 [(2, .al (.one (.sb b0)))], boxes := [] }
theorem spec_ClusterOk_L1_x0 (n1 n8 : Int) (l9 : List (List D)) (n10 n11 : Int) (l12 l13 l14 l15 : List (List D)) (n16 : Int) (l17 : List (List D)) (n18 n19 n20 n21 : Int) (b22 : Bool)
  (h : Obs [decide (n8 < (↑l13.length : Int)) = true, 0 ≤ n8, n8 < (↑l13.length : Int), l13[n8.toNat]? = some [I n16, D.sl 5 l17, I n18, I n19, I n20, I n21], Ret Tryz.prog 174 [.agg [I n16, D.sl 5 l17, I n18, I n19, I n20, I n21]] [.one (B b22)], (!b22) = true]) :
  Tr Tryz.prog (qaa Tryz.f89 1) (spec_ClusterOk_L1 n1 n8 l9 n10 n11 l12 l13 l14 l15) .ret (spec_ClusterOk_X1 false) :=
 .of_loopc (ks := [2]) (bs := []) (ans := [.br true, .el [I n16, D.sl 5 l17, I n18, I n19, I n20, I n21], .res [.one (B b22)], .br true]) (by kernel_rfl) h
theorem spec_ClusterOk_L1_x1 (n1 n8 : Int) (l9 : List (List D)) (n10 n11 : Int) (l12 l13 l14 l15 : List (List D)) (n16 : Int) (l17 : List (List D)) (n18 n19 n20 n21 : Int) (b22 : Bool)
  (h : Obs [decide (n8 < (↑l13.length : Int)) = true, 0 ≤ n8, n8 < (↑l13.length : Int), l13[n8.toNat]? = some [I n16, D.sl 5 l17, I n18, I n19, I n20, I n21], Ret Tryz.prog 174 [.agg [I n16, D.sl 5 l17, I n18, I n19, I n20, I n21]] [.one (B b22)], (!b22) = false, (n16 != n11) = true]) :
  Tr Tryz.prog (qaa Tryz.f89 1) (spec_ClusterOk_L1 n1 n8 l9 n10 n11 l12 l13 l14 l15) .ret (spec_ClusterOk_X1 false) :=
 .of_loopc (ks := [2]) (bs := []) (ans := [.br true, .el [I n16, D.sl 5 l17, I n18, I n19, I n20, I n21], .res [.one (B b22)], .br false, .br true]) (by kernel_rfl) h
theorem spec_ClusterOk_L1_x2 (n1 n8 : Int) (l9 : List (List D)) (n10 n11 : Int) (l12 l13 l14 l15 : List (List D)) (n16 : Int) (l17 : List (List D)) (n18 n19 n20 n21 : Int) (b22 b23 : Bool)
  (h : Obs [decide (n8 < (↑l13.length : Int)) = true, 0 ≤ n8, n8 < (↑l13.length : Int), l13[n8.toNat]? = some [I n16, D.sl 5 l17, I n18, I n19, I n20, I n21], Ret Tryz.prog 174 [.agg [I n16, D.sl 5 l17, I n18, I n19, I n20, I n21]] [.one (B b22)], (!b22) = false, (n16 != n11) = false, Ret Tryz.prog 175 [.agg [D.sl 4 l9, I n10, I n11], .one (.sl 5 l17)] [.one (B b23)], (!b23) = true]) :
  Tr Tryz.prog (qaa Tryz.f89 1) (spec_ClusterOk_L1 n1 n8 l9 n10 n11 l12 l13 l14 l15) .ret (spec_ClusterOk_X1 false) :=
 .of_loopc (ks := [2]) (bs := []) (ans := [.br true, .el [I n16, D.sl 5 l17, I n18, I n19, I n20, I n21], .res [.one (B b22)], .br false, .br false, .res [.one (B b23)], .br true]) (by kernel_rfl) h
theorem spec_ClusterOk_L1_x3 (n1 n8 : Int) (l9 : List (List D)) (n10 n11 : Int) (l12 l13 l14 l15 : List (List D)) (n16 : Int) (l17 : List (List D)) (n18 n19 n20 n21 : Int) (b22 b23 : Bool)
  (h : Obs [decide (n8 < (↑l13.length : Int)) = true, 0 ≤ n8, n8 < (↑l13.length : Int), l13[n8.toNat]? = some [I n16, D.sl 5 l17, I n18, I n19, I n20, I n21], Ret Tryz.prog 174 [.agg [I n16, D.sl 5 l17, I n18, I n19, I n20, I n21]] [.one (B b22)], (!b22) = false, (n16 != n11) = false, Ret Tryz.prog 175 [.agg [D.sl 4 l9, I n10, I n11], .one (.sl 5 l17)] [.one (B b23)], (!b23) = false, n1 ≠ 0, inInt .i64 (n8.tdiv n1), n1 ≠ 0, (n8.tdiv n1 == n8.tmod n1) = true, decide ((↑l17.length : Int) > 0) = true]) :
  Tr Tryz.prog (qaa Tryz.f89 1) (spec_ClusterOk_L1 n1 n8 l9 n10 n11 l12 l13 l14 l15) .ret (spec_ClusterOk_X1 false) :=
 .of_loopc (ks := [2]) (bs := []) (ans := [.br true, .el [I n16, D.sl 5 l17, I n18, I n19, I n20, I n21], .res [.one (B b22)], .br false, .br false, .res [.one (B b23)], .br false, .br true, .br true]) (by kernel_rfl) h
theorem spec_ClusterOk_L1_s4 (n1 n8 : Int) (l9 : List (List D)) (n10 n11 : Int) (l12 l13 l14 l15 : List (List D)) (n16 : Int) (l17 : List (List D)) (n18 n19 n20 n21 : Int) (b22 b23 : Bool)
  (h : Obs [decide (n8 < (↑l13.length : Int)) = true, 0 ≤ n8, n8 < (↑l13.length : Int), l13[n8.toNat]? = some [I n16, D.sl 5 l17, I n18, I n19, I n20, I n21], Ret Tryz.prog 174 [.agg [I n16, D.sl 5 l17, I n18, I n19, I n20, I n21]] [.one (B b22)], (!b22) = false, (n16 != n11) = false, Ret Tryz.prog 175 [.agg [D.sl 4 l9, I n10, I n11], .one (.sl 5 l17)] [.one (B b23)], (!b23) = false, n1 ≠ 0, inInt .i64 (n8.tdiv n1), n1 ≠ 0, (n8.tdiv n1 == n8.tmod n1) = true, decide ((↑l17.length : Int) > 0) = false, inInt .i64 (n8 + 1)]) :
  Tr Tryz.prog (qaa Tryz.f89 1) (spec_ClusterOk_L1 n1 n8 l9 n10 n11 l12 l13 l14 l15) .normal (spec_ClusterOk_L1 n1 (n8 + 1) l9 n10 n11 l12 l13 l14 l15) :=
 .of_loopc (ks := [5, 1, 3]) (bs := [1]) (ans := [.br true, .el [I n16, D.sl 5 l17, I n18, I n19, I n20, I n21], .res [.one (B b22)], .br false, .br false, .res [.one (B b23)], .br false, .br true, .br false]) (by kernel_rfl) h
theorem spec_ClusterOk_L1_s5 (n1 n8 : Int) (l9 : List (List D)) (n10 n11 : Int) (l12 l13 l14 l15 : List (List D)) (n16 : Int) (l17 : List (List D)) (n18 n19 n20 n21 : Int) (b22 b23 : Bool)
  (h : Obs [decide (n8 < (↑l13.length : Int)) = true, 0 ≤ n8, n8 < (↑l13.length : Int), l13[n8.toNat]? = some [I n16, D.sl 5 l17, I n18, I n19, I n20, I n21], Ret Tryz.prog 174 [.agg [I n16, D.sl 5 l17, I n18, I n19, I n20, I n21]] [.one (B b22)], (!b22) = false, (n16 != n11) = false, Ret Tryz.prog 175 [.agg [D.sl 4 l9, I n10, I n11], .one (.sl 5 l17)] [.one (B b23)], (!b23) = false, n1 ≠ 0, inInt .i64 (n8.tdiv n1), n1 ≠ 0, (n8.tdiv n1 == n8.tmod n1) = false, inInt .i64 (n8 + 1)]) :
  Tr Tryz.prog (qaa Tryz.f89 1) (spec_ClusterOk_L1 n1 n8 l9 n10 n11 l12 l13 l14 l15) .normal (spec_ClusterOk_L1 n1 (n8 + 1) l9 n10 n11 l12 l13 l14 l15) :=
 .of_loopc (ks := [5, 1, 3]) (bs := [1]) (ans := [.br true, .el [I n16, D.sl 5 l17, I n18, I n19, I n20, I n21], .res [.one (B b22)], .br false, .br false, .res [.one (B b23)], .br false, .br false]) (by kernel_rfl) h
def spec_ClusterOk_X1v5 (n0 : Int) (l1 : List (List D)) (n2 n3 : Int) (l4 l5 l6 l7 : List (List D)) : St :=
 { env := envOf 170 [(1, .al (.one (.ptr 1 0))), (3, .al (.one (.v (.int .i64 n0))))], boxes := [(1, [.sl .free 4 l1, .v (.int .i64 n2), .v (.int .i64 n3), .sl .free 8 l4, .sl .free 6 l5, .sl .free 5 l6, .sl .free 3 l7])] }
theorem spec_ClusterOk_L1_x6 (n1 n8 : Int) (l9 : List (List D)) (n10 n11 : Int) (l12 l13 l14 l15 : List (List D))
  (h : Obs [decide (n8 < (↑l13.length : Int)) = false]) :
  Tr Tryz.prog (qaa Tryz.f89 1) (spec_ClusterOk_L1 n1 n8 l9 n10 n11 l12 l13 l14 l15) (.exit 2) (spec_ClusterOk_X1v5 n1 l9 n10 n11 l12 l13 l14 l15) :=
 .of_loopc (ks := [1, 3]) (bs := [1]) (ans := [.br false]) (by kernel_rfl) h
theorem spec_ClusterOk_p5 (l0 : List (List D)) (n1 n2 : Int) (l3 l4 l5 l6 : List (List D)) (b7 b8 : Bool)
  (h : Obs [Ret Tryz.prog 140 [.agg [D.sl 4 l0, I n1, I n2]] [.one (B b7)], (!b7) = false, ((↑l3.length : Int) != n1) = false, inInt .i64 (n1 * n1), ((↑l4.length : Int) != n1 * n1) = false, ((↑l5.length : Int) != 4) = false, qac Tryz.prog (qaa Tryz.f89 0) (spec_ClusterOk_L0 l0 n1 n2 l3 l4 l5 l6 0) (.exit 0) (spec_ClusterOk_X0v2 l0 n1 n2 l3 l4 l5 l6), qac Tryz.prog (qaa Tryz.f89 1) (spec_ClusterOk_L1 n1 0 l0 n1 n2 l3 l4 l5 l6) .ret (spec_ClusterOk_X1 b8)]) :
  Ret Tryz.prog 89 [.agg [D.sl 4 l0, I n1, I n2, D.sl 8 l3, D.sl 6 l4, D.sl 5 l5, D.sl 3 l6]] [.one (B b8)] :=
 .of [.res [.one (B b7)], .br false, .br false, .br false, .br false, .loop [] [4, 3, 1] [1] (.exit 0) (spec_ClusterOk_X0v2 l0 n1 n2 l3 l4 l5 l6), .loop [] [5, 1, 3] [1] .ret (spec_ClusterOk_X1 b8)] _ Tryz.func89 rfl (by kernel_rfl) h
def spec_ClusterOk_L2 (n0 : Int) (l1 : List (List D)) (n2 n3 : Int) (l4 l5 l6 l7 : List (List D)) (n8 : Int) : St :=
 { env := envOf 170 [(1, .al (.one (.ptr 1 0))), (3, .al (.one (.v (.int .i64 n0)))), (7, .al (.one (.v (.int .i64 n8))))], boxes := [(1, [.sl .free 4 l1, .v (.int .i64 n2), .v (.int .i64 n3), .sl .free 8 l4, .sl .free 6 l5, .sl .free 5 l6, .sl .free 3 l7])] }
def spec_ClusterOk_X2 (b0 : Bool) : St :=
 { env := envOf 170 [(2, .al (.one (.sb b0)))], boxes := [] }
theorem spec_ClusterOk_L2_x0 (n1 : Int) (l8 : List (List D)) (n9 n10 : Int) (l11 l12 l13 l14 : List (List D)) (n15 : Int) (b16 : Bool) (n17 n18 : Int) (b19 b20 b21 : Bool)
  (h : Obs [decide (n15 < (↑l13.length : Int)) = true, 0 ≤ n15, n15 < (↑l13.length : Int), l13[n15.toNat]? = some [B b16, I n17, I n18, B b19, B b20], inInt .i64 (n1 - 1), Ret Tryz.prog 138 [.one (I n17), .one (I 0), .one (I (n1 - 1))] [.one (B b21)], (!b21) = true]) :
  Tr Tryz.prog (qaa Tryz.f89 2) (spec_ClusterOk_L2 n1 l8 n9 n10 l11 l12 l13 l14 n15) .ret (spec_ClusterOk_X2 false) :=
 .of_loopc (ks := [2]) (bs := []) (ans := [.br true, .el [B b16, I n17, I n18, B b19, B b20], .res [.one (B b21)], .br true]) (by kernel_rfl) h
theorem spec_ClusterOk_L2_x1 (n1 : Int) (l8 : List (List D)) (n9 n10 : Int) (l11 l12 l13 l14 : List (List D)) (n15 : Int) (b16 : Bool) (n17 n18 : Int) (b19 b20 b21 b22 : Bool) (n23 n24 : Int) (b25 b26 b27 : Bool) (n28 n29 : Int) (b30 b31 : Bool)
  (h : Obs [decide (n15 < (↑l13.length : Int)) = true, 0 ≤ n15, n15 < (↑l13.length : Int), l13[n15.toNat]? = some [B b16, I n17, I n18, B b19, B b20], inInt .i64 (n1 - 1), Ret Tryz.prog 138 [.one (I n17), .one (I 0), .one (I (n1 - 1))] [.one (B b21)], (!b21) = false, 0 ≤ n15, n15 < (↑l13.length : Int), l13[n15.toNat]? = some [B b22, I n23, I n24, B b25, B b26], (!b22) = true, 0 ≤ n15, n15 < (↑l13.length : Int), l13[n15.toNat]? = some [B b27, I n28, I n29, B b30, B b31], (n28 != 0) = true]) :
  Tr Tryz.prog (qaa Tryz.f89 2) (spec_ClusterOk_L2 n1 l8 n9 n10 l11 l12 l13 l14 n15) .ret (spec_ClusterOk_X2 false) :=
 .of_loopc (ks := [2]) (bs := []) (ans := [.br true, .el [B b16, I n17, I n18, B b19, B b20], .res [.one (B b21)], .br false, .el [B b22, I n23, I n24, B b25, B b26], .br true, .el [B b27, I n28, I n29, B b30, B b31], .br true]) (by kernel_rfl) h
theorem spec_ClusterOk_L2_x2 (n1 : Int) (l8 : List (List D)) (n9 n10 : Int) (l11 l12 l13 l14 : List (List D)) (n15 : Int) (b16 : Bool) (n17 n18 : Int) (b19 b20 b21 b22 : Bool) (n23 n24 : Int) (b25 b26 b27 : Bool) (n28 n29 : Int) (b30 b31 b32 : Bool) (n33 n34 : Int) (b35 b36 b37 : Bool)
  (h : Obs [decide (n15 < (↑l13.length : Int)) = true, 0 ≤ n15, n15 < (↑l13.length : Int), l13[n15.toNat]? = some [B b16, I n17, I n18, B b19, B b20], inInt .i64 (n1 - 1), Ret Tryz.prog 138 [.one (I n17), .one (I 0), .one (I (n1 - 1))] [.one (B b21)], (!b21) = false, 0 ≤ n15, n15 < (↑l13.length : Int), l13[n15.toNat]? = some [B b22, I n23, I n24, B b25, B b26], (!b22) = true, 0 ≤ n15, n15 < (↑l13.length : Int), l13[n15.toNat]? = some [B b27, I n28, I n29, B b30, B b31], (n28 != 0) = false, 0 ≤ n15, n15 < (↑l13.length : Int), l13[n15.toNat]? = some [B b32, I n33, I n34, B b35, B b36], Ret Tryz.prog 138 [.one (I n34), .one (I (-1000000)), .one (I 1000000)] [.one (B b37)], (!b37) = true]) :
  Tr Tryz.prog (qaa Tryz.f89 2) (spec_ClusterOk_L2 n1 l8 n9 n10 l11 l12 l13 l14 n15) .ret (spec_ClusterOk_X2 false) :=
 .of_loopc (ks := [2]) (bs := []) (ans := [.br true, .el [B b16, I n17, I n18, B b19, B b20], .res [.one (B b21)], .br false, .el [B b22, I n23, I n24, B b25, B b26], .br true, .el [B b27, I n28, I n29, B b30, B b31], .br false, .el [B b32, I n33, I n34, B b35, B b36], .res [.one (B b37)], .br true]) (by kernel_rfl) h
theorem spec_ClusterOk_L2_s3 (n1 : Int) (l8 : List (List D)) (n9 n10 : Int) (l11 l12 l13 l14 : List (List D)) (n15 : Int) (b16 : Bool) (n17 n18 : Int) (b19 b20 b21 b22 : Bool) (n23 n24 : Int) (b25 b26 b27 : Bool) (n28 n29 : Int) (b30 b31 b32 : Bool) (n33 n34 : Int) (b35 b36 b37 : Bool)
  (h : Obs [decide (n15 < (↑l13.length : Int)) = true, 0 ≤ n15, n15 < (↑l13.length : Int), l13[n15.toNat]? = some [B b16, I n17, I n18, B b19, B b20], inInt .i64 (n1 - 1), Ret Tryz.prog 138 [.one (I n17), .one (I 0), .one (I (n1 - 1))] [.one (B b21)], (!b21) = false, 0 ≤ n15, n15 < (↑l13.length : Int), l13[n15.toNat]? = some [B b22, I n23, I n24, B b25, B b26], (!b22) = true, 0 ≤ n15, n15 < (↑l13.length : Int), l13[n15.toNat]? = some [B b27, I n28, I n29, B b30, B b31], (n28 != 0) = false, 0 ≤ n15, n15 < (↑l13.length : Int), l13[n15.toNat]? = some [B b32, I n33, I n34, B b35, B b36], Ret Tryz.prog 138 [.one (I n34), .one (I (-1000000)), .one (I 1000000)] [.one (B b37)], (!b37) = false, inInt .i64 (n15 + 1)]) :
  Tr Tryz.prog (qaa Tryz.f89 2) (spec_ClusterOk_L2 n1 l8 n9 n10 l11 l12 l13 l14 n15) .normal (spec_ClusterOk_L2 n1 l8 n9 n10 l11 l12 l13 l14 (n15 + 1)) :=
 .of_loopc (ks := [7, 1, 3]) (bs := [1]) (ans := [.br true, .el [B b16, I n17, I n18, B b19, B b20], .res [.one (B b21)], .br false, .el [B b22, I n23, I n24, B b25, B b26], .br true, .el [B b27, I n28, I n29, B b30, B b31], .br false, .el [B b32, I n33, I n34, B b35, B b36], .res [.one (B b37)], .br false]) (by kernel_rfl) h
theorem spec_ClusterOk_L2_x4 (n1 : Int) (l8 : List (List D)) (n9 n10 : Int) (l11 l12 l13 l14 : List (List D)) (n15 : Int) (b16 : Bool) (n17 n18 : Int) (b19 b20 b21 b22 : Bool) (n23 n24 : Int) (b25 b26 b27 : Bool) (n28 n29 : Int) (b30 b31 b32 : Bool)
  (h : Obs [decide (n15 < (↑l13.length : Int)) = true, 0 ≤ n15, n15 < (↑l13.length : Int), l13[n15.toNat]? = some [B b16, I n17, I n18, B b19, B b20], inInt .i64 (n1 - 1), Ret Tryz.prog 138 [.one (I n17), .one (I 0), .one (I (n1 - 1))] [.one (B b21)], (!b21) = false, 0 ≤ n15, n15 < (↑l13.length : Int), l13[n15.toNat]? = some [B b22, I n23, I n24, B b25, B b26], (!b22) = false, 0 ≤ n15, n15 < (↑l13.length : Int), l13[n15.toNat]? = some [B b27, I n28, I n29, B b30, B b31], Ret Tryz.prog 138 [.one (I n29), .one (I (-1000000)), .one (I 1000000)] [.one (B b32)], (!b32) = true]) :
  Tr Tryz.prog (qaa Tryz.f89 2) (spec_ClusterOk_L2 n1 l8 n9 n10 l11 l12 l13 l14 n15) .ret (spec_ClusterOk_X2 false) :=
 .of_loopc (ks := [2]) (bs := []) (ans := [.br true, .el [B b16, I n17, I n18, B b19, B b20], .res [.one (B b21)], .br false, .el [B b22, I n23, I n24, B b25, B b26], .br false, .el [B b27, I n28, I n29, B b30, B b31], .res [.one (B b32)], .br true]) (by kernel_rfl) h
theorem spec_ClusterOk_L2_s5 (n1 : Int) (l8 : List (List D)) (n9 n10 : Int) (l11 l12 l13 l14 : List (List D)) (n15 : Int) (b16 : Bool) (n17 n18 : Int) (b19 b20 b21 b22 : Bool) (n23 n24 : Int) (b25 b26 b27 : Bool) (n28 n29 : Int) (b30 b31 b32 : Bool)
  (h : Obs [decide (n15 < (↑l13.length : Int)) = true, 0 ≤ n15, n15 < (↑l13.length : Int), l13[n15.toNat]? = some [B b16, I n17, I n18, B b19, B b20], inInt .i64 (n1 - 1), Ret Tryz.prog 138 [.one (I n17), .one (I 0), .one (I (n1 - 1))] [.one (B b21)], (!b21) = false, 0 ≤ n15, n15 < (↑l13.length : Int), l13[n15.toNat]? = some [B b22, I n23, I n24, B b25, B b26], (!b22) = false, 0 ≤ n15, n15 < (↑l13.length : Int), l13[n15.toNat]? = some [B b27, I n28, I n29, B b30, B b31], Ret Tryz.prog 138 [.one (I n29), .one (I (-1000000)), .one (I 1000000)] [.one (B b32)], (!b32) = false, inInt .i64 (n15 + 1)]) :
  Tr Tryz.prog (qaa Tryz.f89 2) (spec_ClusterOk_L2 n1 l8 n9 n10 l11 l12 l13 l14 n15) .normal (spec_ClusterOk_L2 n1 l8 n9 n10 l11 l12 l13 l14 (n15 + 1)) :=
 .of_loopc (ks := [7, 1, 3]) (bs := [1]) (ans := [.br true, .el [B b16, I n17, I n18, B b19, B b20], .res [.one (B b21)], .br false, .el [B b22, I n23, I n24, B b25, B b26], .br false, .el [B b27, I n28, I n29, B b30, B b31], .res [.one (B b32)], .br false]) (by kernel_rfl) h
def spec_ClusterOk_X2v8 (n0 : Int) (l1 : List (List D)) (n2 n3 : Int) (l4 l5 l6 l7 : List (List D)) : St :=
 { env := envOf 170 [(1, .al (.one (.ptr 1 0))), (3, .al (.one (.v (.int .i64 n0))))], boxes := [(1, [.sl .free 4 l1, .v (.int .i64 n2), .v (.int .i64 n3), .sl .free 8 l4, .sl .free 6 l5, .sl .free 5 l6, .sl .free 3 l7])] }
theorem spec_ClusterOk_L2_x6 (n1 : Int) (l8 : List (List D)) (n9 n10 : Int) (l11 l12 l13 l14 : List (List D)) (n15 : Int)
  (h : Obs [decide (n15 < (↑l13.length : Int)) = false]) :
  Tr Tryz.prog (qaa Tryz.f89 2) (spec_ClusterOk_L2 n1 l8 n9 n10 l11 l12 l13 l14 n15) (.exit 4) (spec_ClusterOk_X2v8 n1 l8 n9 n10 l11 l12 l13 l14) :=
 .of_loopc (ks := [1, 3]) (bs := [1]) (ans := [.br false]) (by kernel_rfl) h
theorem spec_ClusterOk_p6 (l0 : List (List D)) (n1 n2 : Int) (l3 l4 l5 l6 : List (List D)) (b7 : Bool) (l8 : List (List D)) (n9 n10 : Int) (l11 l12 l13 l14 : List (List D)) (b15 : Bool)
  (h : Obs [Ret Tryz.prog 140 [.agg [D.sl 4 l0, I n1, I n2]] [.one (B b7)], (!b7) = false, ((↑l3.length : Int) != n1) = false, inInt .i64 (n1 * n1), ((↑l4.length : Int) != n1 * n1) = false, ((↑l5.length : Int) != 4) = false, qac Tryz.prog (qaa Tryz.f89 0) (spec_ClusterOk_L0 l0 n1 n2 l3 l4 l5 l6 0) (.exit 0) (spec_ClusterOk_X0v2 l0 n1 n2 l3 l4 l5 l6), qac Tryz.prog (qaa Tryz.f89 1) (spec_ClusterOk_L1 n1 0 l0 n1 n2 l3 l4 l5 l6) (.exit 2) (spec_ClusterOk_X1v5 n1 l8 n9 n10 l11 l12 l13 l14), qac Tryz.prog (qaa Tryz.f89 2) (spec_ClusterOk_L2 n1 l8 n9 n10 l11 l12 l13 l14 0) .ret (spec_ClusterOk_X2 b15)]) :
  Ret Tryz.prog 89 [.agg [D.sl 4 l0, I n1, I n2, D.sl 8 l3, D.sl 6 l4, D.sl 5 l5, D.sl 3 l6]] [.one (B b15)] :=
 .of [.res [.one (B b7)], .br false, .br false, .br false, .br false, .loop [] [4, 3, 1] [1] (.exit 0) (spec_ClusterOk_X0v2 l0 n1 n2 l3 l4 l5 l6), .loop [] [5, 1, 3] [1] (.exit 2) (spec_ClusterOk_X1v5 n1 l8 n9 n10 l11 l12 l13 l14), .loop [] [7, 1, 3] [1] .ret (spec_ClusterOk_X2 b15)] _ Tryz.func89 rfl (by kernel_rfl) h
def spec_ClusterOk_L3 (n0 : Int) (l1 : List (List D)) (n2 n3 : Int) (l4 l5 l6 l7 : List (List D)) (n8 : Int) : St :=
 { env := envOf 170 [(1, .al (.one (.ptr 1 0))), (3, .al (.one (.v (.int .i64 n0)))), (8, .al (.one (.v (.int .i64 n8))))], boxes := [(1, [.sl .free 4 l1, .v (.int .i64 n2), .v (.int .i64 n3), .sl .free 8 l4, .sl .free 6 l5, .sl .free 5 l6, .sl .free 3 l7])] }
def spec_ClusterOk_X3 (b0 : Bool) : St :=
 { env := envOf 170 [(2, .al (.one (.sb b0)))], boxes := [] }
theorem spec_ClusterOk_L3_x0 (n1 : Int) (l8 : List (List D)) (n9 n10 : Int) (l11 l12 l13 l14 : List (List D)) (n15 n16 n17 : Int) (b18 b19 : Bool)
  (h : Obs [decide (n15 < (↑l14.length : Int)) = true, 0 ≤ n15, n15 < (↑l14.length : Int), l14[n15.toNat]? = some [I n16, I n17, B b18], inInt .i64 (n1 - 1), Ret Tryz.prog 138 [.one (I n16), .one (I 0), .one (I (n1 - 1))] [.one (B b19)], (!b19) = true]) :
  Tr Tryz.prog (qaa Tryz.f89 3) (spec_ClusterOk_L3 n1 l8 n9 n10 l11 l12 l13 l14 n15) .ret (spec_ClusterOk_X3 false) :=
 .of_loopc (ks := [2]) (bs := []) (ans := [.br true, .el [I n16, I n17, B b18], .res [.one (B b19)], .br true]) (by kernel_rfl) h
theorem spec_ClusterOk_L3_x1 (n1 : Int) (l8 : List (List D)) (n9 n10 : Int) (l11 l12 l13 l14 : List (List D)) (n15 n16 n17 : Int) (b18 b19 : Bool) (n20 n21 : Int) (b22 b23 : Bool)
  (h : Obs [decide (n15 < (↑l14.length : Int)) = true, 0 ≤ n15, n15 < (↑l14.length : Int), l14[n15.toNat]? = some [I n16, I n17, B b18], inInt .i64 (n1 - 1), Ret Tryz.prog 138 [.one (I n16), .one (I 0), .one (I (n1 - 1))] [.one (B b19)], (!b19) = false, 0 ≤ n15, n15 < (↑l14.length : Int), l14[n15.toNat]? = some [I n20, I n21, B b22], Ret Tryz.prog 138 [.one (I n21), .one (I 0), .one (I 3)] [.one (B b23)], (!b23) = true]) :
  Tr Tryz.prog (qaa Tryz.f89 3) (spec_ClusterOk_L3 n1 l8 n9 n10 l11 l12 l13 l14 n15) .ret (spec_ClusterOk_X3 false) :=
 .of_loopc (ks := [2]) (bs := []) (ans := [.br true, .el [I n16, I n17, B b18], .res [.one (B b19)], .br false, .el [I n20, I n21, B b22], .res [.one (B b23)], .br true]) (by kernel_rfl) h
theorem spec_ClusterOk_L3_s2 (n1 : Int) (l8 : List (List D)) (n9 n10 : Int) (l11 l12 l13 l14 : List (List D)) (n15 n16 n17 : Int) (b18 b19 : Bool) (n20 n21 : Int) (b22 b23 : Bool)
  (h : Obs [decide (n15 < (↑l14.length : Int)) = true, 0 ≤ n15, n15 < (↑l14.length : Int), l14[n15.toNat]? = some [I n16, I n17, B b18], inInt .i64 (n1 - 1), Ret Tryz.prog 138 [.one (I n16), .one (I 0), .one (I (n1 - 1))] [.one (B b19)], (!b19) = false, 0 ≤ n15, n15 < (↑l14.length : Int), l14[n15.toNat]? = some [I n20, I n21, B b22], Ret Tryz.prog 138 [.one (I n21), .one (I 0), .one (I 3)] [.one (B b23)], (!b23) = false, inInt .i64 (n15 + 1)]) :
  Tr Tryz.prog (qaa Tryz.f89 3) (spec_ClusterOk_L3 n1 l8 n9 n10 l11 l12 l13 l14 n15) .normal (spec_ClusterOk_L3 n1 l8 n9 n10 l11 l12 l13 l14 (n15 + 1)) :=
 .of_loopc (ks := [8, 1, 3]) (bs := [1]) (ans := [.br true, .el [I n16, I n17, B b18], .res [.one (B b19)], .br false, .el [I n20, I n21, B b22], .res [.one (B b23)], .br false]) (by kernel_rfl) h
def spec_ClusterOk_X3v11 : St :=
 { env := envOf 170 [], boxes := [] }
theorem spec_ClusterOk_L3_x3 (n1 : Int) (l8 : List (List D)) (n9 n10 : Int) (l11 l12 l13 l14 : List (List D)) (n15 : Int)
  (h : Obs [decide (n15 < (↑l14.length : Int)) = false]) :
  Tr Tryz.prog (qaa Tryz.f89 3) (spec_ClusterOk_L3 n1 l8 n9 n10 l11 l12 l13 l14 n15) (.exit 6) spec_ClusterOk_X3v11 :=
 .of_loopc (ks := []) (bs := []) (ans := [.br false]) (by kernel_rfl) h
theorem spec_ClusterOk_p7 (l0 : List (List D)) (n1 n2 : Int) (l3 l4 l5 l6 : List (List D)) (b7 : Bool) (l8 : List (List D)) (n9 n10 : Int) (l11 l12 l13 l14 : List (List D)) (b15 : Bool)
  (h : Obs [Ret Tryz.prog 140 [.agg [D.sl 4 l0, I n1, I n2]] [.one (B b7)], (!b7) = false, ((↑l3.length : Int) != n1) = false, inInt .i64 (n1 * n1), ((↑l4.length : Int) != n1 * n1) = false, ((↑l5.length : Int) != 4) = false, qac Tryz.prog (qaa Tryz.f89 0) (spec_ClusterOk_L0 l0 n1 n2 l3 l4 l5 l6 0) (.exit 0) (spec_ClusterOk_X0v2 l0 n1 n2 l3 l4 l5 l6), qac Tryz.prog (qaa Tryz.f89 1) (spec_ClusterOk_L1 n1 0 l0 n1 n2 l3 l4 l5 l6) (.exit 2) (spec_ClusterOk_X1v5 n1 l8 n9 n10 l11 l12 l13 l14), qac Tryz.prog (qaa Tryz.f89 2) (spec_ClusterOk_L2 n1 l8 n9 n10 l11 l12 l13 l14 0) (.exit 4) (spec_ClusterOk_X2v8 n1 l8 n9 n10 l11 l12 l13 l14), qac Tryz.prog (qaa Tryz.f89 3) (spec_ClusterOk_L3 n1 l8 n9 n10 l11 l12 l13 l14 0) .ret (spec_ClusterOk_X3 b15)]) :
  Ret Tryz.prog 89 [.agg [D.sl 4 l0, I n1, I n2, D.sl 8 l3, D.sl 6 l4, D.sl 5 l5, D.sl 3 l6]] [.one (B b15)] :=
 .of [.res [.one (B b7)], .br false, .br false, .br false, .br false, .loop [] [4, 3, 1] [1] (.exit 0) (spec_ClusterOk_X0v2 l0 n1 n2 l3 l4 l5 l6), .loop [] [5, 1, 3] [1] (.exit 2) (spec_ClusterOk_X1v5 n1 l8 n9 n10 l11 l12 l13 l14), .loop [] [7, 1, 3] [1] (.exit 4) (spec_ClusterOk_X2v8 n1 l8 n9 n10 l11 l12 l13 l14), .loop [] [8, 1, 3] [1] .ret (spec_ClusterOk_X3 b15)] _ Tryz.func89 rfl (by kernel_rfl) h
theorem spec_ClusterOk_p8 (l0 : List (List D)) (n1 n2 : Int) (l3 l4 l5 l6 : List (List D)) (b7 : Bool) (l8 : List (List D)) (n9 n10 : Int) (l11 l12 l13 l14 : List (List D))
  (h : Obs [Ret Tryz.prog 140 [.agg [D.sl 4 l0, I n1, I n2]] [.one (B b7)], (!b7) = false, ((↑l3.length : Int) != n1) = false, inInt .i64 (n1 * n1), ((↑l4.length : Int) != n1 * n1) = false, ((↑l5.length : Int) != 4) = false, qac Tryz.prog (qaa Tryz.f89 0) (spec_ClusterOk_L0 l0 n1 n2 l3 l4 l5 l6 0) (.exit 0) (spec_ClusterOk_X0v2 l0 n1 n2 l3 l4 l5 l6), qac Tryz.prog (qaa Tryz.f89 1) (spec_ClusterOk_L1 n1 0 l0 n1 n2 l3 l4 l5 l6) (.exit 2) (spec_ClusterOk_X1v5 n1 l8 n9 n10 l11 l12 l13 l14), qac Tryz.prog (qaa Tryz.f89 2) (spec_ClusterOk_L2 n1 l8 n9 n10 l11 l12 l13 l14 0) (.exit 4) (spec_ClusterOk_X2v8 n1 l8 n9 n10 l11 l12 l13 l14), qac Tryz.prog (qaa Tryz.f89 3) (spec_ClusterOk_L3 n1 l8 n9 n10 l11 l12 l13 l14 0) (.exit 6) spec_ClusterOk_X3v11]) :
  Ret Tryz.prog 89 [.agg [D.sl 4 l0, I n1, I n2, D.sl 8 l3, D.sl 6 l4, D.sl 5 l5, D.sl 3 l6]] [.one (B true)] :=
 .of [.res [.one (B b7)], .br false, .br false, .br false, .br false, .loop [] [4, 3, 1] [1] (.exit 0) (spec_ClusterOk_X0v2 l0 n1 n2 l3 l4 l5 l6), .loop [] [5, 1, 3] [1] (.exit 2) (spec_ClusterOk_X1v5 n1 l8 n9 n10 l11 l12 l13 l14), .loop [] [7, 1, 3] [1] (.exit 4) (spec_ClusterOk_X2v8 n1 l8 n9 n10 l11 l12 l13 l14), .loop [] [8, 1, 3] [1] (.exit 6) spec_ClusterOk_X3v11] _ Tryz.func89 rfl (by kernel_rfl) h
theorem impl_ClusterOk_p0 (l0 : List (List D)) (n1 n2 : Int) (l3 l4 l5 l6 : List (List D)) (b7 : Bool)
  (h : Obs [Ret Tryz.prog 151 [.agg [D.sl 4 l0, I n1, I n2]] [.one (B b7)], (!b7) = true]) :
  Ret Tryz.prog 94 [.agg [D.sl 4 l0, I n1, I n2, D.sl 8 l3, D.sl 6 l4, D.sl 5 l5, D.sl 3 l6]] [.one (B false)] :=
 .of [.res [.one (B b7)], .br true] _ Tryz.func94 rfl (by kernel_rfl) h
theorem impl_ClusterOk_p1 (l0 : List (List D)) (n1 n2 : Int) (l3 l4 l5 l6 : List (List D)) (b7 : Bool)
  (h : Obs [Ret Tryz.prog 151 [.agg [D.sl 4 l0, I n1, I n2]] [.one (B b7)], (!b7) = false, ((↑l3.length : Int) != n1) = true]) :
  Ret Tryz.prog 94 [.agg [D.sl 4 l0, I n1, I n2, D.sl 8 l3, D.sl 6 l4, D.sl 5 l5, D.sl 3 l6]] [.one (B false)] :=
 .of [.res [.one (B b7)], .br false, .br true] _ Tryz.func94 rfl (by kernel_rfl) h
theorem impl_ClusterOk_p2 (l0 : List (List D)) (n1 n2 : Int) (l3 l4 l5 l6 : List (List D)) (b7 : Bool)
  (h : Obs [Ret Tryz.prog 151 [.agg [D.sl 4 l0, I n1, I n2]] [.one (B b7)], (!b7) = false, ((↑l3.length : Int) != n1) = false, inInt .i64 (n1 * n1), ((↑l4.length : Int) != n1 * n1) = true]) :
  Ret Tryz.prog 94 [.agg [D.sl 4 l0, I n1, I n2, D.sl 8 l3, D.sl 6 l4, D.sl 5 l5, D.sl 3 l6]] [.one (B false)] :=
 .of [.res [.one (B b7)], .br false, .br false, .br true] _ Tryz.func94 rfl (by kernel_rfl) h
theorem impl_ClusterOk_p3 (l0 : List (List D)) (n1 n2 : Int) (l3 l4 l5 l6 : List (List D)) (b7 : Bool)
  (h : Obs [Ret Tryz.prog 151 [.agg [D.sl 4 l0, I n1, I n2]] [.one (B b7)], (!b7) = false, ((↑l3.length : Int) != n1) = false, inInt .i64 (n1 * n1), ((↑l4.length : Int) != n1 * n1) = false, ((↑l5.length : Int) != 4) = true]) :
  Ret Tryz.prog 94 [.agg [D.sl 4 l0, I n1, I n2, D.sl 8 l3, D.sl 6 l4, D.sl 5 l5, D.sl 3 l6]] [.one (B false)] :=
 .of [.res [.one (B b7)], .br false, .br false, .br false, .br true] _ Tryz.func94 rfl (by kernel_rfl) h
def impl_ClusterOk_L0 (n0 : Int) (l1 : List (List D)) (n2 : Int) (l3 : List (List D)) (n4 n5 : Int) (l6 l7 l8 l9 : List (List D)) : St :=
 { env := envOf 147 [(1, .al (.one (.ptr 1 0))), (3, .al (.one (.v (.int .i64 n0)))), (42, .al (.one (.sl .free 8 l1))), (43, .al (.one (.v (.int .i64 (↑l1.length : Int))))), (44, .al (.one (.v (.int .i64 n2))))], boxes := [(1, [.sl .free 4 l3, .v (.int .i64 n4), .v (.int .i64 n5), .sl .free 8 l6, .sl .free 6 l7, .sl .free 5 l8, .sl .free 3 l9])] }
def impl_ClusterOk_X0 (b0 : Bool) : St :=
 { env := envOf 147 [(2, .al (.one (.sb b0)))], boxes := [] }
theorem impl_ClusterOk_L0_x0 (n1 : Int) (l3 : List (List D)) (n8 : Int) (l9 : List (List D)) (n10 n11 : Int) (l12 l13 l14 l15 l16 l17 l18 l19 l20 l21 l22 l23 : List (List D)) (b24 : Bool)
  (h : Obs [decide (n8 < (↑l3.length : Int)) = true, 0 ≤ n8, n8 < (↑l3.length : Int), l3[n8.toNat]? = some [D.sl 5 l16, D.sl 5 l17, D.sl 5 l18, D.sl 4 l19, D.sl 1 l20, D.sl 1 l21, D.sl 1 l22, D.sl 2 l23], Ret Tryz.prog 182 [.agg [D.sl 4 l9, I n10, I n11], .agg [D.sl 5 l16, D.sl 5 l17, D.sl 5 l18, D.sl 4 l19, D.sl 1 l20, D.sl 1 l21, D.sl 1 l22, D.sl 2 l23]] [.one (B b24)], (!b24) = true]) :
  Tr Tryz.prog (qaa Tryz.f94 0) (impl_ClusterOk_L0 n1 l3 n8 l9 n10 n11 l12 l13 l14 l15) .ret (impl_ClusterOk_X0 false) :=
 .of_loopc (ks := [2]) (bs := []) (ans := [.br true, .el [D.sl 5 l16, D.sl 5 l17, D.sl 5 l18, D.sl 4 l19, D.sl 1 l20, D.sl 1 l21, D.sl 1 l22, D.sl 2 l23], .res [.one (B b24)], .br true]) (by kernel_rfl) h
theorem impl_ClusterOk_L0_s1 (n1 : Int) (l3 : List (List D)) (n8 : Int) (l9 : List (List D)) (n10 n11 : Int) (l12 l13 l14 l15 l16 l17 l18 l19 l20 l21 l22 l23 : List (List D)) (b24 : Bool)
  (h : Obs [decide (n8 < (↑l3.length : Int)) = true, 0 ≤ n8, n8 < (↑l3.length : Int), l3[n8.toNat]? = some [D.sl 5 l16, D.sl 5 l17, D.sl 5 l18, D.sl 4 l19, D.sl 1 l20, D.sl 1 l21, D.sl 1 l22, D.sl 2 l23], Ret Tryz.prog 182 [.agg [D.sl 4 l9, I n10, I n11], .agg [D.sl 5 l16, D.sl 5 l17, D.sl 5 l18, D.sl 4 l19, D.sl 1 l20, D.sl 1 l21, D.sl 1 l22, D.sl 2 l23]] [.one (B b24)], (!b24) = false, inInt .i64 (n8 + 1)]) :
  Tr Tryz.prog (qaa Tryz.f94 0) (impl_ClusterOk_L0 n1 l3 n8 l9 n10 n11 l12 l13 l14 l15) .normal (impl_ClusterOk_L0 n1 l3 (n8 + 1) l9 n10 n11 l12 l13 l14 l15) :=
 .of_loopc (ks := [44, 43, 42, 1, 3]) (bs := [1]) (ans := [.br true, .el [D.sl 5 l16, D.sl 5 l17, D.sl 5 l18, D.sl 4 l19, D.sl 1 l20, D.sl 1 l21, D.sl 1 l22, D.sl 2 l23], .res [.one (B b24)], .br false]) (by kernel_rfl) h
def impl_ClusterOk_X0v2 (n0 : Int) (l1 : List (List D)) (n2 n3 : Int) (l4 l5 l6 l7 : List (List D)) : St :=
 { env := envOf 147 [(1, .al (.one (.ptr 1 0))), (3, .al (.one (.v (.int .i64 n0))))], boxes := [(1, [.sl .free 4 l1, .v (.int .i64 n2), .v (.int .i64 n3), .sl .free 8 l4, .sl .free 6 l5, .sl .free 5 l6, .sl .free 3 l7])] }
theorem impl_ClusterOk_L0_x2 (n1 : Int) (l3 : List (List D)) (n8 : Int) (l9 : List (List D)) (n10 n11 : Int) (l12 l13 l14 l15 : List (List D))
  (h : Obs [decide (n8 < (↑l3.length : Int)) = false]) :
  Tr Tryz.prog (qaa Tryz.f94 0) (impl_ClusterOk_L0 n1 l3 n8 l9 n10 n11 l12 l13 l14 l15) (.exit 0) (impl_ClusterOk_X0v2 n1 l9 n10 n11 l12 l13 l14 l15) :=
 .of_loopc (ks := [1, 3]) (bs := [1]) (ans := [.br false]) (by kernel_rfl) h
theorem impl_ClusterOk_p4 (l0 : List (List D)) (n1 n2 : Int) (l3 l4 l5 l6 : List (List D)) (b7 b8 : Bool)
  (h : Obs [Ret Tryz.prog 151 [.agg [D.sl 4 l0, I n1, I n2]] [.one (B b7)], (!b7) = false, ((↑l3.length : Int) != n1) = false, inInt .i64 (n1 * n1), ((↑l4.length : Int) != n1 * n1) = false, ((↑l5.length : Int) != 4) = false, qac Tryz.prog (qaa Tryz.f94 0) (impl_ClusterOk_L0 n1 l3 0 l0 n1 n2 l3 l4 l5 l6) .ret (impl_ClusterOk_X0 b8)]) :
  Ret Tryz.prog 94 [.agg [D.sl 4 l0, I n1, I n2, D.sl 8 l3, D.sl 6 l4, D.sl 5 l5, D.sl 3 l6]] [.one (B b8)] :=
 .of [.res [.one (B b7)], .br false, .br false, .br false, .br false, .loop [] [44, 43, 42, 1, 3] [1] .ret (impl_ClusterOk_X0 b8)] _ Tryz.func94 rfl (by kernel_rfl) h
def impl_ClusterOk_L1 (n0 : Int) (l1 : List (List D)) (n2 : Int) (l3 : List (List D)) (n4 n5 : Int) (l6 l7 l8 l9 : List (List D)) : St :=
 { env := envOf 147 [(1, .al (.one (.ptr 1 0))), (3, .al (.one (.v (.int .i64 n0)))), (55, .al (.one (.sl .free 6 l1))), (56, .al (.one (.v (.int .i64 (↑l1.length : Int))))), (57, .al (.one (.v (.int .i64 n2))))], boxes := [(1, [.sl .free 4 l3, .v (.int .i64 n4), .v (.int .i64 n5), .sl .free 8 l6, .sl .free 6 l7, .sl .free 5 l8, .sl .free 3 l9])] }
def impl_ClusterOk_X1 (b0 : Bool) : St :=
 { env := envOf 147 [(2, .al (.one (.sb b0)))], boxes := [] }
theorem impl_ClusterOk_L1_x0 (n1 : Int) (l12 : List (List D)) (n15 : Int) (l16 : List (List D)) (n17 n18 : Int) (l19 l20 l21 l22 : List (List D)) (n23 : Int) (l24 : List (List D)) (n25 n26 n27 n28 : Int) (b29 : Bool)
  (h : Obs [decide (n15 < (↑l12.length : Int)) = true, 0 ≤ n15, n15 < (↑l12.length : Int), l12[n15.toNat]? = some [I n23, D.sl 5 l24, I n25, I n26, I n27, I n28], Ret Tryz.prog 183 [.agg [I n23, D.sl 5 l24, I n25, I n26, I n27, I n28]] [.one (B b29)], (!b29) = true]) :
  Tr Tryz.prog (qaa Tryz.f94 1) (impl_ClusterOk_L1 n1 l12 n15 l16 n17 n18 l19 l20 l21 l22) .ret (impl_ClusterOk_X1 false) :=
 .of_loopc (ks := [2]) (bs := []) (ans := [.br true, .el [I n23, D.sl 5 l24, I n25, I n26, I n27, I n28], .res [.one (B b29)], .br true]) (by kernel_rfl) h
theorem impl_ClusterOk_L1_x1 (n1 : Int) (l12 : List (List D)) (n15 : Int) (l16 : List (List D)) (n17 n18 : Int) (l19 l20 l21 l22 : List (List D)) (n23 : Int) (l24 : List (List D)) (n25 n26 n27 n28 : Int) (b29 : Bool)
  (h : Obs [decide (n15 < (↑l12.length : Int)) = true, 0 ≤ n15, n15 < (↑l12.length : Int), l12[n15.toNat]? = some [I n23, D.sl 5 l24, I n25, I n26, I n27, I n28], Ret Tryz.prog 183 [.agg [I n23, D.sl 5 l24, I n25, I n26, I n27, I n28]] [.one (B b29)], (!b29) = false, (n23 != n18) = true]) :
  Tr Tryz.prog (qaa Tryz.f94 1) (impl_ClusterOk_L1 n1 l12 n15 l16 n17 n18 l19 l20 l21 l22) .ret (impl_ClusterOk_X1 false) :=
 .of_loopc (ks := [2]) (bs := []) (ans := [.br true, .el [I n23, D.sl 5 l24, I n25, I n26, I n27, I n28], .res [.one (B b29)], .br false, .br true]) (by kernel_rfl) h
theorem impl_ClusterOk_L1_x2 (n1 : Int) (l12 : List (List D)) (n15 : Int) (l16 : List (List D)) (n17 n18 : Int) (l19 l20 l21 l22 : List (List D)) (n23 : Int) (l24 : List (List D)) (n25 n26 n27 n28 : Int) (b29 b30 : Bool)
  (h : Obs [decide (n15 < (↑l12.length : Int)) = true, 0 ≤ n15, n15 < (↑l12.length : Int), l12[n15.toNat]? = some [I n23, D.sl 5 l24, I n25, I n26, I n27, I n28], Ret Tryz.prog 183 [.agg [I n23, D.sl 5 l24, I n25, I n26, I n27, I n28]] [.one (B b29)], (!b29) = false, (n23 != n18) = false, Ret Tryz.prog 184 [.agg [D.sl 4 l16, I n17, I n18], .one (.sl 5 l24)] [.one (B b30)], (!b30) = true]) :
  Tr Tryz.prog (qaa Tryz.f94 1) (impl_ClusterOk_L1 n1 l12 n15 l16 n17 n18 l19 l20 l21 l22) .ret (impl_ClusterOk_X1 false) :=
 .of_loopc (ks := [2]) (bs := []) (ans := [.br true, .el [I n23, D.sl 5 l24, I n25, I n26, I n27, I n28], .res [.one (B b29)], .br false, .br false, .res [.one (B b30)], .br true]) (by kernel_rfl) h
theorem impl_ClusterOk_L1_x3 (n1 : Int) (l12 : List (List D)) (n15 : Int) (l16 : List (List D)) (n17 n18 : Int) (l19 l20 l21 l22 : List (List D)) (n23 : Int) (l24 : List (List D)) (n25 n26 n27 n28 : Int) (b29 b30 : Bool)
  (h : Obs [decide (n15 < (↑l12.length : Int)) = true, 0 ≤ n15, n15 < (↑l12.length : Int), l12[n15.toNat]? = some [I n23, D.sl 5 l24, I n25, I n26, I n27, I n28], Ret Tryz.prog 183 [.agg [I n23, D.sl 5 l24, I n25, I n26, I n27, I n28]] [.one (B b29)], (!b29) = false, (n23 != n18) = false, Ret Tryz.prog 184 [.agg [D.sl 4 l16, I n17, I n18], .one (.sl 5 l24)] [.one (B b30)], (!b30) = false, n1 ≠ 0, inInt .i64 (n15.tdiv n1), n1 ≠ 0, (n15.tdiv n1 == n15.tmod n1) = true, decide ((↑l24.length : Int) > 0) = true]) :
  Tr Tryz.prog (qaa Tryz.f94 1) (impl_ClusterOk_L1 n1 l12 n15 l16 n17 n18 l19 l20 l21 l22) .ret (impl_ClusterOk_X1 false) :=
 .of_loopc (ks := [2]) (bs := []) (ans := [.br true, .el [I n23, D.sl 5 l24, I n25, I n26, I n27, I n28], .res [.one (B b29)], .br false, .br false, .res [.one (B b30)], .br false, .br true, .br true]) (by kernel_rfl) h
theorem impl_ClusterOk_L1_s4 (n1 : Int) (l12 : List (List D)) (n15 : Int) (l16 : List (List D)) (n17 n18 : Int) (l19 l20 l21 l22 : List (List D)) (n23 : Int) (l24 : List (List D)) (n25 n26 n27 n28 : Int) (b29 b30 : Bool)
  (h : Obs [decide (n15 < (↑l12.length : Int)) = true, 0 ≤ n15, n15 < (↑l12.length : Int), l12[n15.toNat]? = some [I n23, D.sl 5 l24, I n25, I n26, I n27, I n28], Ret Tryz.prog 183 [.agg [I n23, D.sl 5 l24, I n25, I n26, I n27, I n28]] [.one (B b29)], (!b29) = false, (n23 != n18) = false, Ret Tryz.prog 184 [.agg [D.sl 4 l16, I n17, I n18], .one (.sl 5 l24)] [.one (B b30)], (!b30) = false, n1 ≠ 0, inInt .i64 (n15.tdiv n1), n1 ≠ 0, (n15.tdiv n1 == n15.tmod n1) = true, decide ((↑l24.length : Int) > 0) = false, inInt .i64 (n15 + 1)]) :
  Tr Tryz.prog (qaa Tryz.f94 1) (impl_ClusterOk_L1 n1 l12 n15 l16 n17 n18 l19 l20 l21 l22) .normal (impl_ClusterOk_L1 n1 l12 (n15 + 1) l16 n17 n18 l19 l20 l21 l22) :=
 .of_loopc (ks := [57, 56, 55, 1, 3]) (bs := [1]) (ans := [.br true, .el [I n23, D.sl 5 l24, I n25, I n26, I n27, I n28], .res [.one (B b29)], .br false, .br false, .res [.one (B b30)], .br false, .br true, .br false]) (by kernel_rfl) h
theorem impl_ClusterOk_L1_s5 (n1 : Int) (l12 : List (List D)) (n15 : Int) (l16 : List (List D)) (n17 n18 : Int) (l19 l20 l21 l22 : List (List D)) (n23 : Int) (l24 : List (List D)) (n25 n26 n27 n28 : Int) (b29 b30 : Bool)
  (h : Obs [decide (n15 < (↑l12.length : Int)) = true, 0 ≤ n15, n15 < (↑l12.length : Int), l12[n15.toNat]? = some [I n23, D.sl 5 l24, I n25, I n26, I n27, I n28], Ret Tryz.prog 183 [.agg [I n23, D.sl 5 l24, I n25, I n26, I n27, I n28]] [.one (B b29)], (!b29) = false, (n23 != n18) = false, Ret Tryz.prog 184 [.agg [D.sl 4 l16, I n17, I n18], .one (.sl 5 l24)] [.one (B b30)], (!b30) = false, n1 ≠ 0, inInt .i64 (n15.tdiv n1), n1 ≠ 0, (n15.tdiv n1 == n15.tmod n1) = false, inInt .i64 (n15 + 1)]) :
  Tr Tryz.prog (qaa Tryz.f94 1) (impl_ClusterOk_L1 n1 l12 n15 l16 n17 n18 l19 l20 l21 l22) .normal (impl_ClusterOk_L1 n1 l12 (n15 + 1) l16 n17 n18 l19 l20 l21 l22) :=
 .of_loopc (ks := [57, 56, 55, 1, 3]) (bs := [1]) (ans := [.br true, .el [I n23, D.sl 5 l24, I n25, I n26, I n27, I n28], .res [.one (B b29)], .br false, .br false, .res [.one (B b30)], .br false, .br false]) (by kernel_rfl) h
def impl_ClusterOk_X1v5 (n0 : Int) (l1 : List (List D)) (n2 n3 : Int) (l4 l5 l6 l7 : List (List D)) : St :=
 { env := envOf 147 [(1, .al (.one (.ptr 1 0))), (3, .al (.one (.v (.int .i64 n0))))], boxes := [(1, [.sl .free 4 l1, .v (.int .i64 n2), .v (.int .i64 n3), .sl .free 8 l4, .sl .free 6 l5, .sl .free 5 l6, .sl .free 3 l7])] }
theorem impl_ClusterOk_L1_x6 (n1 : Int) (l12 : List (List D)) (n15 : Int) (l16 : List (List D)) (n17 n18 : Int) (l19 l20 l21 l22 : List (List D))
  (h : Obs [decide (n15 < (↑l12.length : Int)) = false]) :
  Tr Tryz.prog (qaa Tryz.f94 1) (impl_ClusterOk_L1 n1 l12 n15 l16 n17 n18 l19 l20 l21 l22) (.exit 2) (impl_ClusterOk_X1v5 n1 l16 n17 n18 l19 l20 l21 l22) :=
 .of_loopc (ks := [1, 3]) (bs := [1]) (ans := [.br false]) (by kernel_rfl) h
theorem impl_ClusterOk_p5 (l0 : List (List D)) (n1 n2 : Int) (l3 l4 l5 l6 : List (List D)) (b7 : Bool) (l8 : List (List D)) (n9 n10 : Int) (l11 l12 l13 l14 : List (List D)) (b15 : Bool)
  (h : Obs [Ret Tryz.prog 151 [.agg [D.sl 4 l0, I n1, I n2]] [.one (B b7)], (!b7) = false, ((↑l3.length : Int) != n1) = false, inInt .i64 (n1 * n1), ((↑l4.length : Int) != n1 * n1) = false, ((↑l5.length : Int) != 4) = false, qac Tryz.prog (qaa Tryz.f94 0) (impl_ClusterOk_L0 n1 l3 0 l0 n1 n2 l3 l4 l5 l6) (.exit 0) (impl_ClusterOk_X0v2 n1 l8 n9 n10 l11 l12 l13 l14), qac Tryz.prog (qaa Tryz.f94 1) (impl_ClusterOk_L1 n1 l12 0 l8 n9 n10 l11 l12 l13 l14) .ret (impl_ClusterOk_X1 b15)]) :
  Ret Tryz.prog 94 [.agg [D.sl 4 l0, I n1, I n2, D.sl 8 l3, D.sl 6 l4, D.sl 5 l5, D.sl 3 l6]] [.one (B b15)] :=
 .of [.res [.one (B b7)], .br false, .br false, .br false, .br false, .loop [] [44, 43, 42, 1, 3] [1] (.exit 0) (impl_ClusterOk_X0v2 n1 l8 n9 n10 l11 l12 l13 l14), .loop [] [57, 56, 55, 1, 3] [1] .ret (impl_ClusterOk_X1 b15)] _ Tryz.func94 rfl (by kernel_rfl) h
def impl_ClusterOk_L2 (n0 : Int) (l1 : List (List D)) (n2 : Int) (l3 : List (List D)) (n4 n5 : Int) (l6 l7 l8 l9 : List (List D)) : St :=
 { env := envOf 147 [(1, .al (.one (.ptr 1 0))), (3, .al (.one (.v (.int .i64 n0)))), (98, .al (.one (.sl .free 5 l1))), (99, .al (.one (.v (.int .i64 (↑l1.length : Int))))), (100, .al (.one (.v (.int .i64 n2))))], boxes := [(1, [.sl .free 4 l3, .v (.int .i64 n4), .v (.int .i64 n5), .sl .free 8 l6, .sl .free 6 l7, .sl .free 5 l8, .sl .free 3 l9])] }
def impl_ClusterOk_X2 (b0 : Bool) : St :=
 { env := envOf 147 [(2, .al (.one (.sb b0)))], boxes := [] }
theorem impl_ClusterOk_L2_x0 (n1 : Int) (l20 : List (List D)) (n22 : Int) (l23 : List (List D)) (n24 n25 : Int) (l26 l27 l28 l29 : List (List D)) (b30 : Bool) (n31 n32 : Int) (b33 b34 b35 : Bool)
  (h : Obs [decide (n22 < (↑l20.length : Int)) = true, 0 ≤ n22, n22 < (↑l20.length : Int), l20[n22.toNat]? = some [B b30, I n31, I n32, B b33, B b34], inInt .i64 (n1 - 1), Ret Tryz.prog 119 [.one (I n31), .one (I 0), .one (I (n1 - 1))] [.one (B b35)], (!b35) = true]) :
  Tr Tryz.prog (qaa Tryz.f94 2) (impl_ClusterOk_L2 n1 l20 n22 l23 n24 n25 l26 l27 l28 l29) .ret (impl_ClusterOk_X2 false) :=
 .of_loopc (ks := [2]) (bs := []) (ans := [.br true, .el [B b30, I n31, I n32, B b33, B b34], .res [.one (B b35)], .br true]) (by kernel_rfl) h
theorem impl_ClusterOk_L2_x1 (n1 : Int) (l20 : List (List D)) (n22 : Int) (l23 : List (List D)) (n24 n25 : Int) (l26 l27 l28 l29 : List (List D)) (b30 : Bool) (n31 n32 : Int) (b33 b34 b35 : Bool)
  (h : Obs [decide (n22 < (↑l20.length : Int)) = true, 0 ≤ n22, n22 < (↑l20.length : Int), l20[n22.toNat]? = some [B b30, I n31, I n32, B b33, B b34], inInt .i64 (n1 - 1), Ret Tryz.prog 119 [.one (I n31), .one (I 0), .one (I (n1 - 1))] [.one (B b35)], (!b35) = false, (!b30) = true, (n31 != 0) = true]) :
  Tr Tryz.prog (qaa Tryz.f94 2) (impl_ClusterOk_L2 n1 l20 n22 l23 n24 n25 l26 l27 l28 l29) .ret (impl_ClusterOk_X2 false) :=
 .of_loopc (ks := [2]) (bs := []) (ans := [.br true, .el [B b30, I n31, I n32, B b33, B b34], .res [.one (B b35)], .br false, .br true, .br true]) (by kernel_rfl) h
theorem impl_ClusterOk_L2_x2 (n1 : Int) (l20 : List (List D)) (n22 : Int) (l23 : List (List D)) (n24 n25 : Int) (l26 l27 l28 l29 : List (List D)) (b30 : Bool) (n31 n32 : Int) (b33 b34 b35 b36 : Bool)
  (h : Obs [decide (n22 < (↑l20.length : Int)) = true, 0 ≤ n22, n22 < (↑l20.length : Int), l20[n22.toNat]? = some [B b30, I n31, I n32, B b33, B b34], inInt .i64 (n1 - 1), Ret Tryz.prog 119 [.one (I n31), .one (I 0), .one (I (n1 - 1))] [.one (B b35)], (!b35) = false, (!b30) = true, (n31 != 0) = false, Ret Tryz.prog 119 [.one (I n32), .one (I (-1000000)), .one (I 1000000)] [.one (B b36)], (!b36) = true]) :
  Tr Tryz.prog (qaa Tryz.f94 2) (impl_ClusterOk_L2 n1 l20 n22 l23 n24 n25 l26 l27 l28 l29) .ret (impl_ClusterOk_X2 false) :=
 .of_loopc (ks := [2]) (bs := []) (ans := [.br true, .el [B b30, I n31, I n32, B b33, B b34], .res [.one (B b35)], .br false, .br true, .br false, .res [.one (B b36)], .br true]) (by kernel_rfl) h
theorem impl_ClusterOk_L2_s3 (n1 : Int) (l20 : List (List D)) (n22 : Int) (l23 : List (List D)) (n24 n25 : Int) (l26 l27 l28 l29 : List (List D)) (b30 : Bool) (n31 n32 : Int) (b33 b34 b35 b36 : Bool)
  (h : Obs [decide (n22 < (↑l20.length : Int)) = true, 0 ≤ n22, n22 < (↑l20.length : Int), l20[n22.toNat]? = some [B b30, I n31, I n32, B b33, B b34], inInt .i64 (n1 - 1), Ret Tryz.prog 119 [.one (I n31), .one (I 0), .one (I (n1 - 1))] [.one (B b35)], (!b35) = false, (!b30) = true, (n31 != 0) = false, Ret Tryz.prog 119 [.one (I n32), .one (I (-1000000)), .one (I 1000000)] [.one (B b36)], (!b36) = false, inInt .i64 (n22 + 1)]) :
  Tr Tryz.prog (qaa Tryz.f94 2) (impl_ClusterOk_L2 n1 l20 n22 l23 n24 n25 l26 l27 l28 l29) .normal (impl_ClusterOk_L2 n1 l20 (n22 + 1) l23 n24 n25 l26 l27 l28 l29) :=
 .of_loopc (ks := [100, 99, 98, 3, 1]) (bs := [1]) (ans := [.br true, .el [B b30, I n31, I n32, B b33, B b34], .res [.one (B b35)], .br false, .br true, .br false, .res [.one (B b36)], .br false]) (by kernel_rfl) h
theorem impl_ClusterOk_L2_x4 (n1 : Int) (l20 : List (List D)) (n22 : Int) (l23 : List (List D)) (n24 n25 : Int) (l26 l27 l28 l29 : List (List D)) (b30 : Bool) (n31 n32 : Int) (b33 b34 b35 b36 : Bool)
  (h : Obs [decide (n22 < (↑l20.length : Int)) = true, 0 ≤ n22, n22 < (↑l20.length : Int), l20[n22.toNat]? = some [B b30, I n31, I n32, B b33, B b34], inInt .i64 (n1 - 1), Ret Tryz.prog 119 [.one (I n31), .one (I 0), .one (I (n1 - 1))] [.one (B b35)], (!b35) = false, (!b30) = false, Ret Tryz.prog 119 [.one (I n32), .one (I (-1000000)), .one (I 1000000)] [.one (B b36)], (!b36) = true]) :
  Tr Tryz.prog (qaa Tryz.f94 2) (impl_ClusterOk_L2 n1 l20 n22 l23 n24 n25 l26 l27 l28 l29) .ret (impl_ClusterOk_X2 false) :=
 .of_loopc (ks := [2]) (bs := []) (ans := [.br true, .el [B b30, I n31, I n32, B b33, B b34], .res [.one (B b35)], .br false, .br false, .res [.one (B b36)], .br true]) (by kernel_rfl) h
theorem impl_ClusterOk_L2_s5 (n1 : Int) (l20 : List (List D)) (n22 : Int) (l23 : List (List D)) (n24 n25 : Int) (l26 l27 l28 l29 : List (List D)) (b30 : Bool) (n31 n32 : Int) (b33 b34 b35 b36 : Bool)
  (h : Obs [decide (n22 < (↑l20.length : Int)) = true, 0 ≤ n22, n22 < (↑l20.length : Int), l20[n22.toNat]? = some [B b30, I n31, I n32, B b33, B b34], inInt .i64 (n1 - 1), Ret Tryz.prog 119 [.one (I n31), .one (I 0), .one (I (n1 - 1))] [.one (B b35)], (!b35) = false, (!b30) = false, Ret Tryz.prog 119 [.one (I n32), .one (I (-1000000)), .one (I 1000000)] [.one (B b36)], (!b36) = false, inInt .i64 (n22 + 1)]) :
  Tr Tryz.prog (qaa Tryz.f94 2) (impl_ClusterOk_L2 n1 l20 n22 l23 n24 n25 l26 l27 l28 l29) .normal (impl_ClusterOk_L2 n1 l20 (n22 + 1) l23 n24 n25 l26 l27 l28 l29) :=
 .of_loopc (ks := [100, 99, 98, 3, 1]) (bs := [1]) (ans := [.br true, .el [B b30, I n31, I n32, B b33, B b34], .res [.one (B b35)], .br false, .br false, .res [.one (B b36)], .br false]) (by kernel_rfl) h
def impl_ClusterOk_X2v8 (n0 : Int) (l1 : List (List D)) (n2 n3 : Int) (l4 l5 l6 l7 : List (List D)) : St :=
 { env := envOf 147 [(1, .al (.one (.ptr 1 0))), (3, .al (.one (.v (.int .i64 n0))))], boxes := [(1, [.sl .free 4 l1, .v (.int .i64 n2), .v (.int .i64 n3), .sl .free 8 l4, .sl .free 6 l5, .sl .free 5 l6, .sl .free 3 l7])] }
theorem impl_ClusterOk_L2_x6 (n1 : Int) (l20 : List (List D)) (n22 : Int) (l23 : List (List D)) (n24 n25 : Int) (l26 l27 l28 l29 : List (List D))
  (h : Obs [decide (n22 < (↑l20.length : Int)) = false]) :
  Tr Tryz.prog (qaa Tryz.f94 2) (impl_ClusterOk_L2 n1 l20 n22 l23 n24 n25 l26 l27 l28 l29) (.exit 4) (impl_ClusterOk_X2v8 n1 l23 n24 n25 l26 l27 l28 l29) :=
 .of_loopc (ks := [1, 3]) (bs := [1]) (ans := [.br false]) (by kernel_rfl) h
theorem impl_ClusterOk_p6 (l0 : List (List D)) (n1 n2 : Int) (l3 l4 l5 l6 : List (List D)) (b7 : Bool) (l8 : List (List D)) (n9 n10 : Int) (l11 l12 l13 l14 l15 : List (List D)) (n16 n17 : Int) (l18 l19 l20 l21 : List (List D)) (b22 : Bool)
  (h : Obs [Ret Tryz.prog 151 [.agg [D.sl 4 l0, I n1, I n2]] [.one (B b7)], (!b7) = false, ((↑l3.length : Int) != n1) = false, inInt .i64 (n1 * n1), ((↑l4.length : Int) != n1 * n1) = false, ((↑l5.length : Int) != 4) = false, qac Tryz.prog (qaa Tryz.f94 0) (impl_ClusterOk_L0 n1 l3 0 l0 n1 n2 l3 l4 l5 l6) (.exit 0) (impl_ClusterOk_X0v2 n1 l8 n9 n10 l11 l12 l13 l14), qac Tryz.prog (qaa Tryz.f94 1) (impl_ClusterOk_L1 n1 l12 0 l8 n9 n10 l11 l12 l13 l14) (.exit 2) (impl_ClusterOk_X1v5 n1 l15 n16 n17 l18 l19 l20 l21), qac Tryz.prog (qaa Tryz.f94 2) (impl_ClusterOk_L2 n1 l20 0 l15 n16 n17 l18 l19 l20 l21) .ret (impl_ClusterOk_X2 b22)]) :
  Ret Tryz.prog 94 [.agg [D.sl 4 l0, I n1, I n2, D.sl 8 l3, D.sl 6 l4, D.sl 5 l5, D.sl 3 l6]] [.one (B b22)] :=
 .of [.res [.one (B b7)], .br false, .br false, .br false, .br false, .loop [] [44, 43, 42, 1, 3] [1] (.exit 0) (impl_ClusterOk_X0v2 n1 l8 n9 n10 l11 l12 l13 l14), .loop [] [57, 56, 55, 1, 3] [1] (.exit 2) (impl_ClusterOk_X1v5 n1 l15 n16 n17 l18 l19 l20 l21), .loop [] [100, 99, 98, 3, 1] [1] .ret (impl_ClusterOk_X2 b22)] _ Tryz.func94 rfl (by kernel_rfl) h
def impl_ClusterOk_L3 (n0 : Int) (l1 : List (List D)) (n2 : Int) : St :=
 { env := envOf 147 [(3, .al (.one (.v (.int .i64 n0)))), (128, .al (.one (.sl .free 3 l1))), (129, .al (.one (.v (.int .i64 (↑l1.length : Int))))), (130, .al (.one (.v (.int .i64 n2))))], boxes := [] }
def impl_ClusterOk_X3 (b0 : Bool) : St :=
 { env := envOf 147 [(2, .al (.one (.sb b0)))], boxes := [] }
theorem impl_ClusterOk_L3_x0 (n1 : Int) (l28 : List (List D)) (n29 n30 n31 : Int) (b32 b33 : Bool)
  (h : Obs [decide (n29 < (↑l28.length : Int)) = true, 0 ≤ n29, n29 < (↑l28.length : Int), l28[n29.toNat]? = some [I n30, I n31, B b32], inInt .i64 (n1 - 1), Ret Tryz.prog 119 [.one (I n30), .one (I 0), .one (I (n1 - 1))] [.one (B b33)], (!b33) = true]) :
  Tr Tryz.prog (qaa Tryz.f94 3) (impl_ClusterOk_L3 n1 l28 n29) .ret (impl_ClusterOk_X3 false) :=
 .of_loopc (ks := [2]) (bs := []) (ans := [.br true, .el [I n30, I n31, B b32], .res [.one (B b33)], .br true]) (by kernel_rfl) h
theorem impl_ClusterOk_L3_x1 (n1 : Int) (l28 : List (List D)) (n29 n30 n31 : Int) (b32 b33 b34 : Bool)
  (h : Obs [decide (n29 < (↑l28.length : Int)) = true, 0 ≤ n29, n29 < (↑l28.length : Int), l28[n29.toNat]? = some [I n30, I n31, B b32], inInt .i64 (n1 - 1), Ret Tryz.prog 119 [.one (I n30), .one (I 0), .one (I (n1 - 1))] [.one (B b33)], (!b33) = false, Ret Tryz.prog 119 [.one (I n31), .one (I 0), .one (I 3)] [.one (B b34)], (!b34) = true]) :
  Tr Tryz.prog (qaa Tryz.f94 3) (impl_ClusterOk_L3 n1 l28 n29) .ret (impl_ClusterOk_X3 false) :=
 .of_loopc (ks := [2]) (bs := []) (ans := [.br true, .el [I n30, I n31, B b32], .res [.one (B b33)], .br false, .res [.one (B b34)], .br true]) (by kernel_rfl) h
theorem impl_ClusterOk_L3_s2 (n1 : Int) (l28 : List (List D)) (n29 n30 n31 : Int) (b32 b33 b34 : Bool)
  (h : Obs [decide (n29 < (↑l28.length : Int)) = true, 0 ≤ n29, n29 < (↑l28.length : Int), l28[n29.toNat]? = some [I n30, I n31, B b32], inInt .i64 (n1 - 1), Ret Tryz.prog 119 [.one (I n30), .one (I 0), .one (I (n1 - 1))] [.one (B b33)], (!b33) = false, Ret Tryz.prog 119 [.one (I n31), .one (I 0), .one (I 3)] [.one (B b34)], (!b34) = false, inInt .i64 (n29 + 1)]) :
  Tr Tryz.prog (qaa Tryz.f94 3) (impl_ClusterOk_L3 n1 l28 n29) .normal (impl_ClusterOk_L3 n1 l28 (n29 + 1)) :=
 .of_loopc (ks := [130, 129, 128, 3]) (bs := []) (ans := [.br true, .el [I n30, I n31, B b32], .res [.one (B b33)], .br false, .res [.one (B b34)], .br false]) (by kernel_rfl) h
def impl_ClusterOk_X3v11 : St :=
 { env := envOf 147 [], boxes := [] }
theorem impl_ClusterOk_L3_x3 (n1 : Int) (l28 : List (List D)) (n29 : Int)
  (h : Obs [decide (n29 < (↑l28.length : Int)) = false]) :
  Tr Tryz.prog (qaa Tryz.f94 3) (impl_ClusterOk_L3 n1 l28 n29) (.exit 6) impl_ClusterOk_X3v11 :=
 .of_loopc (ks := []) (bs := []) (ans := [.br false]) (by kernel_rfl) h
theorem impl_ClusterOk_p7 (l0 : List (List D)) (n1 n2 : Int) (l3 l4 l5 l6 : List (List D)) (b7 : Bool) (l8 : List (List D)) (n9 n10 : Int) (l11 l12 l13 l14 l15 : List (List D)) (n16 n17 : Int) (l18 l19 l20 l21 l22 : List (List D)) (n23 n24 : Int) (l25 l26 l27 l28 : List (List D)) (b29 : Bool)
  (h : Obs [Ret Tryz.prog 151 [.agg [D.sl 4 l0, I n1, I n2]] [.one (B b7)], (!b7) = false, ((↑l3.length : Int) != n1) = false, inInt .i64 (n1 * n1), ((↑l4.length : Int) != n1 * n1) = false, ((↑l5.length : Int) != 4) = false, qac Tryz.prog (qaa Tryz.f94 0) (impl_ClusterOk_L0 n1 l3 0 l0 n1 n2 l3 l4 l5 l6) (.exit 0) (impl_ClusterOk_X0v2 n1 l8 n9 n10 l11 l12 l13 l14), qac Tryz.prog (qaa Tryz.f94 1) (impl_ClusterOk_L1 n1 l12 0 l8 n9 n10 l11 l12 l13 l14) (.exit 2) (impl_ClusterOk_X1v5 n1 l15 n16 n17 l18 l19 l20 l21), qac Tryz.prog (qaa Tryz.f94 2) (impl_ClusterOk_L2 n1 l20 0 l15 n16 n17 l18 l19 l20 l21) (.exit 4) (impl_ClusterOk_X2v8 n1 l22 n23 n24 l25 l26 l27 l28), qac Tryz.prog (qaa Tryz.f94 3) (impl_ClusterOk_L3 n1 l28 0) .ret (impl_ClusterOk_X3 b29)]) :
  Ret Tryz.prog 94 [.agg [D.sl 4 l0, I n1, I n2, D.sl 8 l3, D.sl 6 l4, D.sl 5 l5, D.sl 3 l6]] [.one (B b29)] :=
 .of [.res [.one (B b7)], .br false, .br false, .br false, .br false, .loop [] [44, 43, 42, 1, 3] [1] (.exit 0) (impl_ClusterOk_X0v2 n1 l8 n9 n10 l11 l12 l13 l14), .loop [] [57, 56, 55, 1, 3] [1] (.exit 2) (impl_ClusterOk_X1v5 n1 l15 n16 n17 l18 l19 l20 l21), .loop [] [100, 99, 98, 3, 1] [1] (.exit 4) (impl_ClusterOk_X2v8 n1 l22 n23 n24 l25 l26 l27 l28), .loop [] [130, 129, 128, 3] [] .ret (impl_ClusterOk_X3 b29)] _ Tryz.func94 rfl (by kernel_rfl) h
theorem impl_ClusterOk_p8 (l0 : List (List D)) (n1 n2 : Int) (l3 l4 l5 l6 : List (List D)) (b7 : Bool) (l8 : List (List D)) (n9 n10 : Int) (l11 l12 l13 l14 l15 : List (List D)) (n16 n17 : Int) (l18 l19 l20 l21 l22 : List (List D)) (n23 n24 : Int) (l25 l26 l27 l28 : List (List D))
  (h : Obs [Ret Tryz.prog 151 [.agg [D.sl 4 l0, I n1, I n2]] [.one (B b7)], (!b7) = false, ((↑l3.length : Int) != n1) = false, inInt .i64 (n1 * n1), ((↑l4.length : Int) != n1 * n1) = false, ((↑l5.length : Int) != 4) = false, qac Tryz.prog (qaa Tryz.f94 0) (impl_ClusterOk_L0 n1 l3 0 l0 n1 n2 l3 l4 l5 l6) (.exit 0) (impl_ClusterOk_X0v2 n1 l8 n9 n10 l11 l12 l13 l14), qac Tryz.prog (qaa Tryz.f94 1) (impl_ClusterOk_L1 n1 l12 0 l8 n9 n10 l11 l12 l13 l14) (.exit 2) (impl_ClusterOk_X1v5 n1 l15 n16 n17 l18 l19 l20 l21), qac Tryz.prog (qaa Tryz.f94 2) (impl_ClusterOk_L2 n1 l20 0 l15 n16 n17 l18 l19 l20 l21) (.exit 4) (impl_ClusterOk_X2v8 n1 l22 n23 n24 l25 l26 l27 l28), qac Tryz.prog (qaa Tryz.f94 3) (impl_ClusterOk_L3 n1 l28 0) (.exit 6) impl_ClusterOk_X3v11]) :
  Ret Tryz.prog 94 [.agg [D.sl 4 l0, I n1, I n2, D.sl 8 l3, D.sl 6 l4, D.sl 5 l5, D.sl 3 l6]] [.one (B true)] :=
 .of [.res [.one (B b7)], .br false, .br false, .br false, .br false, .loop [] [44, 43, 42, 1, 3] [1] (.exit 0) (impl_ClusterOk_X0v2 n1 l8 n9 n10 l11 l12 l13 l14), .loop [] [57, 56, 55, 1, 3] [1] (.exit 2) (impl_ClusterOk_X1v5 n1 l15 n16 n17 l18 l19 l20 l21), .loop [] [100, 99, 98, 3, 1] [1] (.exit 4) (impl_ClusterOk_X2v8 n1 l22 n23 n24 l25 l26 l27 l28), .loop [] [130, 129, 128, 3] [] (.exit 6) impl_ClusterOk_X3v11] _ Tryz.func94 rfl (by kernel_rfl) h
theorem spec_SafeCluster_p0 (l0 : List (List D)) (n1 n2 : Int) (l3 l4 l5 l6 : List (List D)) (b7 : Bool)
  (h : Obs [Ret Tryz.prog 89 [.agg [D.sl 4 l0, I n1, I n2, D.sl 8 l3, D.sl 6 l4, D.sl 5 l5, D.sl 3 l6]] [.one (B b7)], (!b7) = true]) :
  Ret Tryz.prog 26 [.agg [D.sl 4 l0, I n1, I n2, D.sl 8 l3, D.sl 6 l4, D.sl 5 l5, D.sl 3 l6]] [.one (B false)] :=
 .of [.res [.one (B b7)], .br true] _ Tryz.func26 rfl (by kernel_rfl) h
theorem spec_SafeCluster_p1 (l0 : List (List D)) (n1 n2 : Int) (l3 l4 l5 l6 : List (List D)) (b7 b8 : Bool)
  (h : Obs [Ret Tryz.prog 89 [.agg [D.sl 4 l0, I n1, I n2, D.sl 8 l3, D.sl 6 l4, D.sl 5 l5, D.sl 3 l6]] [.one (B b7)], (!b7) = false, Ret Tryz.prog 90 [.agg [D.sl 4 l0, I n1, I n2, D.sl 8 l3, D.sl 6 l4, D.sl 5 l5, D.sl 3 l6]] [.one (B b8)], (!b8) = true]) :
  Ret Tryz.prog 26 [.agg [D.sl 4 l0, I n1, I n2, D.sl 8 l3, D.sl 6 l4, D.sl 5 l5, D.sl 3 l6]] [.one (B false)] :=
 .of [.res [.one (B b7)], .br false, .res [.one (B b8)], .br true] _ Tryz.func26 rfl (by kernel_rfl) h
theorem spec_SafeCluster_p2 (l0 : List (List D)) (n1 n2 : Int) (l3 l4 l5 l6 : List (List D)) (b7 b8 b9 : Bool)
  (h : Obs [Ret Tryz.prog 89 [.agg [D.sl 4 l0, I n1, I n2, D.sl 8 l3, D.sl 6 l4, D.sl 5 l5, D.sl 3 l6]] [.one (B b7)], (!b7) = false, Ret Tryz.prog 90 [.agg [D.sl 4 l0, I n1, I n2, D.sl 8 l3, D.sl 6 l4, D.sl 5 l5, D.sl 3 l6]] [.one (B b8)], (!b8) = false, Ret Tryz.prog 91 [.agg [D.sl 4 l0, I n1, I n2, D.sl 8 l3, D.sl 6 l4, D.sl 5 l5, D.sl 3 l6]] [.one (B b9)], (!b9) = true]) :
  Ret Tryz.prog 26 [.agg [D.sl 4 l0, I n1, I n2, D.sl 8 l3, D.sl 6 l4, D.sl 5 l5, D.sl 3 l6]] [.one (B false)] :=
 .of [.res [.one (B b7)], .br false, .res [.one (B b8)], .br false, .res [.one (B b9)], .br true] _ Tryz.func26 rfl (by kernel_rfl) h
def spec_SafeCluster_L0 (l0 : List (List D)) (n1 n2 : Int) (l3 l4 l5 l6 : List (List D)) (n7 : Int) : St :=
 { env := envOf 31 [(1, .al (.one (.ptr 1 0))), (3, .al (.one (.v (.int .i64 n7))))], boxes := [(1, [.sl .free 4 l0, .v (.int .i64 n1), .v (.int .i64 n2), .sl .free 8 l3, .sl .free 6 l4, .sl .free 5 l5, .sl .free 3 l6])] }
def spec_SafeCluster_X0 (b0 : Bool) : St :=
 { env := envOf 31 [(2, .al (.one (.sb b0)))], boxes := [] }
theorem spec_SafeCluster_L0_x0 (l0 : List (List D)) (n1 n2 : Int) (l3 l4 l5 l6 : List (List D)) (n10 : Int) (b11 : Bool)
  (h : Obs [decide (n10 ≤ 3) = true, Ret Tryz.prog 92 [.agg [D.sl 4 l0, I n1, I n2, D.sl 8 l3, D.sl 6 l4, D.sl 5 l5, D.sl 3 l6], .one (I n10)] [.one (B b11)], (!b11) = true]) :
  Tr Tryz.prog (qaa Tryz.f26 0) (spec_SafeCluster_L0 l0 n1 n2 l3 l4 l5 l6 n10) .ret (spec_SafeCluster_X0 false) :=
 .of_loopc (ks := [2]) (bs := []) (ans := [.br true, .res [.one (B b11)], .br true]) (by kernel_rfl) h
theorem spec_SafeCluster_L0_x1 (l0 : List (List D)) (n1 n2 : Int) (l3 l4 l5 l6 : List (List D)) (n10 : Int) (b11 b12 : Bool)
  (h : Obs [decide (n10 ≤ 3) = true, Ret Tryz.prog 92 [.agg [D.sl 4 l0, I n1, I n2, D.sl 8 l3, D.sl 6 l4, D.sl 5 l5, D.sl 3 l6], .one (I n10)] [.one (B b11)], (!b11) = false, Ret Tryz.prog 93 [.agg [D.sl 4 l0, I n1, I n2, D.sl 8 l3, D.sl 6 l4, D.sl 5 l5, D.sl 3 l6], .one (I n10)] [.one (B b12)], (!b12) = true]) :
  Tr Tryz.prog (qaa Tryz.f26 0) (spec_SafeCluster_L0 l0 n1 n2 l3 l4 l5 l6 n10) .ret (spec_SafeCluster_X0 false) :=
 .of_loopc (ks := [2]) (bs := []) (ans := [.br true, .res [.one (B b11)], .br false, .res [.one (B b12)], .br true]) (by kernel_rfl) h
theorem spec_SafeCluster_L0_s2 (l0 : List (List D)) (n1 n2 : Int) (l3 l4 l5 l6 : List (List D)) (n10 : Int) (b11 b12 : Bool)
  (h : Obs [decide (n10 ≤ 3) = true, Ret Tryz.prog 92 [.agg [D.sl 4 l0, I n1, I n2, D.sl 8 l3, D.sl 6 l4, D.sl 5 l5, D.sl 3 l6], .one (I n10)] [.one (B b11)], (!b11) = false, Ret Tryz.prog 93 [.agg [D.sl 4 l0, I n1, I n2, D.sl 8 l3, D.sl 6 l4, D.sl 5 l5, D.sl 3 l6], .one (I n10)] [.one (B b12)], (!b12) = false, inInt .i64 (n10 + 1)]) :
  Tr Tryz.prog (qaa Tryz.f26 0) (spec_SafeCluster_L0 l0 n1 n2 l3 l4 l5 l6 n10) .normal (spec_SafeCluster_L0 l0 n1 n2 l3 l4 l5 l6 (n10 + 1)) :=
 .of_loopc (ks := [3, 1]) (bs := [1]) (ans := [.br true, .res [.one (B b11)], .br false, .res [.one (B b12)], .br false]) (by kernel_rfl) h
def spec_SafeCluster_X0v2 : St :=
 { env := envOf 31 [], boxes := [] }
theorem spec_SafeCluster_L0_x3 (l0 : List (List D)) (n1 n2 : Int) (l3 l4 l5 l6 : List (List D)) (n10 : Int)
  (h : Obs [decide (n10 ≤ 3) = false]) :
  Tr Tryz.prog (qaa Tryz.f26 0) (spec_SafeCluster_L0 l0 n1 n2 l3 l4 l5 l6 n10) (.exit 0) spec_SafeCluster_X0v2 :=
 .of_loopc (ks := []) (bs := []) (ans := [.br false]) (by kernel_rfl) h
theorem spec_SafeCluster_p3 (l0 : List (List D)) (n1 n2 : Int) (l3 l4 l5 l6 : List (List D)) (b7 b8 b9 b10 : Bool)
  (h : Obs [Ret Tryz.prog 89 [.agg [D.sl 4 l0, I n1, I n2, D.sl 8 l3, D.sl 6 l4, D.sl 5 l5, D.sl 3 l6]] [.one (B b7)], (!b7) = false, Ret Tryz.prog 90 [.agg [D.sl 4 l0, I n1, I n2, D.sl 8 l3, D.sl 6 l4, D.sl 5 l5, D.sl 3 l6]] [.one (B b8)], (!b8) = false, Ret Tryz.prog 91 [.agg [D.sl 4 l0, I n1, I n2, D.sl 8 l3, D.sl 6 l4, D.sl 5 l5, D.sl 3 l6]] [.one (B b9)], (!b9) = false, qac Tryz.prog (qaa Tryz.f26 0) (spec_SafeCluster_L0 l0 n1 n2 l3 l4 l5 l6 0) .ret (spec_SafeCluster_X0 b10)]) :
  Ret Tryz.prog 26 [.agg [D.sl 4 l0, I n1, I n2, D.sl 8 l3, D.sl 6 l4, D.sl 5 l5, D.sl 3 l6]] [.one (B b10)] :=
 .of [.res [.one (B b7)], .br false, .res [.one (B b8)], .br false, .res [.one (B b9)], .br false, .loop [] [3, 1] [1] .ret (spec_SafeCluster_X0 b10)] _ Tryz.func26 rfl (by kernel_rfl) h
theorem spec_SafeCluster_p4 (l0 : List (List D)) (n1 n2 : Int) (l3 l4 l5 l6 : List (List D)) (b7 b8 b9 : Bool)
  (h : Obs [Ret Tryz.prog 89 [.agg [D.sl 4 l0, I n1, I n2, D.sl 8 l3, D.sl 6 l4, D.sl 5 l5, D.sl 3 l6]] [.one (B b7)], (!b7) = false, Ret Tryz.prog 90 [.agg [D.sl 4 l0, I n1, I n2, D.sl 8 l3, D.sl 6 l4, D.sl 5 l5, D.sl 3 l6]] [.one (B b8)], (!b8) = false, Ret Tryz.prog 91 [.agg [D.sl 4 l0, I n1, I n2, D.sl 8 l3, D.sl 6 l4, D.sl 5 l5, D.sl 3 l6]] [.one (B b9)], (!b9) = false, qac Tryz.prog (qaa Tryz.f26 0) (spec_SafeCluster_L0 l0 n1 n2 l3 l4 l5 l6 0) (.exit 0) spec_SafeCluster_X0v2]) :
  Ret Tryz.prog 26 [.agg [D.sl 4 l0, I n1, I n2, D.sl 8 l3, D.sl 6 l4, D.sl 5 l5, D.sl 3 l6]] [.one (B true)] :=
 .of [.res [.one (B b7)], .br false, .res [.one (B b8)], .br false, .res [.one (B b9)], .br false, .loop [] [3, 1] [1] (.exit 0) spec_SafeCluster_X0v2] _ Tryz.func26 rfl (by kernel_rfl) h
theorem impl_SafeCluster_p0 (l0 : List (List D)) (n1 n2 : Int) (l3 l4 l5 l6 : List (List D)) (b7 : Bool)
  (h : Obs [Ret Tryz.prog 94 [.agg [D.sl 4 l0, I n1, I n2, D.sl 8 l3, D.sl 6 l4, D.sl 5 l5, D.sl 3 l6]] [.one (B b7)], (!b7) = true]) :
  Ret Tryz.prog 27 [.agg [D.sl 4 l0, I n1, I n2, D.sl 8 l3, D.sl 6 l4, D.sl 5 l5, D.sl 3 l6]] [.one (B false)] :=
 .of [.res [.one (B b7)], .br true] _ Tryz.func27 rfl (by kernel_rfl) h
theorem impl_SafeCluster_p1 (l0 : List (List D)) (n1 n2 : Int) (l3 l4 l5 l6 : List (List D)) (b7 b8 : Bool)
  (h : Obs [Ret Tryz.prog 94 [.agg [D.sl 4 l0, I n1, I n2, D.sl 8 l3, D.sl 6 l4, D.sl 5 l5, D.sl 3 l6]] [.one (B b7)], (!b7) = false, Ret Tryz.prog 95 [.agg [D.sl 4 l0, I n1, I n2, D.sl 8 l3, D.sl 6 l4, D.sl 5 l5, D.sl 3 l6]] [.one (B b8)], (!b8) = true]) :
  Ret Tryz.prog 27 [.agg [D.sl 4 l0, I n1, I n2, D.sl 8 l3, D.sl 6 l4, D.sl 5 l5, D.sl 3 l6]] [.one (B false)] :=
 .of [.res [.one (B b7)], .br false, .res [.one (B b8)], .br true] _ Tryz.func27 rfl (by kernel_rfl) h
theorem impl_SafeCluster_p2 (l0 : List (List D)) (n1 n2 : Int) (l3 l4 l5 l6 : List (List D)) (b7 b8 b9 : Bool)
  (h : Obs [Ret Tryz.prog 94 [.agg [D.sl 4 l0, I n1, I n2, D.sl 8 l3, D.sl 6 l4, D.sl 5 l5, D.sl 3 l6]] [.one (B b7)], (!b7) = false, Ret Tryz.prog 95 [.agg [D.sl 4 l0, I n1, I n2, D.sl 8 l3, D.sl 6 l4, D.sl 5 l5, D.sl 3 l6]] [.one (B b8)], (!b8) = false, Ret Tryz.prog 96 [.agg [D.sl 4 l0, I n1, I n2, D.sl 8 l3, D.sl 6 l4, D.sl 5 l5, D.sl 3 l6]] [.one (B b9)], (!b9) = true]) :
  Ret Tryz.prog 27 [.agg [D.sl 4 l0, I n1, I n2, D.sl 8 l3, D.sl 6 l4, D.sl 5 l5, D.sl 3 l6]] [.one (B false)] :=
 .of [.res [.one (B b7)], .br false, .res [.one (B b8)], .br false, .res [.one (B b9)], .br true] _ Tryz.func27 rfl (by kernel_rfl) h
def impl_SafeCluster_L0 (l0 : List (List D)) (n1 n2 : Int) (l3 l4 l5 l6 : List (List D)) (n7 : Int) : St :=
 { env := envOf 31 [(1, .al (.one (.ptr 1 0))), (3, .al (.one (.v (.int .i64 n7))))], boxes := [(1, [.sl .free 4 l0, .v (.int .i64 n1), .v (.int .i64 n2), .sl .free 8 l3, .sl .free 6 l4, .sl .free 5 l5, .sl .free 3 l6])] }
def impl_SafeCluster_X0 (b0 : Bool) : St :=
 { env := envOf 31 [(2, .al (.one (.sb b0)))], boxes := [] }
theorem impl_SafeCluster_L0_x0 (l0 : List (List D)) (n1 n2 : Int) (l3 l4 l5 l6 : List (List D)) (n10 : Int) (b11 : Bool)
  (h : Obs [decide (n10 ≤ 3) = true, Ret Tryz.prog 97 [.agg [D.sl 4 l0, I n1, I n2, D.sl 8 l3, D.sl 6 l4, D.sl 5 l5, D.sl 3 l6], .one (I n10)] [.one (B b11)], (!b11) = true]) :
  Tr Tryz.prog (qaa Tryz.f27 0) (impl_SafeCluster_L0 l0 n1 n2 l3 l4 l5 l6 n10) .ret (impl_SafeCluster_X0 false) :=
 .of_loopc (ks := [2]) (bs := []) (ans := [.br true, .res [.one (B b11)], .br true]) (by kernel_rfl) h
theorem impl_SafeCluster_L0_x1 (l0 : List (List D)) (n1 n2 : Int) (l3 l4 l5 l6 : List (List D)) (n10 : Int) (b11 b12 : Bool)
  (h : Obs [decide (n10 ≤ 3) = true, Ret Tryz.prog 97 [.agg [D.sl 4 l0, I n1, I n2, D.sl 8 l3, D.sl 6 l4, D.sl 5 l5, D.sl 3 l6], .one (I n10)] [.one (B b11)], (!b11) = false, Ret Tryz.prog 98 [.agg [D.sl 4 l0, I n1, I n2, D.sl 8 l3, D.sl 6 l4, D.sl 5 l5, D.sl 3 l6], .one (I n10)] [.one (B b12)], (!b12) = true]) :
  Tr Tryz.prog (qaa Tryz.f27 0) (impl_SafeCluster_L0 l0 n1 n2 l3 l4 l5 l6 n10) .ret (impl_SafeCluster_X0 false) :=
 .of_loopc (ks := [2]) (bs := []) (ans := [.br true, .res [.one (B b11)], .br false, .res [.one (B b12)], .br true]) (by kernel_rfl) h
theorem impl_SafeCluster_L0_s2 (l0 : List (List D)) (n1 n2 : Int) (l3 l4 l5 l6 : List (List D)) (n10 : Int) (b11 b12 : Bool)
  (h : Obs [decide (n10 ≤ 3) = true, Ret Tryz.prog 97 [.agg [D.sl 4 l0, I n1, I n2, D.sl 8 l3, D.sl 6 l4, D.sl 5 l5, D.sl 3 l6], .one (I n10)] [.one (B b11)], (!b11) = false, Ret Tryz.prog 98 [.agg [D.sl 4 l0, I n1, I n2, D.sl 8 l3, D.sl 6 l4, D.sl 5 l5, D.sl 3 l6], .one (I n10)] [.one (B b12)], (!b12) = false, inInt .i64 (n10 + 1)]) :
  Tr Tryz.prog (qaa Tryz.f27 0) (impl_SafeCluster_L0 l0 n1 n2 l3 l4 l5 l6 n10) .normal (impl_SafeCluster_L0 l0 n1 n2 l3 l4 l5 l6 (n10 + 1)) :=
 .of_loopc (ks := [3, 1]) (bs := [1]) (ans := [.br true, .res [.one (B b11)], .br false, .res [.one (B b12)], .br false]) (by kernel_rfl) h
def impl_SafeCluster_X0v2 : St :=
 { env := envOf 31 [], boxes := [] }
theorem impl_SafeCluster_L0_x3 (l0 : List (List D)) (n1 n2 : Int) (l3 l4 l5 l6 : List (List D)) (n10 : Int)
  (h : Obs [decide (n10 ≤ 3) = false]) :
  Tr Tryz.prog (qaa Tryz.f27 0) (impl_SafeCluster_L0 l0 n1 n2 l3 l4 l5 l6 n10) (.exit 0) impl_SafeCluster_X0v2 :=
 .of_loopc (ks := []) (bs := []) (ans := [.br false]) (by kernel_rfl) h
theorem impl_SafeCluster_p3 (l0 : List (List D)) (n1 n2 : Int) (l3 l4 l5 l6 : List (List D)) (b7 b8 b9 b10 : Bool)
  (h : Obs [Ret Tryz.prog 94 [.agg [D.sl 4 l0, I n1, I n2, D.sl 8 l3, D.sl 6 l4, D.sl 5 l5, D.sl 3 l6]] [.one (B b7)], (!b7) = false, Ret Tryz.prog 95 [.agg [D.sl 4 l0, I n1, I n2, D.sl 8 l3, D.sl 6 l4, D.sl 5 l5, D.sl 3 l6]] [.one (B b8)], (!b8) = false, Ret Tryz.prog 96 [.agg [D.sl 4 l0, I n1, I n2, D.sl 8 l3, D.sl 6 l4, D.sl 5 l5, D.sl 3 l6]] [.one (B b9)], (!b9) = false, qac Tryz.prog (qaa Tryz.f27 0) (impl_SafeCluster_L0 l0 n1 n2 l3 l4 l5 l6 0) .ret (impl_SafeCluster_X0 b10)]) :
  Ret Tryz.prog 27 [.agg [D.sl 4 l0, I n1, I n2, D.sl 8 l3, D.sl 6 l4, D.sl 5 l5, D.sl 3 l6]] [.one (B b10)] :=
 .of [.res [.one (B b7)], .br false, .res [.one (B b8)], .br false, .res [.one (B b9)], .br false, .loop [] [3, 1] [1] .ret (impl_SafeCluster_X0 b10)] _ Tryz.func27 rfl (by kernel_rfl) h
theorem impl_SafeCluster_p4 (l0 : List (List D)) (n1 n2 : Int) (l3 l4 l5 l6 : List (List D)) (b7 b8 b9 : Bool)
  (h : Obs [Ret Tryz.prog 94 [.agg [D.sl 4 l0, I n1, I n2, D.sl 8 l3, D.sl 6 l4, D.sl 5 l5, D.sl 3 l6]] [.one (B b7)], (!b7) = false, Ret Tryz.prog 95 [.agg [D.sl 4 l0, I n1, I n2, D.sl 8 l3, D.sl 6 l4, D.sl 5 l5, D.sl 3 l6]] [.one (B b8)], (!b8) = false, Ret Tryz.prog 96 [.agg [D.sl 4 l0, I n1, I n2, D.sl 8 l3, D.sl 6 l4, D.sl 5 l5, D.sl 3 l6]] [.one (B b9)], (!b9) = false, qac Tryz.prog (qaa Tryz.f27 0) (impl_SafeCluster_L0 l0 n1 n2 l3 l4 l5 l6 0) (.exit 0) impl_SafeCluster_X0v2]) :
  Ret Tryz.prog 27 [.agg [D.sl 4 l0, I n1, I n2, D.sl 8 l3, D.sl 6 l4, D.sl 5 l5, D.sl 3 l6]] [.one (B true)] :=
 .of [.res [.one (B b7)], .br false, .res [.one (B b8)], .br false, .res [.one (B b9)], .br false, .loop [] [3, 1] [1] (.exit 0) impl_SafeCluster_X0v2] _ Tryz.func27 rfl (by kernel_rfl) h
end Go.Proofs.YtialmplmfcahpaaGreat
