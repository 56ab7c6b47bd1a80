import Derived.Test.YtialmplmfcahpaaGreatRows
import Derived.Test.YtialmplmfcahpaaGreatR22
set_option linter.unusedVariables false
set_option linter.unusedSimpArgs false
namespace Go.Proofs.YtialmplmfcahpaaGreat
open Go.Sx Go.RowKit Go.Proofs.Tryz
theorem qqG (n0 n1 n2 n3 : Int)
  (h : Obs [(n0 != n2) = true]) :
  Ret prog 158 [.agg [I n0, I n1], .agg [I n2, I n3]] [.one (B false)] :=
 .of [.br true] _ func158 rfl (by kernel_rfl) h
theorem qqH (n0 n1 n2 n3 : Int)
  (h : Obs [(n0 != n2) = false, (n1 != n3) = true]) :
  Ret prog 158 [.agg [I n0, I n1], .agg [I n2, I n3]] [.one (B false)] :=
 .of [.br false, .br true] _ func158 rfl (by kernel_rfl) h
theorem qqI (n0 n1 n2 n3 : Int)
  (h : Obs [(n0 != n2) = false, (n1 != n3) = false]) :
  Ret prog 158 [.agg [I n0, I n1], .agg [I n2, I n3]] [.one (B true)] :=
 .of [.br false, .br false] _ func158 rfl (by kernel_rfl) h
theorem qqJ (n0 n1 n2 n3 n4 n5 n6 n7 n8 n9 : Int)
  (h : Obs [(n0 != n5) = true]) :
  Ret prog 68 [.agg [I n0, I n1, I n2, I n3, I n4], .agg [I n5, I n6, I n7, I n8, I n9]] [.one (B false)] :=
 .of [.br true] _ func68 rfl (by kernel_rfl) h
theorem qqK (n0 n1 n2 n3 n4 n5 n6 n7 n8 n9 : Int) (b10 : Bool)
  (h : Obs [(n0 != n5) = false, Ret prog 158 [.agg [I n1, I n2], .agg [I n6, I n7]] [.one (B b10)], (!b10) = true]) :
  Ret prog 68 [.agg [I n0, I n1, I n2, I n3, I n4], .agg [I n5, I n6, I n7, I n8, I n9]] [.one (B false)] :=
 .of [.br false, .res [.one (B b10)], .br true] _ func68 rfl (by kernel_rfl) h
theorem qqL (n0 n1 n2 n3 n4 n5 n6 n7 n8 n9 : Int) (b10 : Bool)
  (h : Obs [(n0 != n5) = false, Ret prog 158 [.agg [I n1, I n2], .agg [I n6, I n7]] [.one (B b10)], (!b10) = false, (n3 != n8) = true]) :
  Ret prog 68 [.agg [I n0, I n1, I n2, I n3, I n4], .agg [I n5, I n6, I n7, I n8, I n9]] [.one (B false)] :=
 .of [.br false, .res [.one (B b10)], .br false, .br true] _ func68 rfl (by kernel_rfl) h
theorem qqM (n0 n1 n2 n3 n4 n5 n6 n7 n8 n9 : Int) (b10 : Bool)
  (h : Obs [(n0 != n5) = false, Ret prog 158 [.agg [I n1, I n2], .agg [I n6, I n7]] [.one (B b10)], (!b10) = false, (n3 != n8) = false, (n4 != n9) = true]) :
  Ret prog 68 [.agg [I n0, I n1, I n2, I n3, I n4], .agg [I n5, I n6, I n7, I n8, I n9]] [.one (B false)] :=
 .of [.br false, .res [.one (B b10)], .br false, .br false, .br true] _ func68 rfl (by kernel_rfl) h
theorem qqN (n0 n1 n2 n3 n4 n5 n6 n7 n8 n9 : Int) (b10 : Bool)
  (h : Obs [(n0 != n5) = false, Ret prog 158 [.agg [I n1, I n2], .agg [I n6, I n7]] [.one (B b10)], (!b10) = false, (n3 != n8) = false, (n4 != n9) = false]) :
  Ret prog 68 [.agg [I n0, I n1, I n2, I n3, I n4], .agg [I n5, I n6, I n7, I n8, I n9]] [.one (B true)] :=
 .of [.br false, .res [.one (B b10)], .br false, .br false, .br false] _ func68 rfl (by kernel_rfl) h
theorem qqO (l0 l1 : List (List D))
  (h : Obs [((l0.length : Int) != (l1.length : Int)) = true]) :
  Ret prog 19 [.one (.sl 5 l0), .one (.sl 5 l1)] [.one (B false)] :=
 .of [.br true] _ func19 rfl (by kernel_rfl) h
def qcl (l0 l1 : List (List D)) (n2 : Int) : St :=
 { env := envOf 27 [(0, .al (.one (.sl .free 5 l0))), (1, .al (.one (.sl .free 5 l1))), (5, .al (.one (.v (.int .i64 n2))))], boxes := [] }
def qiA (b0 : Bool) : St :=
 { env := envOf 27 [(4, .al (.one (.sb b0)))], boxes := [] }
theorem qqP (l0 l1 : List (List D)) (n2 n3 n4 n5 n6 n7 n8 n9 n10 n11 n12 : Int) (b13 : Bool)
  (h : Obs [decide (n2 < (l0.length : Int)) = true, 0 ≤ n2, n2 < (l0.length : Int), l0[n2.toNat]? = some [I n3, I n4, I n5, I n6, I n7], 0 ≤ n2, n2 < (l1.length : Int), l1[n2.toNat]? = some [I n8, I n9, I n10, I n11, I n12], Ret prog 68 [.agg [I n3, I n4, I n5, I n6, I n7], .agg [I n8, I n9, I n10, I n11, I n12]] [.one (B b13)], (!b13) = true]) :
  Tr prog (qaa f19 0) (qcl l0 l1 n2) .ret (qiA false) :=
 .of_loopc (ks := [4]) (bs := []) (ans := [.br true, .el [I n3, I n4, I n5, I n6, I n7], .el [I n8, I n9, I n10, I n11, I n12], .res [.one (B b13)], .br true]) (by kernel_rfl) h
theorem qqQ (l0 l1 : List (List D)) (n2 n3 n4 n5 n6 n7 n8 n9 n10 n11 n12 : Int) (b13 : Bool)
  (h : Obs [decide (n2 < (l0.length : Int)) = true, 0 ≤ n2, n2 < (l0.length : Int), l0[n2.toNat]? = some [I n3, I n4, I n5, I n6, I n7], 0 ≤ n2, n2 < (l1.length : Int), l1[n2.toNat]? = some [I n8, I n9, I n10, I n11, I n12], Ret prog 68 [.agg [I n3, I n4, I n5, I n6, I n7], .agg [I n8, I n9, I n10, I n11, I n12]] [.one (B b13)], (!b13) = false, inInt .i64 (n2 + 1)]) :
  Tr prog (qaa f19 0) (qcl l0 l1 n2) .normal (qcl l0 l1 (n2 + 1)) :=
 .of_loopc (ks := [5, 0, 1]) (bs := []) (ans := [.br true, .el [I n3, I n4, I n5, I n6, I n7], .el [I n8, I n9, I n10, I n11, I n12], .res [.one (B b13)], .br false]) (by kernel_rfl) h
def qiB : St :=
 { env := envOf 27 [], boxes := [] }
theorem qqR (l0 l1 : List (List D)) (n2 : Int)
  (h : Obs [decide (n2 < (l0.length : Int)) = false]) :
  Tr prog (qaa f19 0) (qcl l0 l1 n2) (.exit 0) qiB :=
 .of_loopc (ks := []) (bs := []) (ans := [.br false]) (by kernel_rfl) h
theorem qqS (l0 l1 : List (List D)) (b2 : Bool)
  (h : Obs [((l0.length : Int) != (l1.length : Int)) = false, qac prog (qaa f19 0) (qcl l0 l1 0) .ret (qiA b2)]) :
  Ret prog 19 [.one (.sl 5 l0), .one (.sl 5 l1)] [.one (B b2)] :=
 .of [.br false, .loop [] [5, 0, 1] [] .ret (qiA b2)] _ func19 rfl (by kernel_rfl) h
theorem qqT (l0 l1 : List (List D))
  (h : Obs [((l0.length : Int) != (l1.length : Int)) = false, qac prog (qaa f19 0) (qcl l0 l1 0) (.exit 0) qiB]) :
  Ret prog 19 [.one (.sl 5 l0), .one (.sl 5 l1)] [.one (B true)] :=
 .of [.br false, .loop [] [5, 0, 1] [] (.exit 0) qiB] _ func19 rfl (by kernel_rfl) h
theorem qqU (n0 n1 n2 n3 n4 n5 n6 n7 : Int)
  (h : Obs [(n0 != n4) = true]) :
  Ret prog 302 [.agg [I n0, I n1, I n2, I n3], .agg [I n4, I n5, I n6, I n7]] [.one (B false)] :=
 .of [.br true] _ func302 rfl (by kernel_rfl) h
theorem qqV (n0 n1 n2 n3 n4 n5 n6 n7 : Int)
  (h : Obs [(n0 != n4) = false, (n1 != n5) = true]) :
  Ret prog 302 [.agg [I n0, I n1, I n2, I n3], .agg [I n4, I n5, I n6, I n7]] [.one (B false)] :=
 .of [.br false, .br true] _ func302 rfl (by kernel_rfl) h
theorem qqW (n0 n1 n2 n3 n4 n5 n6 n7 : Int)
  (h : Obs [(n0 != n4) = false, (n1 != n5) = false, (n2 != n6) = true]) :
  Ret prog 302 [.agg [I n0, I n1, I n2, I n3], .agg [I n4, I n5, I n6, I n7]] [.one (B false)] :=
 .of [.br false, .br false, .br true] _ func302 rfl (by kernel_rfl) h
theorem qqX (n0 n1 n2 n3 n4 n5 n6 n7 : Int)
  (h : Obs [(n0 != n4) = false, (n1 != n5) = false, (n2 != n6) = false, (n3 != n7) = true]) :
  Ret prog 302 [.agg [I n0, I n1, I n2, I n3], .agg [I n4, I n5, I n6, I n7]] [.one (B false)] :=
 .of [.br false, .br false, .br false, .br true] _ func302 rfl (by kernel_rfl) h
theorem qqY (n0 n1 n2 n3 n4 n5 n6 n7 : Int)
  (h : Obs [(n0 != n4) = false, (n1 != n5) = false, (n2 != n6) = false, (n3 != n7) = false]) :
  Ret prog 302 [.agg [I n0, I n1, I n2, I n3], .agg [I n4, I n5, I n6, I n7]] [.one (B true)] :=
 .of [.br false, .br false, .br false, .br false] _ func302 rfl (by kernel_rfl) h
theorem qqZ (l0 l1 : List (List D))
  (h : Obs [((l0.length : Int) != (l1.length : Int)) = true]) :
  Ret prog 258 [.one (.sl 4 l0), .one (.sl 4 l1)] [.one (B false)] :=
 .of [.br true] _ func258 rfl (by kernel_rfl) h
def qcm (l0 l1 : List (List D)) (n2 : Int) : St :=
 { env := envOf 27 [(0, .al (.one (.sl .free 4 l0))), (1, .al (.one (.sl .free 4 l1))), (5, .al (.one (.v (.int .i64 n2))))], boxes := [] }
def qiC (b0 : Bool) : St :=
 { env := envOf 27 [(4, .al (.one (.sb b0)))], boxes := [] }
theorem qq0 (l0 l1 : List (List D)) (n2 n3 n4 n5 n6 n7 n8 n9 n10 : Int) (b11 : Bool)
  (h : Obs [decide (n2 < (l0.length : Int)) = true, 0 ≤ n2, n2 < (l0.length : Int), l0[n2.toNat]? = some [I n3, I n4, I n5, I n6], 0 ≤ n2, n2 < (l1.length : Int), l1[n2.toNat]? = some [I n7, I n8, I n9, I n10], Ret prog 302 [.agg [I n3, I n4, I n5, I n6], .agg [I n7, I n8, I n9, I n10]] [.one (B b11)], (!b11) = true]) :
  Tr prog (qaa f258 0) (qcm l0 l1 n2) .ret (qiC false) :=
 .of_loopc (ks := [4]) (bs := []) (ans := [.br true, .el [I n3, I n4, I n5, I n6], .el [I n7, I n8, I n9, I n10], .res [.one (B b11)], .br true]) (by kernel_rfl) h
theorem qq1 (l0 l1 : List (List D)) (n2 n3 n4 n5 n6 n7 n8 n9 n10 : Int) (b11 : Bool)
  (h : Obs [decide (n2 < (l0.length : Int)) = true, 0 ≤ n2, n2 < (l0.length : Int), l0[n2.toNat]? = some [I n3, I n4, I n5, I n6], 0 ≤ n2, n2 < (l1.length : Int), l1[n2.toNat]? = some [I n7, I n8, I n9, I n10], Ret prog 302 [.agg [I n3, I n4, I n5, I n6], .agg [I n7, I n8, I n9, I n10]] [.one (B b11)], (!b11) = false, inInt .i64 (n2 + 1)]) :
  Tr prog (qaa f258 0) (qcm l0 l1 n2) .normal (qcm l0 l1 (n2 + 1)) :=
 .of_loopc (ks := [5, 0, 1]) (bs := []) (ans := [.br true, .el [I n3, I n4, I n5, I n6], .el [I n7, I n8, I n9, I n10], .res [.one (B b11)], .br false]) (by kernel_rfl) h
def qiD : St :=
 { env := envOf 27 [], boxes := [] }
theorem qq2 (l0 l1 : List (List D)) (n2 : Int)
  (h : Obs [decide (n2 < (l0.length : Int)) = false]) :
  Tr prog (qaa f258 0) (qcm l0 l1 n2) (.exit 0) qiD :=
 .of_loopc (ks := []) (bs := []) (ans := [.br false]) (by kernel_rfl) h
theorem qq3 (l0 l1 : List (List D)) (b2 : Bool)
  (h : Obs [((l0.length : Int) != (l1.length : Int)) = false, qac prog (qaa f258 0) (qcm l0 l1 0) .ret (qiC b2)]) :
  Ret prog 258 [.one (.sl 4 l0), .one (.sl 4 l1)] [.one (B b2)] :=
 .of [.br false, .loop [] [5, 0, 1] [] .ret (qiC b2)] _ func258 rfl (by kernel_rfl) h
theorem qq4 (l0 l1 : List (List D))
  (h : Obs [((l0.length : Int) != (l1.length : Int)) = false, qac prog (qaa f258 0) (qcm l0 l1 0) (.exit 0) qiD]) :
  Ret prog 258 [.one (.sl 4 l0), .one (.sl 4 l1)] [.one (B true)] :=
 .of [.br false, .loop [] [5, 0, 1] [] (.exit 0) qiD] _ func258 rfl (by kernel_rfl) h
theorem qq5 (l0 l1 : List (List D))
  (h : Obs [((l0.length : Int) != (l1.length : Int)) = true]) :
  Ret prog 259 [.one (.sl 1 l0), .one (.sl 1 l1)] [.one (B false)] :=
 .of [.br true] _ func259 rfl (by kernel_rfl) h
def qcn (l0 l1 : List (List D)) (n2 : Int) : St :=
 { env := envOf 26 [(0, .al (.one (.sl .free 1 l0))), (1, .al (.one (.sl .free 1 l1))), (5, .al (.one (.v (.int .i64 n2))))], boxes := [] }
def qiE (b0 : Bool) : St :=
 { env := envOf 26 [(4, .al (.one (.sb b0)))], boxes := [] }
theorem qq6 (l0 l1 : List (List D)) (n2 n3 n4 : Int)
  (h : Obs [decide (n2 < (l0.length : Int)) = true, 0 ≤ n2, n2 < (l0.length : Int), l0[n2.toNat]? = some [I n3], 0 ≤ n2, n2 < (l1.length : Int), l1[n2.toNat]? = some [I n4], (n3 != n4) = true]) :
  Tr prog (qaa f259 0) (qcn l0 l1 n2) .ret (qiE false) :=
 .of_loopc (ks := [4]) (bs := []) (ans := [.br true, .el [I n3], .el [I n4], .br true]) (by kernel_rfl) h
theorem qq7 (l0 l1 : List (List D)) (n2 n3 n4 : Int)
  (h : Obs [decide (n2 < (l0.length : Int)) = true, 0 ≤ n2, n2 < (l0.length : Int), l0[n2.toNat]? = some [I n3], 0 ≤ n2, n2 < (l1.length : Int), l1[n2.toNat]? = some [I n4], (n3 != n4) = false, inInt .i64 (n2 + 1)]) :
  Tr prog (qaa f259 0) (qcn l0 l1 n2) .normal (qcn l0 l1 (n2 + 1)) :=
 .of_loopc (ks := [5, 0, 1]) (bs := []) (ans := [.br true, .el [I n3], .el [I n4], .br false]) (by kernel_rfl) h
def qiF : St :=
 { env := envOf 26 [], boxes := [] }
theorem qq8 (l0 l1 : List (List D)) (n2 : Int)
  (h : Obs [decide (n2 < (l0.length : Int)) = false]) :
  Tr prog (qaa f259 0) (qcn l0 l1 n2) (.exit 0) qiF :=
 .of_loopc (ks := []) (bs := []) (ans := [.br false]) (by kernel_rfl) h
theorem qq9 (l0 l1 : List (List D)) (b2 : Bool)
  (h : Obs [((l0.length : Int) != (l1.length : Int)) = false, qac prog (qaa f259 0) (qcn l0 l1 0) .ret (qiE b2)]) :
  Ret prog 259 [.one (.sl 1 l0), .one (.sl 1 l1)] [.one (B b2)] :=
 .of [.br false, .loop [] [5, 0, 1] [] .ret (qiE b2)] _ func259 rfl (by kernel_rfl) h
theorem qra (l0 l1 : List (List D))
  (h : Obs [((l0.length : Int) != (l1.length : Int)) = false, qac prog (qaa f259 0) (qcn l0 l1 0) (.exit 0) qiF]) :
  Ret prog 259 [.one (.sl 1 l0), .one (.sl 1 l1)] [.one (B true)] :=
 .of [.br false, .loop [] [5, 0, 1] [] (.exit 0) qiF] _ func259 rfl (by kernel_rfl) h
theorem qrb (l0 l1 : List (List D))
  (h : Obs [((l0.length : Int) != (l1.length : Int)) = true]) :
  Ret prog 45 [.one (.sl 1 l0), .one (.sl 1 l1)] [.one (B false)] :=
 .of [.br true] _ func45 rfl (by kernel_rfl) h
def qco (l0 l1 : List (List D)) (n2 : Int) : St :=
 { env := envOf 26 [(0, .al (.one (.sl .free 1 l0))), (1, .al (.one (.sl .free 1 l1))), (5, .al (.one (.v (.int .i64 n2))))], boxes := [] }
def qiG (b0 : Bool) : St :=
 { env := envOf 26 [(4, .al (.one (.sb b0)))], boxes := [] }
theorem qrc (l0 l1 : List (List D)) (n2 : Int) (b3 b4 : Bool)
  (h : Obs [decide (n2 < (l0.length : Int)) = true, 0 ≤ n2, n2 < (l0.length : Int), l0[n2.toNat]? = some [B b3], 0 ≤ n2, n2 < (l1.length : Int), l1[n2.toNat]? = some [B b4], (!b3 == b4) = true]) :
  Tr prog (qaa f45 0) (qco l0 l1 n2) .ret (qiG false) :=
 .of_loopc (ks := [4]) (bs := []) (ans := [.br true, .el [B b3], .el [B b4], .br true]) (by kernel_rfl) h
theorem qrd (l0 l1 : List (List D)) (n2 : Int) (b3 b4 : Bool)
  (h : Obs [decide (n2 < (l0.length : Int)) = true, 0 ≤ n2, n2 < (l0.length : Int), l0[n2.toNat]? = some [B b3], 0 ≤ n2, n2 < (l1.length : Int), l1[n2.toNat]? = some [B b4], (!b3 == b4) = false, inInt .i64 (n2 + 1)]) :
  Tr prog (qaa f45 0) (qco l0 l1 n2) .normal (qco l0 l1 (n2 + 1)) :=
 .of_loopc (ks := [5, 0, 1]) (bs := []) (ans := [.br true, .el [B b3], .el [B b4], .br false]) (by kernel_rfl) h
def qiH : St :=
 { env := envOf 26 [], boxes := [] }
theorem qre (l0 l1 : List (List D)) (n2 : Int)
  (h : Obs [decide (n2 < (l0.length : Int)) = false]) :
  Tr prog (qaa f45 0) (qco l0 l1 n2) (.exit 0) qiH :=
 .of_loopc (ks := []) (bs := []) (ans := [.br false]) (by kernel_rfl) h
theorem qrf (l0 l1 : List (List D)) (b2 : Bool)
  (h : Obs [((l0.length : Int) != (l1.length : Int)) = false, qac prog (qaa f45 0) (qco l0 l1 0) .ret (qiG b2)]) :
  Ret prog 45 [.one (.sl 1 l0), .one (.sl 1 l1)] [.one (B b2)] :=
 .of [.br false, .loop [] [5, 0, 1] [] .ret (qiG b2)] _ func45 rfl (by kernel_rfl) h
theorem qrg (l0 l1 : List (List D))
  (h : Obs [((l0.length : Int) != (l1.length : Int)) = false, qac prog (qaa f45 0) (qco l0 l1 0) (.exit 0) qiH]) :
  Ret prog 45 [.one (.sl 1 l0), .one (.sl 1 l1)] [.one (B true)] :=
 .of [.br false, .loop [] [5, 0, 1] [] (.exit 0) qiH] _ func45 rfl (by kernel_rfl) h
theorem qrh (n0 : Int) (b1 : Bool) (n2 : Int) (b3 : Bool)
  (h : Obs [(n0 != n2) = true]) :
  Ret prog 303 [.agg [I n0, B b1], .agg [I n2, B b3]] [.one (B false)] :=
 .of [.br true] _ func303 rfl (by kernel_rfl) h
theorem qri (n0 : Int) (b1 : Bool) (n2 : Int) (b3 : Bool)
  (h : Obs [(n0 != n2) = false, (!b1 == b3) = true]) :
  Ret prog 303 [.agg [I n0, B b1], .agg [I n2, B b3]] [.one (B false)] :=
 .of [.br false, .br true] _ func303 rfl (by kernel_rfl) h
theorem qrj (n0 : Int) (b1 : Bool) (n2 : Int) (b3 : Bool)
  (h : Obs [(n0 != n2) = false, (!b1 == b3) = false]) :
  Ret prog 303 [.agg [I n0, B b1], .agg [I n2, B b3]] [.one (B true)] :=
 .of [.br false, .br false] _ func303 rfl (by kernel_rfl) h
theorem qrk (l0 l1 : List (List D))
  (h : Obs [((l0.length : Int) != (l1.length : Int)) = true]) :
  Ret prog 260 [.one (.sl 2 l0), .one (.sl 2 l1)] [.one (B false)] :=
 .of [.br true] _ func260 rfl (by kernel_rfl) h
def qcp (l0 l1 : List (List D)) (n2 : Int) : St :=
 { env := envOf 27 [(0, .al (.one (.sl .free 2 l0))), (1, .al (.one (.sl .free 2 l1))), (5, .al (.one (.v (.int .i64 n2))))], boxes := [] }
def qiI (b0 : Bool) : St :=
 { env := envOf 27 [(4, .al (.one (.sb b0)))], boxes := [] }
theorem qrl (l0 l1 : List (List D)) (n2 n3 : Int) (b4 : Bool) (n5 : Int) (b6 b7 : Bool)
  (h : Obs [decide (n2 < (l0.length : Int)) = true, 0 ≤ n2, n2 < (l0.length : Int), l0[n2.toNat]? = some [I n3, B b4], 0 ≤ n2, n2 < (l1.length : Int), l1[n2.toNat]? = some [I n5, B b6], Ret prog 303 [.agg [I n3, B b4], .agg [I n5, B b6]] [.one (B b7)], (!b7) = true]) :
  Tr prog (qaa f260 0) (qcp l0 l1 n2) .ret (qiI false) :=
 .of_loopc (ks := [4]) (bs := []) (ans := [.br true, .el [I n3, B b4], .el [I n5, B b6], .res [.one (B b7)], .br true]) (by kernel_rfl) h
theorem qrm (l0 l1 : List (List D)) (n2 n3 : Int) (b4 : Bool) (n5 : Int) (b6 b7 : Bool)
  (h : Obs [decide (n2 < (l0.length : Int)) = true, 0 ≤ n2, n2 < (l0.length : Int), l0[n2.toNat]? = some [I n3, B b4], 0 ≤ n2, n2 < (l1.length : Int), l1[n2.toNat]? = some [I n5, B b6], Ret prog 303 [.agg [I n3, B b4], .agg [I n5, B b6]] [.one (B b7)], (!b7) = false, inInt .i64 (n2 + 1)]) :
  Tr prog (qaa f260 0) (qcp l0 l1 n2) .normal (qcp l0 l1 (n2 + 1)) :=
 .of_loopc (ks := [5, 0, 1]) (bs := []) (ans := [.br true, .el [I n3, B b4], .el [I n5, B b6], .res [.one (B b7)], .br false]) (by kernel_rfl) h
def qiJ : St :=
 { env := envOf 27 [], boxes := [] }
theorem qrn (l0 l1 : List (List D)) (n2 : Int)
  (h : Obs [decide (n2 < (l0.length : Int)) = false]) :
  Tr prog (qaa f260 0) (qcp l0 l1 n2) (.exit 0) qiJ :=
 .of_loopc (ks := []) (bs := []) (ans := [.br false]) (by kernel_rfl) h
theorem qro (l0 l1 : List (List D)) (b2 : Bool)
  (h : Obs [((l0.length : Int) != (l1.length : Int)) = false, qac prog (qaa f260 0) (qcp l0 l1 0) .ret (qiI b2)]) :
  Ret prog 260 [.one (.sl 2 l0), .one (.sl 2 l1)] [.one (B b2)] :=
 .of [.br false, .loop [] [5, 0, 1] [] .ret (qiI b2)] _ func260 rfl (by kernel_rfl) h
theorem qrp (l0 l1 : List (List D))
  (h : Obs [((l0.length : Int) != (l1.length : Int)) = false, qac prog (qaa f260 0) (qcp l0 l1 0) (.exit 0) qiJ]) :
  Ret prog 260 [.one (.sl 2 l0), .one (.sl 2 l1)] [.one (B true)] :=
 .of [.br false, .loop [] [5, 0, 1] [] (.exit 0) qiJ] _ func260 rfl (by kernel_rfl) h
theorem qrq (b0 : Bool) (n1 n2 : Int) (b3 b4 b5 : Bool) (n6 n7 : Int) (b8 b9 : Bool)
  (h : Obs [(!b0 == b5) = true]) :
  Ret prog 162 [.agg [B b0, I n1, I n2, B b3, B b4], .agg [B b5, I n6, I n7, B b8, B b9]] [.one (B false)] :=
 .of [.br true] _ func162 rfl (by kernel_rfl) h
theorem qrr (b0 : Bool) (n1 n2 : Int) (b3 b4 b5 : Bool) (n6 n7 : Int) (b8 b9 : Bool)
  (h : Obs [(!b0 == b5) = false, (n1 != n6) = true]) :
  Ret prog 162 [.agg [B b0, I n1, I n2, B b3, B b4], .agg [B b5, I n6, I n7, B b8, B b9]] [.one (B false)] :=
 .of [.br false, .br true] _ func162 rfl (by kernel_rfl) h
theorem qrs (b0 : Bool) (n1 n2 : Int) (b3 b4 b5 : Bool) (n6 n7 : Int) (b8 b9 : Bool)
  (h : Obs [(!b0 == b5) = false, (n1 != n6) = false, (n2 != n7) = true]) :
  Ret prog 162 [.agg [B b0, I n1, I n2, B b3, B b4], .agg [B b5, I n6, I n7, B b8, B b9]] [.one (B false)] :=
 .of [.br false, .br false, .br true] _ func162 rfl (by kernel_rfl) h
theorem qrt (b0 : Bool) (n1 n2 : Int) (b3 b4 b5 : Bool) (n6 n7 : Int) (b8 b9 : Bool)
  (h : Obs [(!b0 == b5) = false, (n1 != n6) = false, (n2 != n7) = false, (!b3 == b8) = true]) :
  Ret prog 162 [.agg [B b0, I n1, I n2, B b3, B b4], .agg [B b5, I n6, I n7, B b8, B b9]] [.one (B false)] :=
 .of [.br false, .br false, .br false, .br true] _ func162 rfl (by kernel_rfl) h
theorem qru (b0 : Bool) (n1 n2 : Int) (b3 b4 b5 : Bool) (n6 n7 : Int) (b8 b9 : Bool)
  (h : Obs [(!b0 == b5) = false, (n1 != n6) = false, (n2 != n7) = false, (!b3 == b8) = false, (!b4 == b9) = true]) :
  Ret prog 162 [.agg [B b0, I n1, I n2, B b3, B b4], .agg [B b5, I n6, I n7, B b8, B b9]] [.one (B false)] :=
 .of [.br false, .br false, .br false, .br false, .br true] _ func162 rfl (by kernel_rfl) h
theorem qrv (b0 : Bool) (n1 n2 : Int) (b3 b4 b5 : Bool) (n6 n7 : Int) (b8 b9 : Bool)
  (h : Obs [(!b0 == b5) = false, (n1 != n6) = false, (n2 != n7) = false, (!b3 == b8) = false, (!b4 == b9) = false]) :
  Ret prog 162 [.agg [B b0, I n1, I n2, B b3, B b4], .agg [B b5, I n6, I n7, B b8, B b9]] [.one (B true)] :=
 .of [.br false, .br false, .br false, .br false, .br false] _ func162 rfl (by kernel_rfl) h
theorem qrw (l0 l1 : List (List D))
  (h : Obs [((l0.length : Int) != (l1.length : Int)) = true]) :
  Ret prog 72 [.one (.sl 5 l0), .one (.sl 5 l1)] [.one (B false)] :=
 .of [.br true] _ func72 rfl (by kernel_rfl) h
def qcq (l0 l1 : List (List D)) (n2 : Int) : St :=
 { env := envOf 27 [(0, .al (.one (.sl .free 5 l0))), (1, .al (.one (.sl .free 5 l1))), (5, .al (.one (.v (.int .i64 n2))))], boxes := [] }
def qiK (b0 : Bool) : St :=
 { env := envOf 27 [(4, .al (.one (.sb b0)))], boxes := [] }
theorem qrx (l0 l1 : List (List D)) (n2 : Int) (b3 : Bool) (n4 n5 : Int) (b6 b7 b8 : Bool) (n9 n10 : Int) (b11 b12 b13 : Bool)
  (h : Obs [decide (n2 < (l0.length : Int)) = true, 0 ≤ n2, n2 < (l0.length : Int), l0[n2.toNat]? = some [B b3, I n4, I n5, B b6, B b7], 0 ≤ n2, n2 < (l1.length : Int), l1[n2.toNat]? = some [B b8, I n9, I n10, B b11, B b12], Ret prog 162 [.agg [B b3, I n4, I n5, B b6, B b7], .agg [B b8, I n9, I n10, B b11, B b12]] [.one (B b13)], (!b13) = true]) :
  Tr prog (qaa f72 0) (qcq l0 l1 n2) .ret (qiK false) :=
 .of_loopc (ks := [4]) (bs := []) (ans := [.br true, .el [B b3, I n4, I n5, B b6, B b7], .el [B b8, I n9, I n10, B b11, B b12], .res [.one (B b13)], .br true]) (by kernel_rfl) h
theorem qry (l0 l1 : List (List D)) (n2 : Int) (b3 : Bool) (n4 n5 : Int) (b6 b7 b8 : Bool) (n9 n10 : Int) (b11 b12 b13 : Bool)
  (h : Obs [decide (n2 < (l0.length : Int)) = true, 0 ≤ n2, n2 < (l0.length : Int), l0[n2.toNat]? = some [B b3, I n4, I n5, B b6, B b7], 0 ≤ n2, n2 < (l1.length : Int), l1[n2.toNat]? = some [B b8, I n9, I n10, B b11, B b12], Ret prog 162 [.agg [B b3, I n4, I n5, B b6, B b7], .agg [B b8, I n9, I n10, B b11, B b12]] [.one (B b13)], (!b13) = false, inInt .i64 (n2 + 1)]) :
  Tr prog (qaa f72 0) (qcq l0 l1 n2) .normal (qcq l0 l1 (n2 + 1)) :=
 .of_loopc (ks := [5, 0, 1]) (bs := []) (ans := [.br true, .el [B b3, I n4, I n5, B b6, B b7], .el [B b8, I n9, I n10, B b11, B b12], .res [.one (B b13)], .br false]) (by kernel_rfl) h
def qiL : St :=
 { env := envOf 27 [], boxes := [] }
theorem qrz (l0 l1 : List (List D)) (n2 : Int)
  (h : Obs [decide (n2 < (l0.length : Int)) = false]) :
  Tr prog (qaa f72 0) (qcq l0 l1 n2) (.exit 0) qiL :=
 .of_loopc (ks := []) (bs := []) (ans := [.br false]) (by kernel_rfl) h
theorem qrA (l0 l1 : List (List D)) (b2 : Bool)
  (h : Obs [((l0.length : Int) != (l1.length : Int)) = false, qac prog (qaa f72 0) (qcq l0 l1 0) .ret (qiK b2)]) :
  Ret prog 72 [.one (.sl 5 l0), .one (.sl 5 l1)] [.one (B b2)] :=
 .of [.br false, .loop [] [5, 0, 1] [] .ret (qiK b2)] _ func72 rfl (by kernel_rfl) h
theorem qrB (l0 l1 : List (List D))
  (h : Obs [((l0.length : Int) != (l1.length : Int)) = false, qac prog (qaa f72 0) (qcq l0 l1 0) (.exit 0) qiL]) :
  Ret prog 72 [.one (.sl 5 l0), .one (.sl 5 l1)] [.one (B true)] :=
 .of [.br false, .loop [] [5, 0, 1] [] (.exit 0) qiL] _ func72 rfl (by kernel_rfl) h
theorem qrC (n0 n1 : Int) (b2 : Bool) (n3 n4 : Int) (b5 : Bool)
  (h : Obs [(n0 != n3) = true]) :
  Ret prog 163 [.agg [I n0, I n1, B b2], .agg [I n3, I n4, B b5]] [.one (B false)] :=
 .of [.br true] _ func163 rfl (by kernel_rfl) h
theorem qrD (n0 n1 : Int) (b2 : Bool) (n3 n4 : Int) (b5 : Bool)
  (h : Obs [(n0 != n3) = false, (n1 != n4) = true]) :
  Ret prog 163 [.agg [I n0, I n1, B b2], .agg [I n3, I n4, B b5]] [.one (B false)] :=
 .of [.br false, .br true] _ func163 rfl (by kernel_rfl) h
theorem qrE (n0 n1 : Int) (b2 : Bool) (n3 n4 : Int) (b5 : Bool)
  (h : Obs [(n0 != n3) = false, (n1 != n4) = false, (!b2 == b5) = true]) :
  Ret prog 163 [.agg [I n0, I n1, B b2], .agg [I n3, I n4, B b5]] [.one (B false)] :=
 .of [.br false, .br false, .br true] _ func163 rfl (by kernel_rfl) h
theorem qrF (n0 n1 : Int) (b2 : Bool) (n3 n4 : Int) (b5 : Bool)
  (h : Obs [(n0 != n3) = false, (n1 != n4) = false, (!b2 == b5) = false]) :
  Ret prog 163 [.agg [I n0, I n1, B b2], .agg [I n3, I n4, B b5]] [.one (B true)] :=
 .of [.br false, .br false, .br false] _ func163 rfl (by kernel_rfl) h
theorem qrG (l0 l1 : List (List D))
  (h : Obs [((l0.length : Int) != (l1.length : Int)) = true]) :
  Ret prog 73 [.one (.sl 3 l0), .one (.sl 3 l1)] [.one (B false)] :=
 .of [.br true] _ func73 rfl (by kernel_rfl) h
def qcr (l0 l1 : List (List D)) (n2 : Int) : St :=
 { env := envOf 27 [(0, .al (.one (.sl .free 3 l0))), (1, .al (.one (.sl .free 3 l1))), (5, .al (.one (.v (.int .i64 n2))))], boxes := [] }
def qiM (b0 : Bool) : St :=
 { env := envOf 27 [(4, .al (.one (.sb b0)))], boxes := [] }
theorem qrH (l0 l1 : List (List D)) (n2 n3 n4 : Int) (b5 : Bool) (n6 n7 : Int) (b8 b9 : Bool)
  (h : Obs [decide (n2 < (l0.length : Int)) = true, 0 ≤ n2, n2 < (l0.length : Int), l0[n2.toNat]? = some [I n3, I n4, B b5], 0 ≤ n2, n2 < (l1.length : Int), l1[n2.toNat]? = some [I n6, I n7, B b8], Ret prog 163 [.agg [I n3, I n4, B b5], .agg [I n6, I n7, B b8]] [.one (B b9)], (!b9) = true]) :
  Tr prog (qaa f73 0) (qcr l0 l1 n2) .ret (qiM false) :=
 .of_loopc (ks := [4]) (bs := []) (ans := [.br true, .el [I n3, I n4, B b5], .el [I n6, I n7, B b8], .res [.one (B b9)], .br true]) (by kernel_rfl) h
theorem qrI (l0 l1 : List (List D)) (n2 n3 n4 : Int) (b5 : Bool) (n6 n7 : Int) (b8 b9 : Bool)
  (h : Obs [decide (n2 < (l0.length : Int)) = true, 0 ≤ n2, n2 < (l0.length : Int), l0[n2.toNat]? = some [I n3, I n4, B b5], 0 ≤ n2, n2 < (l1.length : Int), l1[n2.toNat]? = some [I n6, I n7, B b8], Ret prog 163 [.agg [I n3, I n4, B b5], .agg [I n6, I n7, B b8]] [.one (B b9)], (!b9) = false, inInt .i64 (n2 + 1)]) :
  Tr prog (qaa f73 0) (qcr l0 l1 n2) .normal (qcr l0 l1 (n2 + 1)) :=
 .of_loopc (ks := [5, 0, 1]) (bs := []) (ans := [.br true, .el [I n3, I n4, B b5], .el [I n6, I n7, B b8], .res [.one (B b9)], .br false]) (by kernel_rfl) h
def qiN : St :=
 { env := envOf 27 [], boxes := [] }
theorem qrJ (l0 l1 : List (List D)) (n2 : Int)
  (h : Obs [decide (n2 < (l0.length : Int)) = false]) :
  Tr prog (qaa f73 0) (qcr l0 l1 n2) (.exit 0) qiN :=
 .of_loopc (ks := []) (bs := []) (ans := [.br false]) (by kernel_rfl) h
theorem qrK (l0 l1 : List (List D)) (b2 : Bool)
  (h : Obs [((l0.length : Int) != (l1.length : Int)) = false, qac prog (qaa f73 0) (qcr l0 l1 0) .ret (qiM b2)]) :
  Ret prog 73 [.one (.sl 3 l0), .one (.sl 3 l1)] [.one (B b2)] :=
 .of [.br false, .loop [] [5, 0, 1] [] .ret (qiM b2)] _ func73 rfl (by kernel_rfl) h
theorem qrL (l0 l1 : List (List D))
  (h : Obs [((l0.length : Int) != (l1.length : Int)) = false, qac prog (qaa f73 0) (qcr l0 l1 0) (.exit 0) qiN]) :
  Ret prog 73 [.one (.sl 3 l0), .one (.sl 3 l1)] [.one (B true)] :=
 .of [.br false, .loop [] [5, 0, 1] [] (.exit 0) qiN] _ func73 rfl (by kernel_rfl) h
theorem qrM (n0 n1 n2 : Int) (l3 : List (List D)) (n4 n5 n6 : Int) (l7 : List (List D))
  (h : Obs [(n0 != n4) = true]) :
  Ret prog 257 [.agg [I n0, I n1, I n2, D.sl 1 l3], .agg [I n4, I n5, I n6, D.sl 1 l7]] [.one (B false)] :=
 .of [.br true] _ func257 rfl (by kernel_rfl) h
theorem qrN (n0 n1 n2 : Int) (l3 : List (List D)) (n4 n5 n6 : Int) (l7 : List (List D))
  (h : Obs [(n0 != n4) = false, (n1 != n5) = true]) :
  Ret prog 257 [.agg [I n0, I n1, I n2, D.sl 1 l3], .agg [I n4, I n5, I n6, D.sl 1 l7]] [.one (B false)] :=
 .of [.br false, .br true] _ func257 rfl (by kernel_rfl) h
theorem qrO (n0 n1 n2 : Int) (l3 : List (List D)) (n4 n5 n6 : Int) (l7 : List (List D))
  (h : Obs [(n0 != n4) = false, (n1 != n5) = false, (n2 != n6) = true]) :
  Ret prog 257 [.agg [I n0, I n1, I n2, D.sl 1 l3], .agg [I n4, I n5, I n6, D.sl 1 l7]] [.one (B false)] :=
 .of [.br false, .br false, .br true] _ func257 rfl (by kernel_rfl) h
theorem qrP (n0 n1 n2 : Int) (l3 : List (List D)) (n4 n5 n6 : Int) (l7 : List (List D)) (b8 : Bool)
  (h : Obs [(n0 != n4) = false, (n1 != n5) = false, (n2 != n6) = false, Ret prog 259 [.one (.sl 1 l3), .one (.sl 1 l7)] [.one (B b8)], (!b8) = true]) :
  Ret prog 257 [.agg [I n0, I n1, I n2, D.sl 1 l3], .agg [I n4, I n5, I n6, D.sl 1 l7]] [.one (B false)] :=
 .of [.br false, .br false, .br false, .res [.one (B b8)], .br true] _ func257 rfl (by kernel_rfl) h
theorem qrQ (n0 n1 n2 : Int) (l3 : List (List D)) (n4 n5 n6 : Int) (l7 : List (List D)) (b8 : Bool)
  (h : Obs [(n0 != n4) = false, (n1 != n5) = false, (n2 != n6) = false, Ret prog 259 [.one (.sl 1 l3), .one (.sl 1 l7)] [.one (B b8)], (!b8) = false]) :
  Ret prog 257 [.agg [I n0, I n1, I n2, D.sl 1 l3], .agg [I n4, I n5, I n6, D.sl 1 l7]] [.one (B true)] :=
 .of [.br false, .br false, .br false, .res [.one (B b8)], .br false] _ func257 rfl (by kernel_rfl) h
theorem qrR (l0 l1 : List (List D))
  (h : Obs [((l0.length : Int) != (l1.length : Int)) = true]) :
  Ret prog 159 [.one (.sl 4 l0), .one (.sl 4 l1)] [.one (B false)] :=
 .of [.br true] _ func159 rfl (by kernel_rfl) h
def qcs (l0 l1 : List (List D)) (n2 : Int) : St :=
 { env := envOf 27 [(0, .al (.one (.sl .free 4 l0))), (1, .al (.one (.sl .free 4 l1))), (5, .al (.one (.v (.int .i64 n2))))], boxes := [] }
def qiO (b0 : Bool) : St :=
 { env := envOf 27 [(4, .al (.one (.sb b0)))], boxes := [] }
theorem qrS (l0 l1 : List (List D)) (n2 n3 n4 n5 : Int) (l6 : List (List D)) (n7 n8 n9 : Int) (l10 : List (List D)) (b11 : Bool)
  (h : Obs [decide (n2 < (l0.length : Int)) = true, 0 ≤ n2, n2 < (l0.length : Int), l0[n2.toNat]? = some [I n3, I n4, I n5, D.sl 1 l6], 0 ≤ n2, n2 < (l1.length : Int), l1[n2.toNat]? = some [I n7, I n8, I n9, D.sl 1 l10], Ret prog 257 [.agg [I n3, I n4, I n5, D.sl 1 l6], .agg [I n7, I n8, I n9, D.sl 1 l10]] [.one (B b11)], (!b11) = true]) :
  Tr prog (qaa f159 0) (qcs l0 l1 n2) .ret (qiO false) :=
 .of_loopc (ks := [4]) (bs := []) (ans := [.br true, .el [I n3, I n4, I n5, D.sl 1 l6], .el [I n7, I n8, I n9, D.sl 1 l10], .res [.one (B b11)], .br true]) (by kernel_rfl) h
theorem qrT (l0 l1 : List (List D)) (n2 n3 n4 n5 : Int) (l6 : List (List D)) (n7 n8 n9 : Int) (l10 : List (List D)) (b11 : Bool)
  (h : Obs [decide (n2 < (l0.length : Int)) = true, 0 ≤ n2, n2 < (l0.length : Int), l0[n2.toNat]? = some [I n3, I n4, I n5, D.sl 1 l6], 0 ≤ n2, n2 < (l1.length : Int), l1[n2.toNat]? = some [I n7, I n8, I n9, D.sl 1 l10], Ret prog 257 [.agg [I n3, I n4, I n5, D.sl 1 l6], .agg [I n7, I n8, I n9, D.sl 1 l10]] [.one (B b11)], (!b11) = false, inInt .i64 (n2 + 1)]) :
  Tr prog (qaa f159 0) (qcs l0 l1 n2) .normal (qcs l0 l1 (n2 + 1)) :=
 .of_loopc (ks := [5, 0, 1]) (bs := []) (ans := [.br true, .el [I n3, I n4, I n5, D.sl 1 l6], .el [I n7, I n8, I n9, D.sl 1 l10], .res [.one (B b11)], .br false]) (by kernel_rfl) h
def qiP : St :=
 { env := envOf 27 [], boxes := [] }
theorem qrU (l0 l1 : List (List D)) (n2 : Int)
  (h : Obs [decide (n2 < (l0.length : Int)) = false]) :
  Tr prog (qaa f159 0) (qcs l0 l1 n2) (.exit 0) qiP :=
 .of_loopc (ks := []) (bs := []) (ans := [.br false]) (by kernel_rfl) h
theorem qrV (l0 l1 : List (List D)) (b2 : Bool)
  (h : Obs [((l0.length : Int) != (l1.length : Int)) = false, qac prog (qaa f159 0) (qcs l0 l1 0) .ret (qiO b2)]) :
  Ret prog 159 [.one (.sl 4 l0), .one (.sl 4 l1)] [.one (B b2)] :=
 .of [.br false, .loop [] [5, 0, 1] [] .ret (qiO b2)] _ func159 rfl (by kernel_rfl) h
theorem qrW (l0 l1 : List (List D))
  (h : Obs [((l0.length : Int) != (l1.length : Int)) = false, qac prog (qaa f159 0) (qcs l0 l1 0) (.exit 0) qiP]) :
  Ret prog 159 [.one (.sl 4 l0), .one (.sl 4 l1)] [.one (B true)] :=
 .of [.br false, .loop [] [5, 0, 1] [] (.exit 0) qiP] _ func159 rfl (by kernel_rfl) h
theorem qrX (n0 : Int) (l1 : List (List D)) (n2 n3 n4 n5 n6 : Int) (l7 : List (List D)) (n8 n9 n10 n11 : Int)
  (h : Obs [(n0 != n6) = true]) :
  Ret prog 161 [.agg [I n0, D.sl 5 l1, I n2, I n3, I n4, I n5], .agg [I n6, D.sl 5 l7, I n8, I n9, I n10, I n11]] [.one (B false)] :=
 .of [.br true] _ func161 rfl (by kernel_rfl) h
theorem qrY (n0 : Int) (l1 : List (List D)) (n2 n3 n4 n5 n6 : Int) (l7 : List (List D)) (n8 n9 n10 n11 : Int) (b12 : Bool)
  (h : Obs [(n0 != n6) = false, Ret prog 19 [.one (.sl 5 l1), .one (.sl 5 l7)] [.one (B b12)], (!b12) = true]) :
  Ret prog 161 [.agg [I n0, D.sl 5 l1, I n2, I n3, I n4, I n5], .agg [I n6, D.sl 5 l7, I n8, I n9, I n10, I n11]] [.one (B false)] :=
 .of [.br false, .res [.one (B b12)], .br true] _ func161 rfl (by kernel_rfl) h
theorem qrZ (n0 : Int) (l1 : List (List D)) (n2 n3 n4 n5 n6 : Int) (l7 : List (List D)) (n8 n9 n10 n11 : Int) (b12 : Bool)
  (h : Obs [(n0 != n6) = false, Ret prog 19 [.one (.sl 5 l1), .one (.sl 5 l7)] [.one (B b12)], (!b12) = false, (n2 != n8) = true]) :
  Ret prog 161 [.agg [I n0, D.sl 5 l1, I n2, I n3, I n4, I n5], .agg [I n6, D.sl 5 l7, I n8, I n9, I n10, I n11]] [.one (B false)] :=
 .of [.br false, .res [.one (B b12)], .br false, .br true] _ func161 rfl (by kernel_rfl) h
theorem qr0 (n0 : Int) (l1 : List (List D)) (n2 n3 n4 n5 n6 : Int) (l7 : List (List D)) (n8 n9 n10 n11 : Int) (b12 : Bool)
  (h : Obs [(n0 != n6) = false, Ret prog 19 [.one (.sl 5 l1), .one (.sl 5 l7)] [.one (B b12)], (!b12) = false, (n2 != n8) = false, (n3 != n9) = true]) :
  Ret prog 161 [.agg [I n0, D.sl 5 l1, I n2, I n3, I n4, I n5], .agg [I n6, D.sl 5 l7, I n8, I n9, I n10, I n11]] [.one (B false)] :=
 .of [.br false, .res [.one (B b12)], .br false, .br false, .br true] _ func161 rfl (by kernel_rfl) h
theorem qr1 (n0 : Int) (l1 : List (List D)) (n2 n3 n4 n5 n6 : Int) (l7 : List (List D)) (n8 n9 n10 n11 : Int) (b12 : Bool)
  (h : Obs [(n0 != n6) = false, Ret prog 19 [.one (.sl 5 l1), .one (.sl 5 l7)] [.one (B b12)], (!b12) = false, (n2 != n8) = false, (n3 != n9) = false, (n4 != n10) = true]) :
  Ret prog 161 [.agg [I n0, D.sl 5 l1, I n2, I n3, I n4, I n5], .agg [I n6, D.sl 5 l7, I n8, I n9, I n10, I n11]] [.one (B false)] :=
 .of [.br false, .res [.one (B b12)], .br false, .br false, .br false, .br true] _ func161 rfl (by kernel_rfl) h
theorem qr2 (n0 : Int) (l1 : List (List D)) (n2 n3 n4 n5 n6 : Int) (l7 : List (List D)) (n8 n9 n10 n11 : Int) (b12 : Bool)
  (h : Obs [(n0 != n6) = false, Ret prog 19 [.one (.sl 5 l1), .one (.sl 5 l7)] [.one (B b12)], (!b12) = false, (n2 != n8) = false, (n3 != n9) = false, (n4 != n10) = false, (n5 != n11) = true]) :
  Ret prog 161 [.agg [I n0, D.sl 5 l1, I n2, I n3, I n4, I n5], .agg [I n6, D.sl 5 l7, I n8, I n9, I n10, I n11]] [.one (B false)] :=
 .of [.br false, .res [.one (B b12)], .br false, .br false, .br false, .br false, .br true] _ func161 rfl (by kernel_rfl) h
theorem qr3 (n0 : Int) (l1 : List (List D)) (n2 n3 n4 n5 n6 : Int) (l7 : List (List D)) (n8 n9 n10 n11 : Int) (b12 : Bool)
  (h : Obs [(n0 != n6) = false, Ret prog 19 [.one (.sl 5 l1), .one (.sl 5 l7)] [.one (B b12)], (!b12) = false, (n2 != n8) = false, (n3 != n9) = false, (n4 != n10) = false, (n5 != n11) = false]) :
  Ret prog 161 [.agg [I n0, D.sl 5 l1, I n2, I n3, I n4, I n5], .agg [I n6, D.sl 5 l7, I n8, I n9, I n10, I n11]] [.one (B true)] :=
 .of [.br false, .res [.one (B b12)], .br false, .br false, .br false, .br false, .br false] _ func161 rfl (by kernel_rfl) h
theorem qr4 (l0 l1 : List (List D))
  (h : Obs [((l0.length : Int) != (l1.length : Int)) = true]) :
  Ret prog 71 [.one (.sl 6 l0), .one (.sl 6 l1)] [.one (B false)] :=
 .of [.br true] _ func71 rfl (by kernel_rfl) h
def qct (l0 l1 : List (List D)) (n2 : Int) : St :=
 { env := envOf 27 [(0, .al (.one (.sl .free 6 l0))), (1, .al (.one (.sl .free 6 l1))), (5, .al (.one (.v (.int .i64 n2))))], boxes := [] }
def qiQ (b0 : Bool) : St :=
 { env := envOf 27 [(4, .al (.one (.sb b0)))], boxes := [] }
theorem qr5 (l0 l1 : List (List D)) (n2 n3 : Int) (l4 : List (List D)) (n5 n6 n7 n8 n9 : Int) (l10 : List (List D)) (n11 n12 n13 n14 : Int) (b15 : Bool)
  (h : Obs [decide (n2 < (l0.length : Int)) = true, 0 ≤ n2, n2 < (l0.length : Int), l0[n2.toNat]? = some [I n3, D.sl 5 l4, I n5, I n6, I n7, I n8], 0 ≤ n2, n2 < (l1.length : Int), l1[n2.toNat]? = some [I n9, D.sl 5 l10, I n11, I n12, I n13, I n14], Ret prog 161 [.agg [I n3, D.sl 5 l4, I n5, I n6, I n7, I n8], .agg [I n9, D.sl 5 l10, I n11, I n12, I n13, I n14]] [.one (B b15)], (!b15) = true]) :
  Tr prog (qaa f71 0) (qct l0 l1 n2) .ret (qiQ false) :=
 .of_loopc (ks := [4]) (bs := []) (ans := [.br true, .el [I n3, D.sl 5 l4, I n5, I n6, I n7, I n8], .el [I n9, D.sl 5 l10, I n11, I n12, I n13, I n14], .res [.one (B b15)], .br true]) (by kernel_rfl) h
theorem qr6 (l0 l1 : List (List D)) (n2 n3 : Int) (l4 : List (List D)) (n5 n6 n7 n8 n9 : Int) (l10 : List (List D)) (n11 n12 n13 n14 : Int) (b15 : Bool)
  (h : Obs [decide (n2 < (l0.length : Int)) = true, 0 ≤ n2, n2 < (l0.length : Int), l0[n2.toNat]? = some [I n3, D.sl 5 l4, I n5, I n6, I n7, I n8], 0 ≤ n2, n2 < (l1.length : Int), l1[n2.toNat]? = some [I n9, D.sl 5 l10, I n11, I n12, I n13, I n14], Ret prog 161 [.agg [I n3, D.sl 5 l4, I n5, I n6, I n7, I n8], .agg [I n9, D.sl 5 l10, I n11, I n12, I n13, I n14]] [.one (B b15)], (!b15) = false, inInt .i64 (n2 + 1)]) :
  Tr prog (qaa f71 0) (qct l0 l1 n2) .normal (qct l0 l1 (n2 + 1)) :=
 .of_loopc (ks := [5, 0, 1]) (bs := []) (ans := [.br true, .el [I n3, D.sl 5 l4, I n5, I n6, I n7, I n8], .el [I n9, D.sl 5 l10, I n11, I n12, I n13, I n14], .res [.one (B b15)], .br false]) (by kernel_rfl) h
def qiR : St :=
 { env := envOf 27 [], boxes := [] }
theorem qr7 (l0 l1 : List (List D)) (n2 : Int)
  (h : Obs [decide (n2 < (l0.length : Int)) = false]) :
  Tr prog (qaa f71 0) (qct l0 l1 n2) (.exit 0) qiR :=
 .of_loopc (ks := []) (bs := []) (ans := [.br false]) (by kernel_rfl) h
theorem qr8 (l0 l1 : List (List D)) (b2 : Bool)
  (h : Obs [((l0.length : Int) != (l1.length : Int)) = false, qac prog (qaa f71 0) (qct l0 l1 0) .ret (qiQ b2)]) :
  Ret prog 71 [.one (.sl 6 l0), .one (.sl 6 l1)] [.one (B b2)] :=
 .of [.br false, .loop [] [5, 0, 1] [] .ret (qiQ b2)] _ func71 rfl (by kernel_rfl) h
theorem qr9 (l0 l1 : List (List D))
  (h : Obs [((l0.length : Int) != (l1.length : Int)) = false, qac prog (qaa f71 0) (qct l0 l1 0) (.exit 0) qiR]) :
  Ret prog 71 [.one (.sl 6 l0), .one (.sl 6 l1)] [.one (B true)] :=
 .of [.br false, .loop [] [5, 0, 1] [] (.exit 0) qiR] _ func71 rfl (by kernel_rfl) h
theorem qsa (l0 : List (List D)) (n1 n2 : Int) (l3 : List (List D)) (n4 n5 : Int) (b6 : Bool)
  (h : Obs [Ret prog 159 [.one (.sl 4 l0), .one (.sl 4 l3)] [.one (B b6)], (!b6) = true]) :
  Ret prog 69 [.agg [D.sl 4 l0, I n1, I n2], .agg [D.sl 4 l3, I n4, I n5]] [.one (B false)] :=
 .of [.res [.one (B b6)], .br true] _ func69 rfl (by kernel_rfl) h
theorem qsb (l0 : List (List D)) (n1 n2 : Int) (l3 : List (List D)) (n4 n5 : Int) (b6 : Bool)
  (h : Obs [Ret prog 159 [.one (.sl 4 l0), .one (.sl 4 l3)] [.one (B b6)], (!b6) = false, (n1 != n4) = true]) :
  Ret prog 69 [.agg [D.sl 4 l0, I n1, I n2], .agg [D.sl 4 l3, I n4, I n5]] [.one (B false)] :=
 .of [.res [.one (B b6)], .br false, .br true] _ func69 rfl (by kernel_rfl) h
theorem qsc (l0 : List (List D)) (n1 n2 : Int) (l3 : List (List D)) (n4 n5 : Int) (b6 : Bool)
  (h : Obs [Ret prog 159 [.one (.sl 4 l0), .one (.sl 4 l3)] [.one (B b6)], (!b6) = false, (n1 != n4) = false, (n2 != n5) = true]) :
  Ret prog 69 [.agg [D.sl 4 l0, I n1, I n2], .agg [D.sl 4 l3, I n4, I n5]] [.one (B false)] :=
 .of [.res [.one (B b6)], .br false, .br false, .br true] _ func69 rfl (by kernel_rfl) h
theorem qsd (l0 : List (List D)) (n1 n2 : Int) (l3 : List (List D)) (n4 n5 : Int) (b6 : Bool)
  (h : Obs [Ret prog 159 [.one (.sl 4 l0), .one (.sl 4 l3)] [.one (B b6)], (!b6) = false, (n1 != n4) = false, (n2 != n5) = false]) :
  Ret prog 69 [.agg [D.sl 4 l0, I n1, I n2], .agg [D.sl 4 l3, I n4, I n5]] [.one (B true)] :=
 .of [.res [.one (B b6)], .br false, .br false, .br false] _ func69 rfl (by kernel_rfl) h
theorem qse (l0 l1 l2 l3 l4 l5 l6 l7 l8 l9 l10 l11 l12 l13 l14 l15 : List (List D)) (b16 : Bool)
  (h : Obs [Ret prog 19 [.one (.sl 5 l0), .one (.sl 5 l8)] [.one (B b16)], (!b16) = true]) :
  Ret prog 160 [.agg [D.sl 5 l0, D.sl 5 l1, D.sl 5 l2, D.sl 4 l3, D.sl 1 l4, D.sl 1 l5, D.sl 1 l6, D.sl 2 l7], .agg [D.sl 5 l8, D.sl 5 l9, D.sl 5 l10, D.sl 4 l11, D.sl 1 l12, D.sl 1 l13, D.sl 1 l14, D.sl 2 l15]] [.one (B false)] :=
 .of [.res [.one (B b16)], .br true] _ func160 rfl (by kernel_rfl) h
theorem qsf (l0 l1 l2 l3 l4 l5 l6 l7 l8 l9 l10 l11 l12 l13 l14 l15 : List (List D)) (b16 b17 : Bool)
  (h : Obs [Ret prog 19 [.one (.sl 5 l0), .one (.sl 5 l8)] [.one (B b16)], (!b16) = false, Ret prog 19 [.one (.sl 5 l1), .one (.sl 5 l9)] [.one (B b17)], (!b17) = true]) :
  Ret prog 160 [.agg [D.sl 5 l0, D.sl 5 l1, D.sl 5 l2, D.sl 4 l3, D.sl 1 l4, D.sl 1 l5, D.sl 1 l6, D.sl 2 l7], .agg [D.sl 5 l8, D.sl 5 l9, D.sl 5 l10, D.sl 4 l11, D.sl 1 l12, D.sl 1 l13, D.sl 1 l14, D.sl 2 l15]] [.one (B false)] :=
 .of [.res [.one (B b16)], .br false, .res [.one (B b17)], .br true] _ func160 rfl (by kernel_rfl) h
theorem qsg (l0 l1 l2 l3 l4 l5 l6 l7 l8 l9 l10 l11 l12 l13 l14 l15 : List (List D)) (b16 b17 b18 : Bool)
  (h : Obs [Ret prog 19 [.one (.sl 5 l0), .one (.sl 5 l8)] [.one (B b16)], (!b16) = false, Ret prog 19 [.one (.sl 5 l1), .one (.sl 5 l9)] [.one (B b17)], (!b17) = false, Ret prog 19 [.one (.sl 5 l2), .one (.sl 5 l10)] [.one (B b18)], (!b18) = true]) :
  Ret prog 160 [.agg [D.sl 5 l0, D.sl 5 l1, D.sl 5 l2, D.sl 4 l3, D.sl 1 l4, D.sl 1 l5, D.sl 1 l6, D.sl 2 l7], .agg [D.sl 5 l8, D.sl 5 l9, D.sl 5 l10, D.sl 4 l11, D.sl 1 l12, D.sl 1 l13, D.sl 1 l14, D.sl 2 l15]] [.one (B false)] :=
 .of [.res [.one (B b16)], .br false, .res [.one (B b17)], .br false, .res [.one (B b18)], .br true] _ func160 rfl (by kernel_rfl) h
theorem qsh (l0 l1 l2 l3 l4 l5 l6 l7 l8 l9 l10 l11 l12 l13 l14 l15 : List (List D)) (b16 b17 b18 b19 : Bool)
  (h : Obs [Ret prog 19 [.one (.sl 5 l0), .one (.sl 5 l8)] [.one (B b16)], (!b16) = false, Ret prog 19 [.one (.sl 5 l1), .one (.sl 5 l9)] [.one (B b17)], (!b17) = false, Ret prog 19 [.one (.sl 5 l2), .one (.sl 5 l10)] [.one (B b18)], (!b18) = false, Ret prog 258 [.one (.sl 4 l3), .one (.sl 4 l11)] [.one (B b19)], (!b19) = true]) :
  Ret prog 160 [.agg [D.sl 5 l0, D.sl 5 l1, D.sl 5 l2, D.sl 4 l3, D.sl 1 l4, D.sl 1 l5, D.sl 1 l6, D.sl 2 l7], .agg [D.sl 5 l8, D.sl 5 l9, D.sl 5 l10, D.sl 4 l11, D.sl 1 l12, D.sl 1 l13, D.sl 1 l14, D.sl 2 l15]] [.one (B false)] :=
 .of [.res [.one (B b16)], .br false, .res [.one (B b17)], .br false, .res [.one (B b18)], .br false, .res [.one (B b19)], .br true] _ func160 rfl (by kernel_rfl) h
theorem qsi (l0 l1 l2 l3 l4 l5 l6 l7 l8 l9 l10 l11 l12 l13 l14 l15 : List (List D)) (b16 b17 b18 b19 b20 : Bool)
  (h : Obs [Ret prog 19 [.one (.sl 5 l0), .one (.sl 5 l8)] [.one (B b16)], (!b16) = false, Ret prog 19 [.one (.sl 5 l1), .one (.sl 5 l9)] [.one (B b17)], (!b17) = false, Ret prog 19 [.one (.sl 5 l2), .one (.sl 5 l10)] [.one (B b18)], (!b18) = false, Ret prog 258 [.one (.sl 4 l3), .one (.sl 4 l11)] [.one (B b19)], (!b19) = false, Ret prog 259 [.one (.sl 1 l4), .one (.sl 1 l12)] [.one (B b20)], (!b20) = true]) :
  Ret prog 160 [.agg [D.sl 5 l0, D.sl 5 l1, D.sl 5 l2, D.sl 4 l3, D.sl 1 l4, D.sl 1 l5, D.sl 1 l6, D.sl 2 l7], .agg [D.sl 5 l8, D.sl 5 l9, D.sl 5 l10, D.sl 4 l11, D.sl 1 l12, D.sl 1 l13, D.sl 1 l14, D.sl 2 l15]] [.one (B false)] :=
 .of [.res [.one (B b16)], .br false, .res [.one (B b17)], .br false, .res [.one (B b18)], .br false, .res [.one (B b19)], .br false, .res [.one (B b20)], .br true] _ func160 rfl (by kernel_rfl) h
theorem qsj (l0 l1 l2 l3 l4 l5 l6 l7 l8 l9 l10 l11 l12 l13 l14 l15 : List (List D)) (b16 b17 b18 b19 b20 b21 : Bool)
  (h : Obs [Ret prog 19 [.one (.sl 5 l0), .one (.sl 5 l8)] [.one (B b16)], (!b16) = false, Ret prog 19 [.one (.sl 5 l1), .one (.sl 5 l9)] [.one (B b17)], (!b17) = false, Ret prog 19 [.one (.sl 5 l2), .one (.sl 5 l10)] [.one (B b18)], (!b18) = false, Ret prog 258 [.one (.sl 4 l3), .one (.sl 4 l11)] [.one (B b19)], (!b19) = false, Ret prog 259 [.one (.sl 1 l4), .one (.sl 1 l12)] [.one (B b20)], (!b20) = false, Ret prog 45 [.one (.sl 1 l5), .one (.sl 1 l13)] [.one (B b21)], (!b21) = true]) :
  Ret prog 160 [.agg [D.sl 5 l0, D.sl 5 l1, D.sl 5 l2, D.sl 4 l3, D.sl 1 l4, D.sl 1 l5, D.sl 1 l6, D.sl 2 l7], .agg [D.sl 5 l8, D.sl 5 l9, D.sl 5 l10, D.sl 4 l11, D.sl 1 l12, D.sl 1 l13, D.sl 1 l14, D.sl 2 l15]] [.one (B false)] :=
 .of [.res [.one (B b16)], .br false, .res [.one (B b17)], .br false, .res [.one (B b18)], .br false, .res [.one (B b19)], .br false, .res [.one (B b20)], .br false, .res [.one (B b21)], .br true] _ func160 rfl (by kernel_rfl) h
theorem qsk (l0 l1 l2 l3 l4 l5 l6 l7 l8 l9 l10 l11 l12 l13 l14 l15 : List (List D)) (b16 b17 b18 b19 b20 b21 b22 : Bool)
  (h : Obs [Ret prog 19 [.one (.sl 5 l0), .one (.sl 5 l8)] [.one (B b16)], (!b16) = false, Ret prog 19 [.one (.sl 5 l1), .one (.sl 5 l9)] [.one (B b17)], (!b17) = false, Ret prog 19 [.one (.sl 5 l2), .one (.sl 5 l10)] [.one (B b18)], (!b18) = false, Ret prog 258 [.one (.sl 4 l3), .one (.sl 4 l11)] [.one (B b19)], (!b19) = false, Ret prog 259 [.one (.sl 1 l4), .one (.sl 1 l12)] [.one (B b20)], (!b20) = false, Ret prog 45 [.one (.sl 1 l5), .one (.sl 1 l13)] [.one (B b21)], (!b21) = false, Ret prog 45 [.one (.sl 1 l6), .one (.sl 1 l14)] [.one (B b22)], (!b22) = true]) :
  Ret prog 160 [.agg [D.sl 5 l0, D.sl 5 l1, D.sl 5 l2, D.sl 4 l3, D.sl 1 l4, D.sl 1 l5, D.sl 1 l6, D.sl 2 l7], .agg [D.sl 5 l8, D.sl 5 l9, D.sl 5 l10, D.sl 4 l11, D.sl 1 l12, D.sl 1 l13, D.sl 1 l14, D.sl 2 l15]] [.one (B false)] :=
 .of [.res [.one (B b16)], .br false, .res [.one (B b17)], .br false, .res [.one (B b18)], .br false, .res [.one (B b19)], .br false, .res [.one (B b20)], .br false, .res [.one (B b21)], .br false, .res [.one (B b22)], .br true] _ func160 rfl (by kernel_rfl) h
theorem qsl (l0 l1 l2 l3 l4 l5 l6 l7 l8 l9 l10 l11 l12 l13 l14 l15 : List (List D)) (b16 b17 b18 b19 b20 b21 b22 b23 : Bool)
  (h : Obs [Ret prog 19 [.one (.sl 5 l0), .one (.sl 5 l8)] [.one (B b16)], (!b16) = false, Ret prog 19 [.one (.sl 5 l1), .one (.sl 5 l9)] [.one (B b17)], (!b17) = false, Ret prog 19 [.one (.sl 5 l2), .one (.sl 5 l10)] [.one (B b18)], (!b18) = false, Ret prog 258 [.one (.sl 4 l3), .one (.sl 4 l11)] [.one (B b19)], (!b19) = false, Ret prog 259 [.one (.sl 1 l4), .one (.sl 1 l12)] [.one (B b20)], (!b20) = false, Ret prog 45 [.one (.sl 1 l5), .one (.sl 1 l13)] [.one (B b21)], (!b21) = false, Ret prog 45 [.one (.sl 1 l6), .one (.sl 1 l14)] [.one (B b22)], (!b22) = false, Ret prog 260 [.one (.sl 2 l7), .one (.sl 2 l15)] [.one (B b23)], (!b23) = true]) :
  Ret prog 160 [.agg [D.sl 5 l0, D.sl 5 l1, D.sl 5 l2, D.sl 4 l3, D.sl 1 l4, D.sl 1 l5, D.sl 1 l6, D.sl 2 l7], .agg [D.sl 5 l8, D.sl 5 l9, D.sl 5 l10, D.sl 4 l11, D.sl 1 l12, D.sl 1 l13, D.sl 1 l14, D.sl 2 l15]] [.one (B false)] :=
 .of [.res [.one (B b16)], .br false, .res [.one (B b17)], .br false, .res [.one (B b18)], .br false, .res [.one (B b19)], .br false, .res [.one (B b20)], .br false, .res [.one (B b21)], .br false, .res [.one (B b22)], .br false, .res [.one (B b23)], .br true] _ func160 rfl (by kernel_rfl) h
theorem qsm (l0 l1 l2 l3 l4 l5 l6 l7 l8 l9 l10 l11 l12 l13 l14 l15 : List (List D)) (b16 b17 b18 b19 b20 b21 b22 b23 : Bool)
  (h : Obs [Ret prog 19 [.one (.sl 5 l0), .one (.sl 5 l8)] [.one (B b16)], (!b16) = false, Ret prog 19 [.one (.sl 5 l1), .one (.sl 5 l9)] [.one (B b17)], (!b17) = false, Ret prog 19 [.one (.sl 5 l2), .one (.sl 5 l10)] [.one (B b18)], (!b18) = false, Ret prog 258 [.one (.sl 4 l3), .one (.sl 4 l11)] [.one (B b19)], (!b19) = false, Ret prog 259 [.one (.sl 1 l4), .one (.sl 1 l12)] [.one (B b20)], (!b20) = false, Ret prog 45 [.one (.sl 1 l5), .one (.sl 1 l13)] [.one (B b21)], (!b21) = false, Ret prog 45 [.one (.sl 1 l6), .one (.sl 1 l14)] [.one (B b22)], (!b22) = false, Ret prog 260 [.one (.sl 2 l7), .one (.sl 2 l15)] [.one (B b23)], (!b23) = false]) :
  Ret prog 160 [.agg [D.sl 5 l0, D.sl 5 l1, D.sl 5 l2, D.sl 4 l3, D.sl 1 l4, D.sl 1 l5, D.sl 1 l6, D.sl 2 l7], .agg [D.sl 5 l8, D.sl 5 l9, D.sl 5 l10, D.sl 4 l11, D.sl 1 l12, D.sl 1 l13, D.sl 1 l14, D.sl 2 l15]] [.one (B true)] :=
 .of [.res [.one (B b16)], .br false, .res [.one (B b17)], .br false, .res [.one (B b18)], .br false, .res [.one (B b19)], .br false, .res [.one (B b20)], .br false, .res [.one (B b21)], .br false, .res [.one (B b22)], .br false, .res [.one (B b23)], .br false] _ func160 rfl (by kernel_rfl) h
theorem qsn (l0 l1 : List (List D))
  (h : Obs [((l0.length : Int) != (l1.length : Int)) = true]) :
  Ret prog 70 [.one (.sl 8 l0), .one (.sl 8 l1)] [.one (B false)] :=
 .of [.br true] _ func70 rfl (by kernel_rfl) h
def qcu (l0 l1 : List (List D)) (n2 : Int) : St :=
 { env := envOf 27 [(0, .al (.one (.sl .free 8 l0))), (1, .al (.one (.sl .free 8 l1))), (5, .al (.one (.v (.int .i64 n2))))], boxes := [] }
def qiS (b0 : Bool) : St :=
 { env := envOf 27 [(4, .al (.one (.sb b0)))], boxes := [] }
theorem qso (l0 l1 : List (List D)) (n2 : Int) (l3 l4 l5 l6 l7 l8 l9 l10 l11 l12 l13 l14 l15 l16 l17 l18 : List (List D)) (b19 : Bool)
  (h : Obs [decide (n2 < (l0.length : Int)) = true, 0 ≤ n2, n2 < (l0.length : Int), l0[n2.toNat]? = some [D.sl 5 l3, D.sl 5 l4, D.sl 5 l5, D.sl 4 l6, D.sl 1 l7, D.sl 1 l8, D.sl 1 l9, D.sl 2 l10], 0 ≤ n2, n2 < (l1.length : Int), l1[n2.toNat]? = some [D.sl 5 l11, D.sl 5 l12, D.sl 5 l13, D.sl 4 l14, D.sl 1 l15, D.sl 1 l16, D.sl 1 l17, D.sl 2 l18], Ret prog 160 [.agg [D.sl 5 l3, D.sl 5 l4, D.sl 5 l5, D.sl 4 l6, D.sl 1 l7, D.sl 1 l8, D.sl 1 l9, D.sl 2 l10], .agg [D.sl 5 l11, D.sl 5 l12, D.sl 5 l13, D.sl 4 l14, D.sl 1 l15, D.sl 1 l16, D.sl 1 l17, D.sl 2 l18]] [.one (B b19)], (!b19) = true]) :
  Tr prog (qaa f70 0) (qcu l0 l1 n2) .ret (qiS false) :=
 .of_loopc (ks := [4]) (bs := []) (ans := [.br true, .el [D.sl 5 l3, D.sl 5 l4, D.sl 5 l5, D.sl 4 l6, D.sl 1 l7, D.sl 1 l8, D.sl 1 l9, D.sl 2 l10], .el [D.sl 5 l11, D.sl 5 l12, D.sl 5 l13, D.sl 4 l14, D.sl 1 l15, D.sl 1 l16, D.sl 1 l17, D.sl 2 l18], .res [.one (B b19)], .br true]) (by kernel_rfl) h
theorem qsp (l0 l1 : List (List D)) (n2 : Int) (l3 l4 l5 l6 l7 l8 l9 l10 l11 l12 l13 l14 l15 l16 l17 l18 : List (List D)) (b19 : Bool)
  (h : Obs [decide (n2 < (l0.length : Int)) = true, 0 ≤ n2, n2 < (l0.length : Int), l0[n2.toNat]? = some [D.sl 5 l3, D.sl 5 l4, D.sl 5 l5, D.sl 4 l6, D.sl 1 l7, D.sl 1 l8, D.sl 1 l9, D.sl 2 l10], 0 ≤ n2, n2 < (l1.length : Int), l1[n2.toNat]? = some [D.sl 5 l11, D.sl 5 l12, D.sl 5 l13, D.sl 4 l14, D.sl 1 l15, D.sl 1 l16, D.sl 1 l17, D.sl 2 l18], Ret prog 160 [.agg [D.sl 5 l3, D.sl 5 l4, D.sl 5 l5, D.sl 4 l6, D.sl 1 l7, D.sl 1 l8, D.sl 1 l9, D.sl 2 l10], .agg [D.sl 5 l11, D.sl 5 l12, D.sl 5 l13, D.sl 4 l14, D.sl 1 l15, D.sl 1 l16, D.sl 1 l17, D.sl 2 l18]] [.one (B b19)], (!b19) = false, inInt .i64 (n2 + 1)]) :
  Tr prog (qaa f70 0) (qcu l0 l1 n2) .normal (qcu l0 l1 (n2 + 1)) :=
 .of_loopc (ks := [5, 0, 1]) (bs := []) (ans := [.br true, .el [D.sl 5 l3, D.sl 5 l4, D.sl 5 l5, D.sl 4 l6, D.sl 1 l7, D.sl 1 l8, D.sl 1 l9, D.sl 2 l10], .el [D.sl 5 l11, D.sl 5 l12, D.sl 5 l13, D.sl 4 l14, D.sl 1 l15, D.sl 1 l16, D.sl 1 l17, D.sl 2 l18], .res [.one (B b19)], .br false]) (by kernel_rfl) h
def qiT : St :=
 { env := envOf 27 [], boxes := [] }
theorem qsq (l0 l1 : List (List D)) (n2 : Int)
  (h : Obs [decide (n2 < (l0.length : Int)) = false]) :
  Tr prog (qaa f70 0) (qcu l0 l1 n2) (.exit 0) qiT :=
 .of_loopc (ks := []) (bs := []) (ans := [.br false]) (by kernel_rfl) h
theorem qsr (l0 l1 : List (List D)) (b2 : Bool)
  (h : Obs [((l0.length : Int) != (l1.length : Int)) = false, qac prog (qaa f70 0) (qcu l0 l1 0) .ret (qiS b2)]) :
  Ret prog 70 [.one (.sl 8 l0), .one (.sl 8 l1)] [.one (B b2)] :=
 .of [.br false, .loop [] [5, 0, 1] [] .ret (qiS b2)] _ func70 rfl (by kernel_rfl) h
theorem qss (l0 l1 : List (List D))
  (h : Obs [((l0.length : Int) != (l1.length : Int)) = false, qac prog (qaa f70 0) (qcu l0 l1 0) (.exit 0) qiT]) :
  Ret prog 70 [.one (.sl 8 l0), .one (.sl 8 l1)] [.one (B true)] :=
 .of [.br false, .loop [] [5, 0, 1] [] (.exit 0) qiT] _ func70 rfl (by kernel_rfl) h
theorem qst (l0 : List (List D)) (n1 n2 : Int) (l3 l4 l5 l6 l7 : List (List D)) (n8 n9 : Int) (l10 l11 l12 l13 : List (List D)) (b14 : Bool)
  (h : Obs [Ret prog 69 [.agg [D.sl 4 l0, I n1, I n2], .agg [D.sl 4 l7, I n8, I n9]] [.one (B b14)], (!b14) = true]) :
  Ret prog 20 [.agg [D.sl 4 l0, I n1, I n2, D.sl 8 l3, D.sl 6 l4, D.sl 5 l5, D.sl 3 l6], .agg [D.sl 4 l7, I n8, I n9, D.sl 8 l10, D.sl 6 l11, D.sl 5 l12, D.sl 3 l13]] [.one (B false)] :=
 .of [.res [.one (B b14)], .br true] _ func20 rfl (by kernel_rfl) h
theorem qsu (l0 : List (List D)) (n1 n2 : Int) (l3 l4 l5 l6 l7 : List (List D)) (n8 n9 : Int) (l10 l11 l12 l13 : List (List D)) (b14 b15 : Bool)
  (h : Obs [Ret prog 69 [.agg [D.sl 4 l0, I n1, I n2], .agg [D.sl 4 l7, I n8, I n9]] [.one (B b14)], (!b14) = false, Ret prog 70 [.one (.sl 8 l3), .one (.sl 8 l10)] [.one (B b15)], (!b15) = true]) :
  Ret prog 20 [.agg [D.sl 4 l0, I n1, I n2, D.sl 8 l3, D.sl 6 l4, D.sl 5 l5, D.sl 3 l6], .agg [D.sl 4 l7, I n8, I n9, D.sl 8 l10, D.sl 6 l11, D.sl 5 l12, D.sl 3 l13]] [.one (B false)] :=
 .of [.res [.one (B b14)], .br false, .res [.one (B b15)], .br true] _ func20 rfl (by kernel_rfl) h
theorem qsv (l0 : List (List D)) (n1 n2 : Int) (l3 l4 l5 l6 l7 : List (List D)) (n8 n9 : Int) (l10 l11 l12 l13 : List (List D)) (b14 b15 b16 : Bool)
  (h : Obs [Ret prog 69 [.agg [D.sl 4 l0, I n1, I n2], .agg [D.sl 4 l7, I n8, I n9]] [.one (B b14)], (!b14) = false, Ret prog 70 [.one (.sl 8 l3), .one (.sl 8 l10)] [.one (B b15)], (!b15) = false, Ret prog 71 [.one (.sl 6 l4), .one (.sl 6 l11)] [.one (B b16)], (!b16) = true]) :
  Ret prog 20 [.agg [D.sl 4 l0, I n1, I n2, D.sl 8 l3, D.sl 6 l4, D.sl 5 l5, D.sl 3 l6], .agg [D.sl 4 l7, I n8, I n9, D.sl 8 l10, D.sl 6 l11, D.sl 5 l12, D.sl 3 l13]] [.one (B false)] :=
 .of [.res [.one (B b14)], .br false, .res [.one (B b15)], .br false, .res [.one (B b16)], .br true] _ func20 rfl (by kernel_rfl) h
theorem qsw (l0 : List (List D)) (n1 n2 : Int) (l3 l4 l5 l6 l7 : List (List D)) (n8 n9 : Int) (l10 l11 l12 l13 : List (List D)) (b14 b15 b16 b17 : Bool)
  (h : Obs [Ret prog 69 [.agg [D.sl 4 l0, I n1, I n2], .agg [D.sl 4 l7, I n8, I n9]] [.one (B b14)], (!b14) = false, Ret prog 70 [.one (.sl 8 l3), .one (.sl 8 l10)] [.one (B b15)], (!b15) = false, Ret prog 71 [.one (.sl 6 l4), .one (.sl 6 l11)] [.one (B b16)], (!b16) = false, Ret prog 72 [.one (.sl 5 l5), .one (.sl 5 l12)] [.one (B b17)], (!b17) = true]) :
  Ret prog 20 [.agg [D.sl 4 l0, I n1, I n2, D.sl 8 l3, D.sl 6 l4, D.sl 5 l5, D.sl 3 l6], .agg [D.sl 4 l7, I n8, I n9, D.sl 8 l10, D.sl 6 l11, D.sl 5 l12, D.sl 3 l13]] [.one (B false)] :=
 .of [.res [.one (B b14)], .br false, .res [.one (B b15)], .br false, .res [.one (B b16)], .br false, .res [.one (B b17)], .br true] _ func20 rfl (by kernel_rfl) h
theorem qsx (l0 : List (List D)) (n1 n2 : Int) (l3 l4 l5 l6 l7 : List (List D)) (n8 n9 : Int) (l10 l11 l12 l13 : List (List D)) (b14 b15 b16 b17 b18 : Bool)
  (h : Obs [Ret prog 69 [.agg [D.sl 4 l0, I n1, I n2], .agg [D.sl 4 l7, I n8, I n9]] [.one (B b14)], (!b14) = false, Ret prog 70 [.one (.sl 8 l3), .one (.sl 8 l10)] [.one (B b15)], (!b15) = false, Ret prog 71 [.one (.sl 6 l4), .one (.sl 6 l11)] [.one (B b16)], (!b16) = false, Ret prog 72 [.one (.sl 5 l5), .one (.sl 5 l12)] [.one (B b17)], (!b17) = false, Ret prog 73 [.one (.sl 3 l6), .one (.sl 3 l13)] [.one (B b18)], (!b18) = true]) :
  Ret prog 20 [.agg [D.sl 4 l0, I n1, I n2, D.sl 8 l3, D.sl 6 l4, D.sl 5 l5, D.sl 3 l6], .agg [D.sl 4 l7, I n8, I n9, D.sl 8 l10, D.sl 6 l11, D.sl 5 l12, D.sl 3 l13]] [.one (B false)] :=
 .of [.res [.one (B b14)], .br false, .res [.one (B b15)], .br false, .res [.one (B b16)], .br false, .res [.one (B b17)], .br false, .res [.one (B b18)], .br true] _ func20 rfl (by kernel_rfl) h
theorem qsy (l0 : List (List D)) (n1 n2 : Int) (l3 l4 l5 l6 l7 : List (List D)) (n8 n9 : Int) (l10 l11 l12 l13 : List (List D)) (b14 b15 b16 b17 b18 : Bool)
  (h : Obs [Ret prog 69 [.agg [D.sl 4 l0, I n1, I n2], .agg [D.sl 4 l7, I n8, I n9]] [.one (B b14)], (!b14) = false, Ret prog 70 [.one (.sl 8 l3), .one (.sl 8 l10)] [.one (B b15)], (!b15) = false, Ret prog 71 [.one (.sl 6 l4), .one (.sl 6 l11)] [.one (B b16)], (!b16) = false, Ret prog 72 [.one (.sl 5 l5), .one (.sl 5 l12)] [.one (B b17)], (!b17) = false, Ret prog 73 [.one (.sl 3 l6), .one (.sl 3 l13)] [.one (B b18)], (!b18) = false]) :
  Ret prog 20 [.agg [D.sl 4 l0, I n1, I n2, D.sl 8 l3, D.sl 6 l4, D.sl 5 l5, D.sl 3 l6], .agg [D.sl 4 l7, I n8, I n9, D.sl 8 l10, D.sl 6 l11, D.sl 5 l12, D.sl 3 l13]] [.one (B true)] :=
 .of [.res [.one (B b14)], .br false, .res [.one (B b15)], .br false, .res [.one (B b16)], .br false, .res [.one (B b17)], .br false, .res [.one (B b18)], .br false] _ func20 rfl (by kernel_rfl) h
end Go.Proofs.YtialmplmfcahpaaGreat
