import Derived.Test.YtdanpadojemjeaaGreatRows
import Derived.Test.YtdanpadojemjeaaGreatGE
namespace Go.Proofs.YtdanpadojemjeaaGreat
open Go.Sx Go.RowKit
variable {n0 n1 n2 n4 n5 n6 n7 n8 n9 n10 : Int} {l3 : LL} {b4 b5 b6 b7 b8 b9 : Bool}
theorem qxK (h : Oo [.b (n0 == 2) true, .r 137 [cI n1, cI 0, cI 999] [cB b4], .r 137 [cI n0, cI 1, cI 8] [cB b5], .b (!b5) true]) :
 Rt 220 [.agg (nd n0 n1 n2 l3)] [cB false] :=
 h.of (by kernel_rfl)
theorem qxL (h : Oo [.b (n0 == 2) true, .r 137 [cI n1, cI 0, cI 999] [cB b4], .r 137 [cI n0, cI 1, cI 8] [cB b5], .b (!b5) false, .b (!b4) true]) :
 Rt 220 [.agg (nd n0 n1 n2 l3)] [cB false] :=
 h.of (by kernel_rfl)
theorem qxM (h : Oo [.b (n0 == 2) true, .r 137 [cI n1, cI 0, cI 999] [cB b4], .r 137 [cI n0, cI 1, cI 8] [cB b5], .b (!b5) false, .b (!b4) false, .b (!n2 == 0) true]) :
 Rt 220 [.agg (nd n0 n1 n2 l3)] [cB false] :=
 h.of (by kernel_rfl)
theorem qxN (h : Oo [.b (n0 == 2) true, .r 137 [cI n1, cI 0, cI 999] [cB b4], .r 137 [cI n0, cI 1, cI 8] [cB b5], .b (!b5) false, .b (!b4) false, .b (!n2 == 0) false, .b (decide ((↑l3.length : Int) > 2)) true]) :
 Rt 220 [.agg (nd n0 n1 n2 l3)] [cB false] :=
 h.of (by kernel_rfl)
theorem qxO (h : Oo [.b (n0 == 2) true, .r 137 [cI n1, cI 0, cI 999] [cB b4], .r 137 [cI n0, cI 1, cI 8] [cB b5], .b (!b5) false, .b (!b4) false, .b (!n2 == 0) false, .b (decide ((↑l3.length : Int) > 2)) false, .b (n0 == 8) true, .b (decide ((↑l3.length : Int) > 0)) true]) :
 Rt 220 [.agg (nd n0 n1 n2 l3)] [cB false] :=
 h.of (by kernel_rfl)
def qaI (n0 n1 n2 : Int) (l3 : LL) (n4 : Int) : St :=
 { env := envOf 93 [(1, vP 1), (5, vI n4)], boxes := [(1, [lI n0, lI n1, lI n2, .sl .free 1 l3])] }
def qb3 (b0 : Bool) : St :=
 { env := envOf 93 [(2, .al (.one (.sb b0)))], boxes := [] }
theorem qiN (h : Oo [.b (decide (n6 < (↑l3.length : Int))) true, .p (0 ≤ n6), .p (n6 < (↑l3.length : Int)), .e l3 n6.toNat [I n7], .r 137 [cI n7, cI 0, cI 7] [cB b8], .b (!b8) true]) :
 Tp (qaa Tryz.f220 0) (qaI n0 n1 n2 l3 n6) .ret (qb3 false) :=
 h.lp [2] [] (by kernel_rfl)
theorem qxP (h : Oo [.b (decide (n6 < (↑l3.length : Int))) true, .p (0 ≤ n6), .p (n6 < (↑l3.length : Int)), .e l3 n6.toNat [I n7], .r 137 [cI n7, cI 0, cI 7] [cB b8], .b (!b8) false, .b (decide (n6 > 0)) true, .p ((0 : Int) ≤ 0), .p (0 < (↑l3.length : Int)), .e l3 0 [I n9], .p ((0 : Int) ≤ 1), .p (1 < (↑l3.length : Int)), .e l3 1 [I n10], .b (n9 == n10) true]) :
 Tp (qaa Tryz.f220 0) (qaI n0 n1 n2 l3 n6) .ret (qb3 false) :=
 h.lp [2] [] (by kernel_rfl)
theorem qxQ (h : Oo [.b (decide (n6 < (↑l3.length : Int))) true, .p (0 ≤ n6), .p (n6 < (↑l3.length : Int)), .e l3 n6.toNat [I n7], .r 137 [cI n7, cI 0, cI 7] [cB b8], .b (!b8) false, .b (decide (n6 > 0)) true, .p ((0 : Int) ≤ 0), .p (0 < (↑l3.length : Int)), .e l3 0 [I n9], .p ((0 : Int) ≤ 1), .p (1 < (↑l3.length : Int)), .e l3 1 [I n10], .b (n9 == n10) false, .p (inInt .i64 (n6 + 1))]) :
 Tp (qaa Tryz.f220 0) (qaI n0 n1 n2 l3 n6) .normal (qaI n0 n1 n2 l3 (n6 + 1)) :=
 h.lp [5, 1] [1] (by kernel_rfl)
theorem ql1 (h : Oo [.b (decide (n6 < (↑l3.length : Int))) true, .p (0 ≤ n6), .p (n6 < (↑l3.length : Int)), .e l3 n6.toNat [I n7], .r 137 [cI n7, cI 0, cI 7] [cB b8], .b (!b8) false, .b (decide (n6 > 0)) false, .p (inInt .i64 (n6 + 1))]) :
 Tp (qaa Tryz.f220 0) (qaI n0 n1 n2 l3 n6) .normal (qaI n0 n1 n2 l3 (n6 + 1)) :=
 h.lp [5, 1] [1] (by kernel_rfl)
def qcB : St :=
 { env := envOf 93 [], boxes := [] }
theorem qiO (h : Oo [.b (decide (n6 < (↑l3.length : Int))) false]) :
 Tp (qaa Tryz.f220 0) (qaI n0 n1 n2 l3 n6) (.exit 1) qcB :=
 h.lp [] [] (by kernel_rfl)
theorem qxR (h : Oo [.b (n0 == 2) true, .r 137 [cI n1, cI 0, cI 999] [cB b4], .r 137 [cI n0, cI 1, cI 8] [cB b5], .b (!b5) false, .b (!b4) false, .b (!n2 == 0) false, .b (decide ((↑l3.length : Int) > 2)) false, .b (n0 == 8) true, .b (decide ((↑l3.length : Int) > 0)) false, .l [] [5, 1] [1] (qaa Tryz.f220 0) (qaI n0 n1 n2 l3 0) .ret (qb3 b6)]) :
 Rt 220 [.agg (nd n0 n1 n2 l3)] [cB b6] :=
 h.of (by kernel_rfl)
theorem qxS (h : Oo [.b (n0 == 2) true, .r 137 [cI n1, cI 0, cI 999] [cB b4], .r 137 [cI n0, cI 1, cI 8] [cB b5], .b (!b5) false, .b (!b4) false, .b (!n2 == 0) false, .b (decide ((↑l3.length : Int) > 2)) false, .b (n0 == 8) true, .b (decide ((↑l3.length : Int) > 0)) false, .l [] [5, 1] [1] (qaa Tryz.f220 0) (qaI n0 n1 n2 l3 0) (.exit 1) qcB]) :
 Rt 220 [.agg (nd n0 n1 n2 l3)] [cB true] :=
 h.of (by kernel_rfl)
theorem qxT (h : Oo [.b (n0 == 2) true, .r 137 [cI n1, cI 0, cI 999] [cB b4], .r 137 [cI n0, cI 1, cI 8] [cB b5], .b (!b5) false, .b (!b4) false, .b (!n2 == 0) false, .b (decide ((↑l3.length : Int) > 2)) false, .b (n0 == 8) false, .l [] [5, 1] [1] (qaa Tryz.f220 0) (qaI n0 n1 n2 l3 0) .ret (qb3 b6)]) :
 Rt 220 [.agg (nd n0 n1 n2 l3)] [cB b6] :=
 h.of (by kernel_rfl)
theorem qxU (h : Oo [.b (n0 == 2) true, .r 137 [cI n1, cI 0, cI 999] [cB b4], .r 137 [cI n0, cI 1, cI 8] [cB b5], .b (!b5) false, .b (!b4) false, .b (!n2 == 0) false, .b (decide ((↑l3.length : Int) > 2)) false, .b (n0 == 8) false, .l [] [5, 1] [1] (qaa Tryz.f220 0) (qaI n0 n1 n2 l3 0) (.exit 1) qcB]) :
 Rt 220 [.agg (nd n0 n1 n2 l3)] [cB true] :=
 h.of (by kernel_rfl)
theorem qxV (h : Oo [.b (n0 == 2) false, .b (n0 == 3) true, .r 137 [cI n1, cI 1, cI 10] [cB b4], .a .wr, .r 137 [cI n2, cI 0, cI (IntKind.i64.wrap (n1 - 1))] [cB b5], .r 137 [cI n0, cI 1, cI 8] [cB b6], .b (!b6) true]) :
 Rt 220 [.agg (nd n0 n1 n2 l3)] [cB false] :=
 h.of (by kernel_rfl)
theorem qxW (h : Oo [.b (n0 == 2) false, .b (n0 == 3) true, .r 137 [cI n1, cI 1, cI 10] [cB b4], .a .wr, .r 137 [cI n2, cI 0, cI (IntKind.i64.wrap (n1 - 1))] [cB b5], .r 137 [cI n0, cI 1, cI 8] [cB b6], .b (!b6) false, .b (!b4) true]) :
 Rt 220 [.agg (nd n0 n1 n2 l3)] [cB false] :=
 h.of (by kernel_rfl)
theorem qxX (h : Oo [.b (n0 == 2) false, .b (n0 == 3) true, .r 137 [cI n1, cI 1, cI 10] [cB b4], .a .wr, .r 137 [cI n2, cI 0, cI (IntKind.i64.wrap (n1 - 1))] [cB b5], .r 137 [cI n0, cI 1, cI 8] [cB b6], .b (!b6) false, .b (!b4) false, .b (!b5) true]) :
 Rt 220 [.agg (nd n0 n1 n2 l3)] [cB false] :=
 h.of (by kernel_rfl)
theorem qxY (h : Oo [.b (n0 == 2) false, .b (n0 == 3) true, .r 137 [cI n1, cI 1, cI 10] [cB b4], .a .wr, .r 137 [cI n2, cI 0, cI (IntKind.i64.wrap (n1 - 1))] [cB b5], .r 137 [cI n0, cI 1, cI 8] [cB b6], .b (!b6) false, .b (!b4) false, .b (!b5) false, .b (decide ((↑l3.length : Int) > 2)) true]) :
 Rt 220 [.agg (nd n0 n1 n2 l3)] [cB false] :=
 h.of (by kernel_rfl)
theorem qxZ (h : Oo [.b (n0 == 2) false, .b (n0 == 3) true, .r 137 [cI n1, cI 1, cI 10] [cB b4], .a .wr, .r 137 [cI n2, cI 0, cI (IntKind.i64.wrap (n1 - 1))] [cB b5], .r 137 [cI n0, cI 1, cI 8] [cB b6], .b (!b6) false, .b (!b4) false, .b (!b5) false, .b (decide ((↑l3.length : Int) > 2)) false, .b (n0 == 8) true, .b (decide ((↑l3.length : Int) > 0)) true]) :
 Rt 220 [.agg (nd n0 n1 n2 l3)] [cB false] :=
 h.of (by kernel_rfl)
theorem qx0 (h : Oo [.b (n0 == 2) false, .b (n0 == 3) true, .r 137 [cI n1, cI 1, cI 10] [cB b4], .a .wr, .r 137 [cI n2, cI 0, cI (IntKind.i64.wrap (n1 - 1))] [cB b5], .r 137 [cI n0, cI 1, cI 8] [cB b6], .b (!b6) false, .b (!b4) false, .b (!b5) false, .b (decide ((↑l3.length : Int) > 2)) false, .b (n0 == 8) true, .b (decide ((↑l3.length : Int) > 0)) false, .l [] [5, 1] [1] (qaa Tryz.f220 0) (qaI n0 n1 n2 l3 0) .ret (qb3 b7)]) :
 Rt 220 [.agg (nd n0 n1 n2 l3)] [cB b7] :=
 h.of (by kernel_rfl)
theorem qx1 (h : Oo [.b (n0 == 2) false, .b (n0 == 3) true, .r 137 [cI n1, cI 1, cI 10] [cB b4], .a .wr, .r 137 [cI n2, cI 0, cI (IntKind.i64.wrap (n1 - 1))] [cB b5], .r 137 [cI n0, cI 1, cI 8] [cB b6], .b (!b6) false, .b (!b4) false, .b (!b5) false, .b (decide ((↑l3.length : Int) > 2)) false, .b (n0 == 8) true, .b (decide ((↑l3.length : Int) > 0)) false, .l [] [5, 1] [1] (qaa Tryz.f220 0) (qaI n0 n1 n2 l3 0) (.exit 1) qcB]) :
 Rt 220 [.agg (nd n0 n1 n2 l3)] [cB true] :=
 h.of (by kernel_rfl)
theorem qx2 (h : Oo [.b (n0 == 2) false, .b (n0 == 3) true, .r 137 [cI n1, cI 1, cI 10] [cB b4], .a .wr, .r 137 [cI n2, cI 0, cI (IntKind.i64.wrap (n1 - 1))] [cB b5], .r 137 [cI n0, cI 1, cI 8] [cB b6], .b (!b6) false, .b (!b4) false, .b (!b5) false, .b (decide ((↑l3.length : Int) > 2)) false, .b (n0 == 8) false, .l [] [5, 1] [1] (qaa Tryz.f220 0) (qaI n0 n1 n2 l3 0) .ret (qb3 b7)]) :
 Rt 220 [.agg (nd n0 n1 n2 l3)] [cB b7] :=
 h.of (by kernel_rfl)
theorem qx3 (h : Oo [.b (n0 == 2) false, .b (n0 == 3) true, .r 137 [cI n1, cI 1, cI 10] [cB b4], .a .wr, .r 137 [cI n2, cI 0, cI (IntKind.i64.wrap (n1 - 1))] [cB b5], .r 137 [cI n0, cI 1, cI 8] [cB b6], .b (!b6) false, .b (!b4) false, .b (!b5) false, .b (decide ((↑l3.length : Int) > 2)) false, .b (n0 == 8) false, .l [] [5, 1] [1] (qaa Tryz.f220 0) (qaI n0 n1 n2 l3 0) (.exit 1) qcB]) :
 Rt 220 [.agg (nd n0 n1 n2 l3)] [cB true] :=
 h.of (by kernel_rfl)
theorem qx4 (h : Oo [.b (n0 == 2) false, .b (n0 == 3) false, .b (n0 == 4) true, .r 137 [cI n1, cI 0, cI 99] [cB b4], .r 137 [cI n0, cI 1, cI 8] [cB b5], .b (!b5) true]) :
 Rt 220 [.agg (nd n0 n1 n2 l3)] [cB false] :=
 h.of (by kernel_rfl)
theorem qx5 (h : Oo [.b (n0 == 2) false, .b (n0 == 3) false, .b (n0 == 4) true, .r 137 [cI n1, cI 0, cI 99] [cB b4], .r 137 [cI n0, cI 1, cI 8] [cB b5], .b (!b5) false, .b (!b4) true]) :
 Rt 220 [.agg (nd n0 n1 n2 l3)] [cB false] :=
 h.of (by kernel_rfl)
theorem qx6 (h : Oo [.b (n0 == 2) false, .b (n0 == 3) false, .b (n0 == 4) true, .r 137 [cI n1, cI 0, cI 99] [cB b4], .r 137 [cI n0, cI 1, cI 8] [cB b5], .b (!b5) false, .b (!b4) false, .b (!n2 == 0) true]) :
 Rt 220 [.agg (nd n0 n1 n2 l3)] [cB false] :=
 h.of (by kernel_rfl)
theorem qx7 (h : Oo [.b (n0 == 2) false, .b (n0 == 3) false, .b (n0 == 4) true, .r 137 [cI n1, cI 0, cI 99] [cB b4], .r 137 [cI n0, cI 1, cI 8] [cB b5], .b (!b5) false, .b (!b4) false, .b (!n2 == 0) false, .b (decide ((↑l3.length : Int) > 2)) true]) :
 Rt 220 [.agg (nd n0 n1 n2 l3)] [cB false] :=
 h.of (by kernel_rfl)
theorem qx8 (h : Oo [.b (n0 == 2) false, .b (n0 == 3) false, .b (n0 == 4) true, .r 137 [cI n1, cI 0, cI 99] [cB b4], .r 137 [cI n0, cI 1, cI 8] [cB b5], .b (!b5) false, .b (!b4) false, .b (!n2 == 0) false, .b (decide ((↑l3.length : Int) > 2)) false, .b (n0 == 8) true, .b (decide ((↑l3.length : Int) > 0)) true]) :
 Rt 220 [.agg (nd n0 n1 n2 l3)] [cB false] :=
 h.of (by kernel_rfl)
theorem qx9 (h : Oo [.b (n0 == 2) false, .b (n0 == 3) false, .b (n0 == 4) true, .r 137 [cI n1, cI 0, cI 99] [cB b4], .r 137 [cI n0, cI 1, cI 8] [cB b5], .b (!b5) false, .b (!b4) false, .b (!n2 == 0) false, .b (decide ((↑l3.length : Int) > 2)) false, .b (n0 == 8) true, .b (decide ((↑l3.length : Int) > 0)) false, .l [] [5, 1] [1] (qaa Tryz.f220 0) (qaI n0 n1 n2 l3 0) .ret (qb3 b6)]) :
 Rt 220 [.agg (nd n0 n1 n2 l3)] [cB b6] :=
 h.of (by kernel_rfl)
theorem qya (h : Oo [.b (n0 == 2) false, .b (n0 == 3) false, .b (n0 == 4) true, .r 137 [cI n1, cI 0, cI 99] [cB b4], .r 137 [cI n0, cI 1, cI 8] [cB b5], .b (!b5) false, .b (!b4) false, .b (!n2 == 0) false, .b (decide ((↑l3.length : Int) > 2)) false, .b (n0 == 8) true, .b (decide ((↑l3.length : Int) > 0)) false, .l [] [5, 1] [1] (qaa Tryz.f220 0) (qaI n0 n1 n2 l3 0) (.exit 1) qcB]) :
 Rt 220 [.agg (nd n0 n1 n2 l3)] [cB true] :=
 h.of (by kernel_rfl)
theorem qyb (h : Oo [.b (n0 == 2) false, .b (n0 == 3) false, .b (n0 == 4) true, .r 137 [cI n1, cI 0, cI 99] [cB b4], .r 137 [cI n0, cI 1, cI 8] [cB b5], .b (!b5) false, .b (!b4) false, .b (!n2 == 0) false, .b (decide ((↑l3.length : Int) > 2)) false, .b (n0 == 8) false, .l [] [5, 1] [1] (qaa Tryz.f220 0) (qaI n0 n1 n2 l3 0) .ret (qb3 b6)]) :
 Rt 220 [.agg (nd n0 n1 n2 l3)] [cB b6] :=
 h.of (by kernel_rfl)
theorem qyc (h : Oo [.b (n0 == 2) false, .b (n0 == 3) false, .b (n0 == 4) true, .r 137 [cI n1, cI 0, cI 99] [cB b4], .r 137 [cI n0, cI 1, cI 8] [cB b5], .b (!b5) false, .b (!b4) false, .b (!n2 == 0) false, .b (decide ((↑l3.length : Int) > 2)) false, .b (n0 == 8) false, .l [] [5, 1] [1] (qaa Tryz.f220 0) (qaI n0 n1 n2 l3 0) (.exit 1) qcB]) :
 Rt 220 [.agg (nd n0 n1 n2 l3)] [cB true] :=
 h.of (by kernel_rfl)
theorem qyd (h : Oo [.b (n0 == 2) false, .b (n0 == 3) false, .b (n0 == 4) false, .r 137 [cI n0, cI 1, cI 8] [cB b4], .b (!b4) true]) :
 Rt 220 [.agg (nd n0 n1 n2 l3)] [cB false] :=
 h.of (by kernel_rfl)
theorem qye (h : Oo [.b (n0 == 2) false, .b (n0 == 3) false, .b (n0 == 4) false, .r 137 [cI n0, cI 1, cI 8] [cB b4], .b (!b4) false, .b (!n1 == 0) true]) :
 Rt 220 [.agg (nd n0 n1 n2 l3)] [cB false] :=
 h.of (by kernel_rfl)
theorem qyf (h : Oo [.b (n0 == 2) false, .b (n0 == 3) false, .b (n0 == 4) false, .r 137 [cI n0, cI 1, cI 8] [cB b4], .b (!b4) false, .b (!n1 == 0) false, .b (!n2 == 0) true]) :
 Rt 220 [.agg (nd n0 n1 n2 l3)] [cB false] :=
 h.of (by kernel_rfl)
theorem qyg (h : Oo [.b (n0 == 2) false, .b (n0 == 3) false, .b (n0 == 4) false, .r 137 [cI n0, cI 1, cI 8] [cB b4], .b (!b4) false, .b (!n1 == 0) false, .b (!n2 == 0) false, .b (decide ((↑l3.length : Int) > 2)) true]) :
 Rt 220 [.agg (nd n0 n1 n2 l3)] [cB false] :=
 h.of (by kernel_rfl)
theorem qyh (h : Oo [.b (n0 == 2) false, .b (n0 == 3) false, .b (n0 == 4) false, .r 137 [cI n0, cI 1, cI 8] [cB b4], .b (!b4) false, .b (!n1 == 0) false, .b (!n2 == 0) false, .b (decide ((↑l3.length : Int) > 2)) false, .b (n0 == 8) true, .b (decide ((↑l3.length : Int) > 0)) true]) :
 Rt 220 [.agg (nd n0 n1 n2 l3)] [cB false] :=
 h.of (by kernel_rfl)
theorem qyi (h : Oo [.b (n0 == 2) false, .b (n0 == 3) false, .b (n0 == 4) false, .r 137 [cI n0, cI 1, cI 8] [cB b4], .b (!b4) false, .b (!n1 == 0) false, .b (!n2 == 0) false, .b (decide ((↑l3.length : Int) > 2)) false, .b (n0 == 8) true, .b (decide ((↑l3.length : Int) > 0)) false, .l [] [5, 1] [1] (qaa Tryz.f220 0) (qaI n0 n1 n2 l3 0) .ret (qb3 b5)]) :
 Rt 220 [.agg (nd n0 n1 n2 l3)] [cB b5] :=
 h.of (by kernel_rfl)
theorem qyj (h : Oo [.b (n0 == 2) false, .b (n0 == 3) false, .b (n0 == 4) false, .r 137 [cI n0, cI 1, cI 8] [cB b4], .b (!b4) false, .b (!n1 == 0) false, .b (!n2 == 0) false, .b (decide ((↑l3.length : Int) > 2)) false, .b (n0 == 8) true, .b (decide ((↑l3.length : Int) > 0)) false, .l [] [5, 1] [1] (qaa Tryz.f220 0) (qaI n0 n1 n2 l3 0) (.exit 1) qcB]) :
 Rt 220 [.agg (nd n0 n1 n2 l3)] [cB true] :=
 h.of (by kernel_rfl)
theorem qyk (h : Oo [.b (n0 == 2) false, .b (n0 == 3) false, .b (n0 == 4) false, .r 137 [cI n0, cI 1, cI 8] [cB b4], .b (!b4) false, .b (!n1 == 0) false, .b (!n2 == 0) false, .b (decide ((↑l3.length : Int) > 2)) false, .b (n0 == 8) false, .l [] [5, 1] [1] (qaa Tryz.f220 0) (qaI n0 n1 n2 l3 0) .ret (qb3 b5)]) :
 Rt 220 [.agg (nd n0 n1 n2 l3)] [cB b5] :=
 h.of (by kernel_rfl)
theorem qyl (h : Oo [.b (n0 == 2) false, .b (n0 == 3) false, .b (n0 == 4) false, .r 137 [cI n0, cI 1, cI 8] [cB b4], .b (!b4) false, .b (!n1 == 0) false, .b (!n2 == 0) false, .b (decide ((↑l3.length : Int) > 2)) false, .b (n0 == 8) false, .l [] [5, 1] [1] (qaa Tryz.f220 0) (qaI n0 n1 n2 l3 0) (.exit 1) qcB]) :
 Rt 220 [.agg (nd n0 n1 n2 l3)] [cB true] :=
 h.of (by kernel_rfl)
theorem qym (h : Oo [.b (n0 == 2) true, .r 81 [cI n1, cI 0, cI 999] [cB b4], .b (!b4) true]) :
 Rt 197 [.agg (nd n0 n1 n2 l3)] [cB false] :=
 h.of (by kernel_rfl)
theorem qyn (h : Oo [.b (n0 == 2) true, .r 81 [cI n1, cI 0, cI 999] [cB b4], .b (!b4) false, .b (n2 != 0) true]) :
 Rt 197 [.agg (nd n0 n1 n2 l3)] [cB false] :=
 h.of (by kernel_rfl)
theorem qyo (h : Oo [.b (n0 == 2) true, .r 81 [cI n1, cI 0, cI 999] [cB b4], .b (!b4) false, .b (n2 != 0) false, .b (decide ((↑l3.length : Int) > 2)) true]) :
 Rt 197 [.agg (nd n0 n1 n2 l3)] [cB false] :=
 h.of (by kernel_rfl)
theorem qyp (h : Oo [.b (n0 == 2) true, .r 81 [cI n1, cI 0, cI 999] [cB b4], .b (!b4) false, .b (n2 != 0) false, .b (decide ((↑l3.length : Int) > 2)) false, .b (n0 == 8) true, .b (decide ((↑l3.length : Int) > 0)) true]) :
 Rt 197 [.agg (nd n0 n1 n2 l3)] [cB false] :=
 h.of (by kernel_rfl)
theorem qyq (h : Oo [.b (n0 == 2) true, .r 81 [cI n1, cI 0, cI 999] [cB b4], .b (!b4) false, .b (n2 != 0) false, .b (decide ((↑l3.length : Int) > 2)) false, .b (n0 == 8) true, .b (decide ((↑l3.length : Int) > 0)) false, .b ((↑l3.length : Int) == 2) true, .p ((0 : Int) ≤ 0), .p (0 < (↑l3.length : Int)), .e l3 0 [I n5], .p ((0 : Int) ≤ 1), .p (1 < (↑l3.length : Int)), .e l3 1 [I n6], .b (n5 == n6) true]) :
 Rt 197 [.agg (nd n0 n1 n2 l3)] [cB false] :=
 h.of (by kernel_rfl)
def qal (l0 : LL) (n1 : Int) : St :=
 { env := envOf 101 [(91, vF 1 l0), (92, vI (↑l0.length : Int)), (93, vI n1)], boxes := [] }
def qaw (b0 : Bool) : St :=
 { env := envOf 101 [(2, .al (.one (.sb b0)))], boxes := [] }
theorem qyr (h : Oo [.b (decide (n7 < (↑l3.length : Int))) true, .p (0 ≤ n7), .p (n7 < (↑l3.length : Int)), .e l3 n7.toNat [I n8], .r 81 [cI n8, cI 0, cI 7] [cB b9], .b (!b9) true]) :
 Tp (qaa Tryz.f197 0) (qal l3 n7) .ret (qaw false) :=
 h.lp [2] [] (by kernel_rfl)
theorem qys (h : Oo [.b (decide (n7 < (↑l3.length : Int))) true, .p (0 ≤ n7), .p (n7 < (↑l3.length : Int)), .e l3 n7.toNat [I n8], .r 81 [cI n8, cI 0, cI 7] [cB b9], .b (!b9) false, .p (inInt .i64 (n7 + 1))]) :
 Tp (qaa Tryz.f197 0) (qal l3 n7) .normal (qal l3 (n7 + 1)) :=
 h.lp [93, 92, 91] [] (by kernel_rfl)
def qaA : St :=
 { env := envOf 101 [], boxes := [] }
theorem qyt (h : Oo [.b (decide (n7 < (↑l3.length : Int))) false]) :
 Tp (qaa Tryz.f197 0) (qal l3 n7) (.exit 1) qaA :=
 h.lp [] [] (by kernel_rfl)
theorem qyu (h : Oo [.b (n0 == 2) true, .r 81 [cI n1, cI 0, cI 999] [cB b4], .b (!b4) false, .b (n2 != 0) false, .b (decide ((↑l3.length : Int) > 2)) false, .b (n0 == 8) true, .b (decide ((↑l3.length : Int) > 0)) false, .b ((↑l3.length : Int) == 2) true, .p ((0 : Int) ≤ 0), .p (0 < (↑l3.length : Int)), .e l3 0 [I n5], .p ((0 : Int) ≤ 1), .p (1 < (↑l3.length : Int)), .e l3 1 [I n6], .b (n5 == n6) false, .l [] [93, 92, 91] [] (qaa Tryz.f197 0) (qal l3 0) .ret (qaw b7)]) :
 Rt 197 [.agg (nd n0 n1 n2 l3)] [cB b7] :=
 h.of (by kernel_rfl)
theorem qyv (h : Oo [.b (n0 == 2) true, .r 81 [cI n1, cI 0, cI 999] [cB b4], .b (!b4) false, .b (n2 != 0) false, .b (decide ((↑l3.length : Int) > 2)) false, .b (n0 == 8) true, .b (decide ((↑l3.length : Int) > 0)) false, .b ((↑l3.length : Int) == 2) true, .p ((0 : Int) ≤ 0), .p (0 < (↑l3.length : Int)), .e l3 0 [I n5], .p ((0 : Int) ≤ 1), .p (1 < (↑l3.length : Int)), .e l3 1 [I n6], .b (n5 == n6) false, .l [] [93, 92, 91] [] (qaa Tryz.f197 0) (qal l3 0) (.exit 1) qaA]) :
 Rt 197 [.agg (nd n0 n1 n2 l3)] [cB true] :=
 h.of (by kernel_rfl)
theorem qyw (h : Oo [.b (n0 == 2) true, .r 81 [cI n1, cI 0, cI 999] [cB b4], .b (!b4) false, .b (n2 != 0) false, .b (decide ((↑l3.length : Int) > 2)) false, .b (n0 == 8) true, .b (decide ((↑l3.length : Int) > 0)) false, .b ((↑l3.length : Int) == 2) false, .l [] [93, 92, 91] [] (qaa Tryz.f197 0) (qal l3 0) .ret (qaw b5)]) :
 Rt 197 [.agg (nd n0 n1 n2 l3)] [cB b5] :=
 h.of (by kernel_rfl)
theorem qyx (h : Oo [.b (n0 == 2) true, .r 81 [cI n1, cI 0, cI 999] [cB b4], .b (!b4) false, .b (n2 != 0) false, .b (decide ((↑l3.length : Int) > 2)) false, .b (n0 == 8) true, .b (decide ((↑l3.length : Int) > 0)) false, .b ((↑l3.length : Int) == 2) false, .l [] [93, 92, 91] [] (qaa Tryz.f197 0) (qal l3 0) (.exit 1) qaA]) :
 Rt 197 [.agg (nd n0 n1 n2 l3)] [cB true] :=
 h.of (by kernel_rfl)
theorem qyy (h : Oo [.b (n0 == 2) true, .r 81 [cI n1, cI 0, cI 999] [cB b4], .b (!b4) false, .b (n2 != 0) false, .b (decide ((↑l3.length : Int) > 2)) false, .b (n0 == 8) false, .b ((↑l3.length : Int) == 2) true, .p ((0 : Int) ≤ 0), .p (0 < (↑l3.length : Int)), .e l3 0 [I n5], .p ((0 : Int) ≤ 1), .p (1 < (↑l3.length : Int)), .e l3 1 [I n6], .b (n5 == n6) true]) :
 Rt 197 [.agg (nd n0 n1 n2 l3)] [cB false] :=
 h.of (by kernel_rfl)
theorem qyz (h : Oo [.b (n0 == 2) true, .r 81 [cI n1, cI 0, cI 999] [cB b4], .b (!b4) false, .b (n2 != 0) false, .b (decide ((↑l3.length : Int) > 2)) false, .b (n0 == 8) false, .b ((↑l3.length : Int) == 2) true, .p ((0 : Int) ≤ 0), .p (0 < (↑l3.length : Int)), .e l3 0 [I n5], .p ((0 : Int) ≤ 1), .p (1 < (↑l3.length : Int)), .e l3 1 [I n6], .b (n5 == n6) false, .l [] [93, 92, 91] [] (qaa Tryz.f197 0) (qal l3 0) .ret (qaw b7)]) :
 Rt 197 [.agg (nd n0 n1 n2 l3)] [cB b7] :=
 h.of (by kernel_rfl)
theorem qyA (h : Oo [.b (n0 == 2) true, .r 81 [cI n1, cI 0, cI 999] [cB b4], .b (!b4) false, .b (n2 != 0) false, .b (decide ((↑l3.length : Int) > 2)) false, .b (n0 == 8) false, .b ((↑l3.length : Int) == 2) true, .p ((0 : Int) ≤ 0), .p (0 < (↑l3.length : Int)), .e l3 0 [I n5], .p ((0 : Int) ≤ 1), .p (1 < (↑l3.length : Int)), .e l3 1 [I n6], .b (n5 == n6) false, .l [] [93, 92, 91] [] (qaa Tryz.f197 0) (qal l3 0) (.exit 1) qaA]) :
 Rt 197 [.agg (nd n0 n1 n2 l3)] [cB true] :=
 h.of (by kernel_rfl)
theorem qyB (h : Oo [.b (n0 == 2) true, .r 81 [cI n1, cI 0, cI 999] [cB b4], .b (!b4) false, .b (n2 != 0) false, .b (decide ((↑l3.length : Int) > 2)) false, .b (n0 == 8) false, .b ((↑l3.length : Int) == 2) false, .l [] [93, 92, 91] [] (qaa Tryz.f197 0) (qal l3 0) .ret (qaw b5)]) :
 Rt 197 [.agg (nd n0 n1 n2 l3)] [cB b5] :=
 h.of (by kernel_rfl)
theorem qyC (h : Oo [.b (n0 == 2) true, .r 81 [cI n1, cI 0, cI 999] [cB b4], .b (!b4) false, .b (n2 != 0) false, .b (decide ((↑l3.length : Int) > 2)) false, .b (n0 == 8) false, .b ((↑l3.length : Int) == 2) false, .l [] [93, 92, 91] [] (qaa Tryz.f197 0) (qal l3 0) (.exit 1) qaA]) :
 Rt 197 [.agg (nd n0 n1 n2 l3)] [cB true] :=
 h.of (by kernel_rfl)
theorem qyD (h : Oo [.b (n0 == 2) false, .b (n0 == 3) true, .r 81 [cI n1, cI 1, cI 10] [cB b4], .b (!b4) true]) :
 Rt 197 [.agg (nd n0 n1 n2 l3)] [cB false] :=
 h.of (by kernel_rfl)
theorem qyE (h : Oo [.b (n0 == 2) false, .b (n0 == 3) true, .r 81 [cI n1, cI 1, cI 10] [cB b4], .b (!b4) false, .a .wr, .r 81 [cI n2, cI 0, cI (IntKind.i64.wrap (n1 - 1))] [cB b5], .b (!b5) true]) :
 Rt 197 [.agg (nd n0 n1 n2 l3)] [cB false] :=
 h.of (by kernel_rfl)
theorem qyF (h : Oo [.b (n0 == 2) false, .b (n0 == 3) true, .r 81 [cI n1, cI 1, cI 10] [cB b4], .b (!b4) false, .a .wr, .r 81 [cI n2, cI 0, cI (IntKind.i64.wrap (n1 - 1))] [cB b5], .b (!b5) false, .b (decide ((↑l3.length : Int) > 2)) true]) :
 Rt 197 [.agg (nd n0 n1 n2 l3)] [cB false] :=
 h.of (by kernel_rfl)
theorem qyG (h : Oo [.b (n0 == 2) false, .b (n0 == 3) true, .r 81 [cI n1, cI 1, cI 10] [cB b4], .b (!b4) false, .a .wr, .r 81 [cI n2, cI 0, cI (IntKind.i64.wrap (n1 - 1))] [cB b5], .b (!b5) false, .b (decide ((↑l3.length : Int) > 2)) false, .b (n0 == 8) true, .b (decide ((↑l3.length : Int) > 0)) true]) :
 Rt 197 [.agg (nd n0 n1 n2 l3)] [cB false] :=
 h.of (by kernel_rfl)
theorem qyH (h : Oo [.b (n0 == 2) false, .b (n0 == 3) true, .r 81 [cI n1, cI 1, cI 10] [cB b4], .b (!b4) false, .a .wr, .r 81 [cI n2, cI 0, cI (IntKind.i64.wrap (n1 - 1))] [cB b5], .b (!b5) false, .b (decide ((↑l3.length : Int) > 2)) false, .b (n0 == 8) true, .b (decide ((↑l3.length : Int) > 0)) false, .b ((↑l3.length : Int) == 2) true, .p ((0 : Int) ≤ 0), .p (0 < (↑l3.length : Int)), .e l3 0 [I n6], .p ((0 : Int) ≤ 1), .p (1 < (↑l3.length : Int)), .e l3 1 [I n7], .b (n6 == n7) true]) :
 Rt 197 [.agg (nd n0 n1 n2 l3)] [cB false] :=
 h.of (by kernel_rfl)
theorem qyI (h : Oo [.b (n0 == 2) false, .b (n0 == 3) true, .r 81 [cI n1, cI 1, cI 10] [cB b4], .b (!b4) false, .a .wr, .r 81 [cI n2, cI 0, cI (IntKind.i64.wrap (n1 - 1))] [cB b5], .b (!b5) false, .b (decide ((↑l3.length : Int) > 2)) false, .b (n0 == 8) true, .b (decide ((↑l3.length : Int) > 0)) false, .b ((↑l3.length : Int) == 2) true, .p ((0 : Int) ≤ 0), .p (0 < (↑l3.length : Int)), .e l3 0 [I n6], .p ((0 : Int) ≤ 1), .p (1 < (↑l3.length : Int)), .e l3 1 [I n7], .b (n6 == n7) false, .l [] [93, 92, 91] [] (qaa Tryz.f197 0) (qal l3 0) .ret (qaw b8)]) :
 Rt 197 [.agg (nd n0 n1 n2 l3)] [cB b8] :=
 h.of (by kernel_rfl)
theorem qyJ (h : Oo [.b (n0 == 2) false, .b (n0 == 3) true, .r 81 [cI n1, cI 1, cI 10] [cB b4], .b (!b4) false, .a .wr, .r 81 [cI n2, cI 0, cI (IntKind.i64.wrap (n1 - 1))] [cB b5], .b (!b5) false, .b (decide ((↑l3.length : Int) > 2)) false, .b (n0 == 8) true, .b (decide ((↑l3.length : Int) > 0)) false, .b ((↑l3.length : Int) == 2) true, .p ((0 : Int) ≤ 0), .p (0 < (↑l3.length : Int)), .e l3 0 [I n6], .p ((0 : Int) ≤ 1), .p (1 < (↑l3.length : Int)), .e l3 1 [I n7], .b (n6 == n7) false, .l [] [93, 92, 91] [] (qaa Tryz.f197 0) (qal l3 0) (.exit 1) qaA]) :
 Rt 197 [.agg (nd n0 n1 n2 l3)] [cB true] :=
 h.of (by kernel_rfl)
theorem qyK (h : Oo [.b (n0 == 2) false, .b (n0 == 3) true, .r 81 [cI n1, cI 1, cI 10] [cB b4], .b (!b4) false, .a .wr, .r 81 [cI n2, cI 0, cI (IntKind.i64.wrap (n1 - 1))] [cB b5], .b (!b5) false, .b (decide ((↑l3.length : Int) > 2)) false, .b (n0 == 8) true, .b (decide ((↑l3.length : Int) > 0)) false, .b ((↑l3.length : Int) == 2) false, .l [] [93, 92, 91] [] (qaa Tryz.f197 0) (qal l3 0) .ret (qaw b6)]) :
 Rt 197 [.agg (nd n0 n1 n2 l3)] [cB b6] :=
 h.of (by kernel_rfl)
theorem qyL (h : Oo [.b (n0 == 2) false, .b (n0 == 3) true, .r 81 [cI n1, cI 1, cI 10] [cB b4], .b (!b4) false, .a .wr, .r 81 [cI n2, cI 0, cI (IntKind.i64.wrap (n1 - 1))] [cB b5], .b (!b5) false, .b (decide ((↑l3.length : Int) > 2)) false, .b (n0 == 8) true, .b (decide ((↑l3.length : Int) > 0)) false, .b ((↑l3.length : Int) == 2) false, .l [] [93, 92, 91] [] (qaa Tryz.f197 0) (qal l3 0) (.exit 1) qaA]) :
 Rt 197 [.agg (nd n0 n1 n2 l3)] [cB true] :=
 h.of (by kernel_rfl)
theorem qyM (h : Oo [.b (n0 == 2) false, .b (n0 == 3) true, .r 81 [cI n1, cI 1, cI 10] [cB b4], .b (!b4) false, .a .wr, .r 81 [cI n2, cI 0, cI (IntKind.i64.wrap (n1 - 1))] [cB b5], .b (!b5) false, .b (decide ((↑l3.length : Int) > 2)) false, .b (n0 == 8) false, .b ((↑l3.length : Int) == 2) true, .p ((0 : Int) ≤ 0), .p (0 < (↑l3.length : Int)), .e l3 0 [I n6], .p ((0 : Int) ≤ 1), .p (1 < (↑l3.length : Int)), .e l3 1 [I n7], .b (n6 == n7) true]) :
 Rt 197 [.agg (nd n0 n1 n2 l3)] [cB false] :=
 h.of (by kernel_rfl)
theorem qyN (h : Oo [.b (n0 == 2) false, .b (n0 == 3) true, .r 81 [cI n1, cI 1, cI 10] [cB b4], .b (!b4) false, .a .wr, .r 81 [cI n2, cI 0, cI (IntKind.i64.wrap (n1 - 1))] [cB b5], .b (!b5) false, .b (decide ((↑l3.length : Int) > 2)) false, .b (n0 == 8) false, .b ((↑l3.length : Int) == 2) true, .p ((0 : Int) ≤ 0), .p (0 < (↑l3.length : Int)), .e l3 0 [I n6], .p ((0 : Int) ≤ 1), .p (1 < (↑l3.length : Int)), .e l3 1 [I n7], .b (n6 == n7) false, .l [] [93, 92, 91] [] (qaa Tryz.f197 0) (qal l3 0) .ret (qaw b8)]) :
 Rt 197 [.agg (nd n0 n1 n2 l3)] [cB b8] :=
 h.of (by kernel_rfl)
theorem qyO (h : Oo [.b (n0 == 2) false, .b (n0 == 3) true, .r 81 [cI n1, cI 1, cI 10] [cB b4], .b (!b4) false, .a .wr, .r 81 [cI n2, cI 0, cI (IntKind.i64.wrap (n1 - 1))] [cB b5], .b (!b5) false, .b (decide ((↑l3.length : Int) > 2)) false, .b (n0 == 8) false, .b ((↑l3.length : Int) == 2) true, .p ((0 : Int) ≤ 0), .p (0 < (↑l3.length : Int)), .e l3 0 [I n6], .p ((0 : Int) ≤ 1), .p (1 < (↑l3.length : Int)), .e l3 1 [I n7], .b (n6 == n7) false, .l [] [93, 92, 91] [] (qaa Tryz.f197 0) (qal l3 0) (.exit 1) qaA]) :
 Rt 197 [.agg (nd n0 n1 n2 l3)] [cB true] :=
 h.of (by kernel_rfl)
theorem qyP (h : Oo [.b (n0 == 2) false, .b (n0 == 3) true, .r 81 [cI n1, cI 1, cI 10] [cB b4], .b (!b4) false, .a .wr, .r 81 [cI n2, cI 0, cI (IntKind.i64.wrap (n1 - 1))] [cB b5], .b (!b5) false, .b (decide ((↑l3.length : Int) > 2)) false, .b (n0 == 8) false, .b ((↑l3.length : Int) == 2) false, .l [] [93, 92, 91] [] (qaa Tryz.f197 0) (qal l3 0) .ret (qaw b6)]) :
 Rt 197 [.agg (nd n0 n1 n2 l3)] [cB b6] :=
 h.of (by kernel_rfl)
theorem qyQ (h : Oo [.b (n0 == 2) false, .b (n0 == 3) true, .r 81 [cI n1, cI 1, cI 10] [cB b4], .b (!b4) false, .a .wr, .r 81 [cI n2, cI 0, cI (IntKind.i64.wrap (n1 - 1))] [cB b5], .b (!b5) false, .b (decide ((↑l3.length : Int) > 2)) false, .b (n0 == 8) false, .b ((↑l3.length : Int) == 2) false, .l [] [93, 92, 91] [] (qaa Tryz.f197 0) (qal l3 0) (.exit 1) qaA]) :
 Rt 197 [.agg (nd n0 n1 n2 l3)] [cB true] :=
 h.of (by kernel_rfl)
theorem qyR (h : Oo [.b (n0 == 2) false, .b (n0 == 3) false, .b (n0 == 4) true, .r 81 [cI n1, cI 0, cI 99] [cB b4], .b (!b4) true]) :
 Rt 197 [.agg (nd n0 n1 n2 l3)] [cB false] :=
 h.of (by kernel_rfl)
theorem qyS (h : Oo [.b (n0 == 2) false, .b (n0 == 3) false, .b (n0 == 4) true, .r 81 [cI n1, cI 0, cI 99] [cB b4], .b (!b4) false, .b (n2 != 0) true]) :
 Rt 197 [.agg (nd n0 n1 n2 l3)] [cB false] :=
 h.of (by kernel_rfl)
theorem qyT (h : Oo [.b (n0 == 2) false, .b (n0 == 3) false, .b (n0 == 4) true, .r 81 [cI n1, cI 0, cI 99] [cB b4], .b (!b4) false, .b (n2 != 0) false, .b (decide ((↑l3.length : Int) > 2)) true]) :
 Rt 197 [.agg (nd n0 n1 n2 l3)] [cB false] :=
 h.of (by kernel_rfl)
theorem qyU (h : Oo [.b (n0 == 2) false, .b (n0 == 3) false, .b (n0 == 4) true, .r 81 [cI n1, cI 0, cI 99] [cB b4], .b (!b4) false, .b (n2 != 0) false, .b (decide ((↑l3.length : Int) > 2)) false, .b (n0 == 8) true, .b (decide ((↑l3.length : Int) > 0)) true]) :
 Rt 197 [.agg (nd n0 n1 n2 l3)] [cB false] :=
 h.of (by kernel_rfl)
theorem qyV (h : Oo [.b (n0 == 2) false, .b (n0 == 3) false, .b (n0 == 4) true, .r 81 [cI n1, cI 0, cI 99] [cB b4], .b (!b4) false, .b (n2 != 0) false, .b (decide ((↑l3.length : Int) > 2)) false, .b (n0 == 8) true, .b (decide ((↑l3.length : Int) > 0)) false, .b ((↑l3.length : Int) == 2) true, .p ((0 : Int) ≤ 0), .p (0 < (↑l3.length : Int)), .e l3 0 [I n5], .p ((0 : Int) ≤ 1), .p (1 < (↑l3.length : Int)), .e l3 1 [I n6], .b (n5 == n6) true]) :
 Rt 197 [.agg (nd n0 n1 n2 l3)] [cB false] :=
 h.of (by kernel_rfl)
theorem qyW (h : Oo [.b (n0 == 2) false, .b (n0 == 3) false, .b (n0 == 4) true, .r 81 [cI n1, cI 0, cI 99] [cB b4], .b (!b4) false, .b (n2 != 0) false, .b (decide ((↑l3.length : Int) > 2)) false, .b (n0 == 8) true, .b (decide ((↑l3.length : Int) > 0)) false, .b ((↑l3.length : Int) == 2) true, .p ((0 : Int) ≤ 0), .p (0 < (↑l3.length : Int)), .e l3 0 [I n5], .p ((0 : Int) ≤ 1), .p (1 < (↑l3.length : Int)), .e l3 1 [I n6], .b (n5 == n6) false, .l [] [93, 92, 91] [] (qaa Tryz.f197 0) (qal l3 0) .ret (qaw b7)]) :
 Rt 197 [.agg (nd n0 n1 n2 l3)] [cB b7] :=
 h.of (by kernel_rfl)
theorem qyX (h : Oo [.b (n0 == 2) false, .b (n0 == 3) false, .b (n0 == 4) true, .r 81 [cI n1, cI 0, cI 99] [cB b4], .b (!b4) false, .b (n2 != 0) false, .b (decide ((↑l3.length : Int) > 2)) false, .b (n0 == 8) true, .b (decide ((↑l3.length : Int) > 0)) false, .b ((↑l3.length : Int) == 2) true, .p ((0 : Int) ≤ 0), .p (0 < (↑l3.length : Int)), .e l3 0 [I n5], .p ((0 : Int) ≤ 1), .p (1 < (↑l3.length : Int)), .e l3 1 [I n6], .b (n5 == n6) false, .l [] [93, 92, 91] [] (qaa Tryz.f197 0) (qal l3 0) (.exit 1) qaA]) :
 Rt 197 [.agg (nd n0 n1 n2 l3)] [cB true] :=
 h.of (by kernel_rfl)
theorem qyY (h : Oo [.b (n0 == 2) false, .b (n0 == 3) false, .b (n0 == 4) true, .r 81 [cI n1, cI 0, cI 99] [cB b4], .b (!b4) false, .b (n2 != 0) false, .b (decide ((↑l3.length : Int) > 2)) false, .b (n0 == 8) true, .b (decide ((↑l3.length : Int) > 0)) false, .b ((↑l3.length : Int) == 2) false, .l [] [93, 92, 91] [] (qaa Tryz.f197 0) (qal l3 0) .ret (qaw b5)]) :
 Rt 197 [.agg (nd n0 n1 n2 l3)] [cB b5] :=
 h.of (by kernel_rfl)
theorem qyZ (h : Oo [.b (n0 == 2) false, .b (n0 == 3) false, .b (n0 == 4) true, .r 81 [cI n1, cI 0, cI 99] [cB b4], .b (!b4) false, .b (n2 != 0) false, .b (decide ((↑l3.length : Int) > 2)) false, .b (n0 == 8) true, .b (decide ((↑l3.length : Int) > 0)) false, .b ((↑l3.length : Int) == 2) false, .l [] [93, 92, 91] [] (qaa Tryz.f197 0) (qal l3 0) (.exit 1) qaA]) :
 Rt 197 [.agg (nd n0 n1 n2 l3)] [cB true] :=
 h.of (by kernel_rfl)
theorem qy0 (h : Oo [.b (n0 == 2) false, .b (n0 == 3) false, .b (n0 == 4) true, .r 81 [cI n1, cI 0, cI 99] [cB b4], .b (!b4) false, .b (n2 != 0) false, .b (decide ((↑l3.length : Int) > 2)) false, .b (n0 == 8) false, .b ((↑l3.length : Int) == 2) true, .p ((0 : Int) ≤ 0), .p (0 < (↑l3.length : Int)), .e l3 0 [I n5], .p ((0 : Int) ≤ 1), .p (1 < (↑l3.length : Int)), .e l3 1 [I n6], .b (n5 == n6) true]) :
 Rt 197 [.agg (nd n0 n1 n2 l3)] [cB false] :=
 h.of (by kernel_rfl)
theorem qy1 (h : Oo [.b (n0 == 2) false, .b (n0 == 3) false, .b (n0 == 4) true, .r 81 [cI n1, cI 0, cI 99] [cB b4], .b (!b4) false, .b (n2 != 0) false, .b (decide ((↑l3.length : Int) > 2)) false, .b (n0 == 8) false, .b ((↑l3.length : Int) == 2) true, .p ((0 : Int) ≤ 0), .p (0 < (↑l3.length : Int)), .e l3 0 [I n5], .p ((0 : Int) ≤ 1), .p (1 < (↑l3.length : Int)), .e l3 1 [I n6], .b (n5 == n6) false, .l [] [93, 92, 91] [] (qaa Tryz.f197 0) (qal l3 0) .ret (qaw b7)]) :
 Rt 197 [.agg (nd n0 n1 n2 l3)] [cB b7] :=
 h.of (by kernel_rfl)
theorem qy2 (h : Oo [.b (n0 == 2) false, .b (n0 == 3) false, .b (n0 == 4) true, .r 81 [cI n1, cI 0, cI 99] [cB b4], .b (!b4) false, .b (n2 != 0) false, .b (decide ((↑l3.length : Int) > 2)) false, .b (n0 == 8) false, .b ((↑l3.length : Int) == 2) true, .p ((0 : Int) ≤ 0), .p (0 < (↑l3.length : Int)), .e l3 0 [I n5], .p ((0 : Int) ≤ 1), .p (1 < (↑l3.length : Int)), .e l3 1 [I n6], .b (n5 == n6) false, .l [] [93, 92, 91] [] (qaa Tryz.f197 0) (qal l3 0) (.exit 1) qaA]) :
 Rt 197 [.agg (nd n0 n1 n2 l3)] [cB true] :=
 h.of (by kernel_rfl)
theorem qy3 (h : Oo [.b (n0 == 2) false, .b (n0 == 3) false, .b (n0 == 4) true, .r 81 [cI n1, cI 0, cI 99] [cB b4], .b (!b4) false, .b (n2 != 0) false, .b (decide ((↑l3.length : Int) > 2)) false, .b (n0 == 8) false, .b ((↑l3.length : Int) == 2) false, .l [] [93, 92, 91] [] (qaa Tryz.f197 0) (qal l3 0) .ret (qaw b5)]) :
 Rt 197 [.agg (nd n0 n1 n2 l3)] [cB b5] :=
 h.of (by kernel_rfl)
theorem qy4 (h : Oo [.b (n0 == 2) false, .b (n0 == 3) false, .b (n0 == 4) true, .r 81 [cI n1, cI 0, cI 99] [cB b4], .b (!b4) false, .b (n2 != 0) false, .b (decide ((↑l3.length : Int) > 2)) false, .b (n0 == 8) false, .b ((↑l3.length : Int) == 2) false, .l [] [93, 92, 91] [] (qaa Tryz.f197 0) (qal l3 0) (.exit 1) qaA]) :
 Rt 197 [.agg (nd n0 n1 n2 l3)] [cB true] :=
 h.of (by kernel_rfl)
theorem qy5 (h : Oo [.b (n0 == 2) false, .b (n0 == 3) false, .b (n0 == 4) false, .b (n0 == 1) true, .b (n0 == 1) true, .b (n1 != 0) true]) :
 Rt 197 [.agg (nd n0 n1 n2 l3)] [cB false] :=
 h.of (by kernel_rfl)
theorem qy6 (h : Oo [.b (n0 == 2) false, .b (n0 == 3) false, .b (n0 == 4) false, .b (n0 == 1) true, .b (n0 == 1) true, .b (n1 != 0) false, .b (n2 != 0) true]) :
 Rt 197 [.agg (nd n0 n1 n2 l3)] [cB false] :=
 h.of (by kernel_rfl)
theorem qy7 (h : Oo [.b (n0 == 2) false, .b (n0 == 3) false, .b (n0 == 4) false, .b (n0 == 1) true, .b (n0 == 1) true, .b (n1 != 0) false, .b (n2 != 0) false, .b (decide ((↑l3.length : Int) > 2)) true]) :
 Rt 197 [.agg (nd n0 n1 n2 l3)] [cB false] :=
 h.of (by kernel_rfl)
theorem qy8 (h : Oo [.b (n0 == 2) false, .b (n0 == 3) false, .b (n0 == 4) false, .b (n0 == 1) true, .b (n0 == 1) true, .b (n1 != 0) false, .b (n2 != 0) false, .b (decide ((↑l3.length : Int) > 2)) false, .b (n0 == 8) true, .b (decide ((↑l3.length : Int) > 0)) true]) :
 Rt 197 [.agg (nd n0 n1 n2 l3)] [cB false] :=
 h.of (by kernel_rfl)
theorem qy9 (h : Oo [.b (n0 == 2) false, .b (n0 == 3) false, .b (n0 == 4) false, .b (n0 == 1) true, .b (n0 == 1) true, .b (n1 != 0) false, .b (n2 != 0) false, .b (decide ((↑l3.length : Int) > 2)) false, .b (n0 == 8) true, .b (decide ((↑l3.length : Int) > 0)) false, .b ((↑l3.length : Int) == 2) true, .p ((0 : Int) ≤ 0), .p (0 < (↑l3.length : Int)), .e l3 0 [I n4], .p ((0 : Int) ≤ 1), .p (1 < (↑l3.length : Int)), .e l3 1 [I n5], .b (n4 == n5) true]) :
 Rt 197 [.agg (nd n0 n1 n2 l3)] [cB false] :=
 h.of (by kernel_rfl)
theorem qza (h : Oo [.b (n0 == 2) false, .b (n0 == 3) false, .b (n0 == 4) false, .b (n0 == 1) true, .b (n0 == 1) true, .b (n1 != 0) false, .b (n2 != 0) false, .b (decide ((↑l3.length : Int) > 2)) false, .b (n0 == 8) true, .b (decide ((↑l3.length : Int) > 0)) false, .b ((↑l3.length : Int) == 2) true, .p ((0 : Int) ≤ 0), .p (0 < (↑l3.length : Int)), .e l3 0 [I n4], .p ((0 : Int) ≤ 1), .p (1 < (↑l3.length : Int)), .e l3 1 [I n5], .b (n4 == n5) false, .l [] [93, 92, 91] [] (qaa Tryz.f197 0) (qal l3 0) .ret (qaw b6)]) :
 Rt 197 [.agg (nd n0 n1 n2 l3)] [cB b6] :=
 h.of (by kernel_rfl)
theorem qzb (h : Oo [.b (n0 == 2) false, .b (n0 == 3) false, .b (n0 == 4) false, .b (n0 == 1) true, .b (n0 == 1) true, .b (n1 != 0) false, .b (n2 != 0) false, .b (decide ((↑l3.length : Int) > 2)) false, .b (n0 == 8) true, .b (decide ((↑l3.length : Int) > 0)) false, .b ((↑l3.length : Int) == 2) true, .p ((0 : Int) ≤ 0), .p (0 < (↑l3.length : Int)), .e l3 0 [I n4], .p ((0 : Int) ≤ 1), .p (1 < (↑l3.length : Int)), .e l3 1 [I n5], .b (n4 == n5) false, .l [] [93, 92, 91] [] (qaa Tryz.f197 0) (qal l3 0) (.exit 1) qaA]) :
 Rt 197 [.agg (nd n0 n1 n2 l3)] [cB true] :=
 h.of (by kernel_rfl)
theorem qzc (h : Oo [.b (n0 == 2) false, .b (n0 == 3) false, .b (n0 == 4) false, .b (n0 == 1) true, .b (n0 == 1) true, .b (n1 != 0) false, .b (n2 != 0) false, .b (decide ((↑l3.length : Int) > 2)) false, .b (n0 == 8) true, .b (decide ((↑l3.length : Int) > 0)) false, .b ((↑l3.length : Int) == 2) false, .l [] [93, 92, 91] [] (qaa Tryz.f197 0) (qal l3 0) .ret (qaw b4)]) :
 Rt 197 [.agg (nd n0 n1 n2 l3)] [cB b4] :=
 h.of (by kernel_rfl)
theorem qzd (h : Oo [.b (n0 == 2) false, .b (n0 == 3) false, .b (n0 == 4) false, .b (n0 == 1) true, .b (n0 == 1) true, .b (n1 != 0) false, .b (n2 != 0) false, .b (decide ((↑l3.length : Int) > 2)) false, .b (n0 == 8) true, .b (decide ((↑l3.length : Int) > 0)) false, .b ((↑l3.length : Int) == 2) false, .l [] [93, 92, 91] [] (qaa Tryz.f197 0) (qal l3 0) (.exit 1) qaA]) :
 Rt 197 [.agg (nd n0 n1 n2 l3)] [cB true] :=
 h.of (by kernel_rfl)
theorem qze (h : Oo [.b (n0 == 2) false, .b (n0 == 3) false, .b (n0 == 4) false, .b (n0 == 1) true, .b (n0 == 1) true, .b (n1 != 0) false, .b (n2 != 0) false, .b (decide ((↑l3.length : Int) > 2)) false, .b (n0 == 8) false, .b ((↑l3.length : Int) == 2) true, .p ((0 : Int) ≤ 0), .p (0 < (↑l3.length : Int)), .e l3 0 [I n4], .p ((0 : Int) ≤ 1), .p (1 < (↑l3.length : Int)), .e l3 1 [I n5], .b (n4 == n5) true]) :
 Rt 197 [.agg (nd n0 n1 n2 l3)] [cB false] :=
 h.of (by kernel_rfl)
theorem qzf (h : Oo [.b (n0 == 2) false, .b (n0 == 3) false, .b (n0 == 4) false, .b (n0 == 1) true, .b (n0 == 1) true, .b (n1 != 0) false, .b (n2 != 0) false, .b (decide ((↑l3.length : Int) > 2)) false, .b (n0 == 8) false, .b ((↑l3.length : Int) == 2) true, .p ((0 : Int) ≤ 0), .p (0 < (↑l3.length : Int)), .e l3 0 [I n4], .p ((0 : Int) ≤ 1), .p (1 < (↑l3.length : Int)), .e l3 1 [I n5], .b (n4 == n5) false, .l [] [93, 92, 91] [] (qaa Tryz.f197 0) (qal l3 0) .ret (qaw b6)]) :
 Rt 197 [.agg (nd n0 n1 n2 l3)] [cB b6] :=
 h.of (by kernel_rfl)
theorem qzg (h : Oo [.b (n0 == 2) false, .b (n0 == 3) false, .b (n0 == 4) false, .b (n0 == 1) true, .b (n0 == 1) true, .b (n1 != 0) false, .b (n2 != 0) false, .b (decide ((↑l3.length : Int) > 2)) false, .b (n0 == 8) false, .b ((↑l3.length : Int) == 2) true, .p ((0 : Int) ≤ 0), .p (0 < (↑l3.length : Int)), .e l3 0 [I n4], .p ((0 : Int) ≤ 1), .p (1 < (↑l3.length : Int)), .e l3 1 [I n5], .b (n4 == n5) false, .l [] [93, 92, 91] [] (qaa Tryz.f197 0) (qal l3 0) (.exit 1) qaA]) :
 Rt 197 [.agg (nd n0 n1 n2 l3)] [cB true] :=
 h.of (by kernel_rfl)
theorem qzh (h : Oo [.b (n0 == 2) false, .b (n0 == 3) false, .b (n0 == 4) false, .b (n0 == 1) true, .b (n0 == 1) true, .b (n1 != 0) false, .b (n2 != 0) false, .b (decide ((↑l3.length : Int) > 2)) false, .b (n0 == 8) false, .b ((↑l3.length : Int) == 2) false, .l [] [93, 92, 91] [] (qaa Tryz.f197 0) (qal l3 0) .ret (qaw b4)]) :
 Rt 197 [.agg (nd n0 n1 n2 l3)] [cB b4] :=
 h.of (by kernel_rfl)
theorem qzi (h : Oo [.b (n0 == 2) false, .b (n0 == 3) false, .b (n0 == 4) false, .b (n0 == 1) true, .b (n0 == 1) true, .b (n1 != 0) false, .b (n2 != 0) false, .b (decide ((↑l3.length : Int) > 2)) false, .b (n0 == 8) false, .b ((↑l3.length : Int) == 2) false, .l [] [93, 92, 91] [] (qaa Tryz.f197 0) (qal l3 0) (.exit 1) qaA]) :
 Rt 197 [.agg (nd n0 n1 n2 l3)] [cB true] :=
 h.of (by kernel_rfl)
theorem qzj (h : Oo [.b (n0 == 2) false, .b (n0 == 3) false, .b (n0 == 4) false, .b (n0 == 1) false, .b (n0 == 5) true, .b (n0 == 5) true, .b (n1 != 0) true]) :
 Rt 197 [.agg (nd n0 n1 n2 l3)] [cB false] :=
 h.of (by kernel_rfl)
theorem qzk (h : Oo [.b (n0 == 2) false, .b (n0 == 3) false, .b (n0 == 4) false, .b (n0 == 1) false, .b (n0 == 5) true, .b (n0 == 5) true, .b (n1 != 0) false, .b (n2 != 0) true]) :
 Rt 197 [.agg (nd n0 n1 n2 l3)] [cB false] :=
 h.of (by kernel_rfl)
theorem qzl (h : Oo [.b (n0 == 2) false, .b (n0 == 3) false, .b (n0 == 4) false, .b (n0 == 1) false, .b (n0 == 5) true, .b (n0 == 5) true, .b (n1 != 0) false, .b (n2 != 0) false, .b (decide ((↑l3.length : Int) > 2)) true]) :
 Rt 197 [.agg (nd n0 n1 n2 l3)] [cB false] :=
 h.of (by kernel_rfl)
theorem qzm (h : Oo [.b (n0 == 2) false, .b (n0 == 3) false, .b (n0 == 4) false, .b (n0 == 1) false, .b (n0 == 5) true, .b (n0 == 5) true, .b (n1 != 0) false, .b (n2 != 0) false, .b (decide ((↑l3.length : Int) > 2)) false, .b (n0 == 8) true, .b (decide ((↑l3.length : Int) > 0)) true]) :
 Rt 197 [.agg (nd n0 n1 n2 l3)] [cB false] :=
 h.of (by kernel_rfl)
theorem qzn (h : Oo [.b (n0 == 2) false, .b (n0 == 3) false, .b (n0 == 4) false, .b (n0 == 1) false, .b (n0 == 5) true, .b (n0 == 5) true, .b (n1 != 0) false, .b (n2 != 0) false, .b (decide ((↑l3.length : Int) > 2)) false, .b (n0 == 8) true, .b (decide ((↑l3.length : Int) > 0)) false, .b ((↑l3.length : Int) == 2) true, .p ((0 : Int) ≤ 0), .p (0 < (↑l3.length : Int)), .e l3 0 [I n4], .p ((0 : Int) ≤ 1), .p (1 < (↑l3.length : Int)), .e l3 1 [I n5], .b (n4 == n5) true]) :
 Rt 197 [.agg (nd n0 n1 n2 l3)] [cB false] :=
 h.of (by kernel_rfl)
theorem qzo (h : Oo [.b (n0 == 2) false, .b (n0 == 3) false, .b (n0 == 4) false, .b (n0 == 1) false, .b (n0 == 5) true, .b (n0 == 5) true, .b (n1 != 0) false, .b (n2 != 0) false, .b (decide ((↑l3.length : Int) > 2)) false, .b (n0 == 8) true, .b (decide ((↑l3.length : Int) > 0)) false, .b ((↑l3.length : Int) == 2) true, .p ((0 : Int) ≤ 0), .p (0 < (↑l3.length : Int)), .e l3 0 [I n4], .p ((0 : Int) ≤ 1), .p (1 < (↑l3.length : Int)), .e l3 1 [I n5], .b (n4 == n5) false, .l [] [93, 92, 91] [] (qaa Tryz.f197 0) (qal l3 0) .ret (qaw b6)]) :
 Rt 197 [.agg (nd n0 n1 n2 l3)] [cB b6] :=
 h.of (by kernel_rfl)
theorem qzp (h : Oo [.b (n0 == 2) false, .b (n0 == 3) false, .b (n0 == 4) false, .b (n0 == 1) false, .b (n0 == 5) true, .b (n0 == 5) true, .b (n1 != 0) false, .b (n2 != 0) false, .b (decide ((↑l3.length : Int) > 2)) false, .b (n0 == 8) true, .b (decide ((↑l3.length : Int) > 0)) false, .b ((↑l3.length : Int) == 2) true, .p ((0 : Int) ≤ 0), .p (0 < (↑l3.length : Int)), .e l3 0 [I n4], .p ((0 : Int) ≤ 1), .p (1 < (↑l3.length : Int)), .e l3 1 [I n5], .b (n4 == n5) false, .l [] [93, 92, 91] [] (qaa Tryz.f197 0) (qal l3 0) (.exit 1) qaA]) :
 Rt 197 [.agg (nd n0 n1 n2 l3)] [cB true] :=
 h.of (by kernel_rfl)
theorem qzq (h : Oo [.b (n0 == 2) false, .b (n0 == 3) false, .b (n0 == 4) false, .b (n0 == 1) false, .b (n0 == 5) true, .b (n0 == 5) true, .b (n1 != 0) false, .b (n2 != 0) false, .b (decide ((↑l3.length : Int) > 2)) false, .b (n0 == 8) true, .b (decide ((↑l3.length : Int) > 0)) false, .b ((↑l3.length : Int) == 2) false, .l [] [93, 92, 91] [] (qaa Tryz.f197 0) (qal l3 0) .ret (qaw b4)]) :
 Rt 197 [.agg (nd n0 n1 n2 l3)] [cB b4] :=
 h.of (by kernel_rfl)
theorem qzr (h : Oo [.b (n0 == 2) false, .b (n0 == 3) false, .b (n0 == 4) false, .b (n0 == 1) false, .b (n0 == 5) true, .b (n0 == 5) true, .b (n1 != 0) false, .b (n2 != 0) false, .b (decide ((↑l3.length : Int) > 2)) false, .b (n0 == 8) true, .b (decide ((↑l3.length : Int) > 0)) false, .b ((↑l3.length : Int) == 2) false, .l [] [93, 92, 91] [] (qaa Tryz.f197 0) (qal l3 0) (.exit 1) qaA]) :
 Rt 197 [.agg (nd n0 n1 n2 l3)] [cB true] :=
 h.of (by kernel_rfl)
theorem qzs (h : Oo [.b (n0 == 2) false, .b (n0 == 3) false, .b (n0 == 4) false, .b (n0 == 1) false, .b (n0 == 5) true, .b (n0 == 5) true, .b (n1 != 0) false, .b (n2 != 0) false, .b (decide ((↑l3.length : Int) > 2)) false, .b (n0 == 8) false, .b ((↑l3.length : Int) == 2) true, .p ((0 : Int) ≤ 0), .p (0 < (↑l3.length : Int)), .e l3 0 [I n4], .p ((0 : Int) ≤ 1), .p (1 < (↑l3.length : Int)), .e l3 1 [I n5], .b (n4 == n5) true]) :
 Rt 197 [.agg (nd n0 n1 n2 l3)] [cB false] :=
 h.of (by kernel_rfl)
theorem qzt (h : Oo [.b (n0 == 2) false, .b (n0 == 3) false, .b (n0 == 4) false, .b (n0 == 1) false, .b (n0 == 5) true, .b (n0 == 5) true, .b (n1 != 0) false, .b (n2 != 0) false, .b (decide ((↑l3.length : Int) > 2)) false, .b (n0 == 8) false, .b ((↑l3.length : Int) == 2) true, .p ((0 : Int) ≤ 0), .p (0 < (↑l3.length : Int)), .e l3 0 [I n4], .p ((0 : Int) ≤ 1), .p (1 < (↑l3.length : Int)), .e l3 1 [I n5], .b (n4 == n5) false, .l [] [93, 92, 91] [] (qaa Tryz.f197 0) (qal l3 0) .ret (qaw b6)]) :
 Rt 197 [.agg (nd n0 n1 n2 l3)] [cB b6] :=
 h.of (by kernel_rfl)
theorem qzu (h : Oo [.b (n0 == 2) false, .b (n0 == 3) false, .b (n0 == 4) false, .b (n0 == 1) false, .b (n0 == 5) true, .b (n0 == 5) true, .b (n1 != 0) false, .b (n2 != 0) false, .b (decide ((↑l3.length : Int) > 2)) false, .b (n0 == 8) false, .b ((↑l3.length : Int) == 2) true, .p ((0 : Int) ≤ 0), .p (0 < (↑l3.length : Int)), .e l3 0 [I n4], .p ((0 : Int) ≤ 1), .p (1 < (↑l3.length : Int)), .e l3 1 [I n5], .b (n4 == n5) false, .l [] [93, 92, 91] [] (qaa Tryz.f197 0) (qal l3 0) (.exit 1) qaA]) :
 Rt 197 [.agg (nd n0 n1 n2 l3)] [cB true] :=
 h.of (by kernel_rfl)
theorem qzv (h : Oo [.b (n0 == 2) false, .b (n0 == 3) false, .b (n0 == 4) false, .b (n0 == 1) false, .b (n0 == 5) true, .b (n0 == 5) true, .b (n1 != 0) false, .b (n2 != 0) false, .b (decide ((↑l3.length : Int) > 2)) false, .b (n0 == 8) false, .b ((↑l3.length : Int) == 2) false, .l [] [93, 92, 91] [] (qaa Tryz.f197 0) (qal l3 0) .ret (qaw b4)]) :
 Rt 197 [.agg (nd n0 n1 n2 l3)] [cB b4] :=
 h.of (by kernel_rfl)
theorem qzw (h : Oo [.b (n0 == 2) false, .b (n0 == 3) false, .b (n0 == 4) false, .b (n0 == 1) false, .b (n0 == 5) true, .b (n0 == 5) true, .b (n1 != 0) false, .b (n2 != 0) false, .b (decide ((↑l3.length : Int) > 2)) false, .b (n0 == 8) false, .b ((↑l3.length : Int) == 2) false, .l [] [93, 92, 91] [] (qaa Tryz.f197 0) (qal l3 0) (.exit 1) qaA]) :
 Rt 197 [.agg (nd n0 n1 n2 l3)] [cB true] :=
 h.of (by kernel_rfl)
theorem qzx (h : Oo [.b (n0 == 2) false, .b (n0 == 3) false, .b (n0 == 4) false, .b (n0 == 1) false, .b (n0 == 5) false, .b (n0 == 6) true, .b (n0 == 6) true, .b (n1 != 0) true]) :
 Rt 197 [.agg (nd n0 n1 n2 l3)] [cB false] :=
 h.of (by kernel_rfl)
theorem qzy (h : Oo [.b (n0 == 2) false, .b (n0 == 3) false, .b (n0 == 4) false, .b (n0 == 1) false, .b (n0 == 5) false, .b (n0 == 6) true, .b (n0 == 6) true, .b (n1 != 0) false, .b (n2 != 0) true]) :
 Rt 197 [.agg (nd n0 n1 n2 l3)] [cB false] :=
 h.of (by kernel_rfl)
theorem qzz (h : Oo [.b (n0 == 2) false, .b (n0 == 3) false, .b (n0 == 4) false, .b (n0 == 1) false, .b (n0 == 5) false, .b (n0 == 6) true, .b (n0 == 6) true, .b (n1 != 0) false, .b (n2 != 0) false, .b (decide ((↑l3.length : Int) > 2)) true]) :
 Rt 197 [.agg (nd n0 n1 n2 l3)] [cB false] :=
 h.of (by kernel_rfl)
theorem qzA (h : Oo [.b (n0 == 2) false, .b (n0 == 3) false, .b (n0 == 4) false, .b (n0 == 1) false, .b (n0 == 5) false, .b (n0 == 6) true, .b (n0 == 6) true, .b (n1 != 0) false, .b (n2 != 0) false, .b (decide ((↑l3.length : Int) > 2)) false, .b (n0 == 8) true, .b (decide ((↑l3.length : Int) > 0)) true]) :
 Rt 197 [.agg (nd n0 n1 n2 l3)] [cB false] :=
 h.of (by kernel_rfl)
theorem qzB (h : Oo [.b (n0 == 2) false, .b (n0 == 3) false, .b (n0 == 4) false, .b (n0 == 1) false, .b (n0 == 5) false, .b (n0 == 6) true, .b (n0 == 6) true, .b (n1 != 0) false, .b (n2 != 0) false, .b (decide ((↑l3.length : Int) > 2)) false, .b (n0 == 8) true, .b (decide ((↑l3.length : Int) > 0)) false, .b ((↑l3.length : Int) == 2) true, .p ((0 : Int) ≤ 0), .p (0 < (↑l3.length : Int)), .e l3 0 [I n4], .p ((0 : Int) ≤ 1), .p (1 < (↑l3.length : Int)), .e l3 1 [I n5], .b (n4 == n5) true]) :
 Rt 197 [.agg (nd n0 n1 n2 l3)] [cB false] :=
 h.of (by kernel_rfl)
theorem qzC (h : Oo [.b (n0 == 2) false, .b (n0 == 3) false, .b (n0 == 4) false, .b (n0 == 1) false, .b (n0 == 5) false, .b (n0 == 6) true, .b (n0 == 6) true, .b (n1 != 0) false, .b (n2 != 0) false, .b (decide ((↑l3.length : Int) > 2)) false, .b (n0 == 8) true, .b (decide ((↑l3.length : Int) > 0)) false, .b ((↑l3.length : Int) == 2) true, .p ((0 : Int) ≤ 0), .p (0 < (↑l3.length : Int)), .e l3 0 [I n4], .p ((0 : Int) ≤ 1), .p (1 < (↑l3.length : Int)), .e l3 1 [I n5], .b (n4 == n5) false, .l [] [93, 92, 91] [] (qaa Tryz.f197 0) (qal l3 0) .ret (qaw b6)]) :
 Rt 197 [.agg (nd n0 n1 n2 l3)] [cB b6] :=
 h.of (by kernel_rfl)
theorem qzD (h : Oo [.b (n0 == 2) false, .b (n0 == 3) false, .b (n0 == 4) false, .b (n0 == 1) false, .b (n0 == 5) false, .b (n0 == 6) true, .b (n0 == 6) true, .b (n1 != 0) false, .b (n2 != 0) false, .b (decide ((↑l3.length : Int) > 2)) false, .b (n0 == 8) true, .b (decide ((↑l3.length : Int) > 0)) false, .b ((↑l3.length : Int) == 2) true, .p ((0 : Int) ≤ 0), .p (0 < (↑l3.length : Int)), .e l3 0 [I n4], .p ((0 : Int) ≤ 1), .p (1 < (↑l3.length : Int)), .e l3 1 [I n5], .b (n4 == n5) false, .l [] [93, 92, 91] [] (qaa Tryz.f197 0) (qal l3 0) (.exit 1) qaA]) :
 Rt 197 [.agg (nd n0 n1 n2 l3)] [cB true] :=
 h.of (by kernel_rfl)
theorem qzE (h : Oo [.b (n0 == 2) false, .b (n0 == 3) false, .b (n0 == 4) false, .b (n0 == 1) false, .b (n0 == 5) false, .b (n0 == 6) true, .b (n0 == 6) true, .b (n1 != 0) false, .b (n2 != 0) false, .b (decide ((↑l3.length : Int) > 2)) false, .b (n0 == 8) true, .b (decide ((↑l3.length : Int) > 0)) false, .b ((↑l3.length : Int) == 2) false, .l [] [93, 92, 91] [] (qaa Tryz.f197 0) (qal l3 0) .ret (qaw b4)]) :
 Rt 197 [.agg (nd n0 n1 n2 l3)] [cB b4] :=
 h.of (by kernel_rfl)
theorem qzF (h : Oo [.b (n0 == 2) false, .b (n0 == 3) false, .b (n0 == 4) false, .b (n0 == 1) false, .b (n0 == 5) false, .b (n0 == 6) true, .b (n0 == 6) true, .b (n1 != 0) false, .b (n2 != 0) false, .b (decide ((↑l3.length : Int) > 2)) false, .b (n0 == 8) true, .b (decide ((↑l3.length : Int) > 0)) false, .b ((↑l3.length : Int) == 2) false, .l [] [93, 92, 91] [] (qaa Tryz.f197 0) (qal l3 0) (.exit 1) qaA]) :
 Rt 197 [.agg (nd n0 n1 n2 l3)] [cB true] :=
 h.of (by kernel_rfl)
theorem qzG (h : Oo [.b (n0 == 2) false, .b (n0 == 3) false, .b (n0 == 4) false, .b (n0 == 1) false, .b (n0 == 5) false, .b (n0 == 6) true, .b (n0 == 6) true, .b (n1 != 0) false, .b (n2 != 0) false, .b (decide ((↑l3.length : Int) > 2)) false, .b (n0 == 8) false, .b ((↑l3.length : Int) == 2) true, .p ((0 : Int) ≤ 0), .p (0 < (↑l3.length : Int)), .e l3 0 [I n4], .p ((0 : Int) ≤ 1), .p (1 < (↑l3.length : Int)), .e l3 1 [I n5], .b (n4 == n5) true]) :
 Rt 197 [.agg (nd n0 n1 n2 l3)] [cB false] :=
 h.of (by kernel_rfl)
theorem qzH (h : Oo [.b (n0 == 2) false, .b (n0 == 3) false, .b (n0 == 4) false, .b (n0 == 1) false, .b (n0 == 5) false, .b (n0 == 6) true, .b (n0 == 6) true, .b (n1 != 0) false, .b (n2 != 0) false, .b (decide ((↑l3.length : Int) > 2)) false, .b (n0 == 8) false, .b ((↑l3.length : Int) == 2) true, .p ((0 : Int) ≤ 0), .p (0 < (↑l3.length : Int)), .e l3 0 [I n4], .p ((0 : Int) ≤ 1), .p (1 < (↑l3.length : Int)), .e l3 1 [I n5], .b (n4 == n5) false, .l [] [93, 92, 91] [] (qaa Tryz.f197 0) (qal l3 0) .ret (qaw b6)]) :
 Rt 197 [.agg (nd n0 n1 n2 l3)] [cB b6] :=
 h.of (by kernel_rfl)
theorem qzI (h : Oo [.b (n0 == 2) false, .b (n0 == 3) false, .b (n0 == 4) false, .b (n0 == 1) false, .b (n0 == 5) false, .b (n0 == 6) true, .b (n0 == 6) true, .b (n1 != 0) false, .b (n2 != 0) false, .b (decide ((↑l3.length : Int) > 2)) false, .b (n0 == 8) false, .b ((↑l3.length : Int) == 2) true, .p ((0 : Int) ≤ 0), .p (0 < (↑l3.length : Int)), .e l3 0 [I n4], .p ((0 : Int) ≤ 1), .p (1 < (↑l3.length : Int)), .e l3 1 [I n5], .b (n4 == n5) false, .l [] [93, 92, 91] [] (qaa Tryz.f197 0) (qal l3 0) (.exit 1) qaA]) :
 Rt 197 [.agg (nd n0 n1 n2 l3)] [cB true] :=
 h.of (by kernel_rfl)
theorem qzJ (h : Oo [.b (n0 == 2) false, .b (n0 == 3) false, .b (n0 == 4) false, .b (n0 == 1) false, .b (n0 == 5) false, .b (n0 == 6) true, .b (n0 == 6) true, .b (n1 != 0) false, .b (n2 != 0) false, .b (decide ((↑l3.length : Int) > 2)) false, .b (n0 == 8) false, .b ((↑l3.length : Int) == 2) false, .l [] [93, 92, 91] [] (qaa Tryz.f197 0) (qal l3 0) .ret (qaw b4)]) :
 Rt 197 [.agg (nd n0 n1 n2 l3)] [cB b4] :=
 h.of (by kernel_rfl)
theorem qzK (h : Oo [.b (n0 == 2) false, .b (n0 == 3) false, .b (n0 == 4) false, .b (n0 == 1) false, .b (n0 == 5) false, .b (n0 == 6) true, .b (n0 == 6) true, .b (n1 != 0) false, .b (n2 != 0) false, .b (decide ((↑l3.length : Int) > 2)) false, .b (n0 == 8) false, .b ((↑l3.length : Int) == 2) false, .l [] [93, 92, 91] [] (qaa Tryz.f197 0) (qal l3 0) (.exit 1) qaA]) :
 Rt 197 [.agg (nd n0 n1 n2 l3)] [cB true] :=
 h.of (by kernel_rfl)
theorem qzL (h : Oo [.b (n0 == 2) false, .b (n0 == 3) false, .b (n0 == 4) false, .b (n0 == 1) false, .b (n0 == 5) false, .b (n0 == 6) false, .b (n0 == 7) true, .b (n0 == 7) true, .b (n1 != 0) true]) :
 Rt 197 [.agg (nd n0 n1 n2 l3)] [cB false] :=
 h.of (by kernel_rfl)
theorem qzM (h : Oo [.b (n0 == 2) false, .b (n0 == 3) false, .b (n0 == 4) false, .b (n0 == 1) false, .b (n0 == 5) false, .b (n0 == 6) false, .b (n0 == 7) true, .b (n0 == 7) true, .b (n1 != 0) false, .b (n2 != 0) true]) :
 Rt 197 [.agg (nd n0 n1 n2 l3)] [cB false] :=
 h.of (by kernel_rfl)
theorem qzN (h : Oo [.b (n0 == 2) false, .b (n0 == 3) false, .b (n0 == 4) false, .b (n0 == 1) false, .b (n0 == 5) false, .b (n0 == 6) false, .b (n0 == 7) true, .b (n0 == 7) true, .b (n1 != 0) false, .b (n2 != 0) false, .b (decide ((↑l3.length : Int) > 2)) true]) :
 Rt 197 [.agg (nd n0 n1 n2 l3)] [cB false] :=
 h.of (by kernel_rfl)
theorem qzO (h : Oo [.b (n0 == 2) false, .b (n0 == 3) false, .b (n0 == 4) false, .b (n0 == 1) false, .b (n0 == 5) false, .b (n0 == 6) false, .b (n0 == 7) true, .b (n0 == 7) true, .b (n1 != 0) false, .b (n2 != 0) false, .b (decide ((↑l3.length : Int) > 2)) false, .b (n0 == 8) true, .b (decide ((↑l3.length : Int) > 0)) true]) :
 Rt 197 [.agg (nd n0 n1 n2 l3)] [cB false] :=
 h.of (by kernel_rfl)
theorem qzP (h : Oo [.b (n0 == 2) false, .b (n0 == 3) false, .b (n0 == 4) false, .b (n0 == 1) false, .b (n0 == 5) false, .b (n0 == 6) false, .b (n0 == 7) true, .b (n0 == 7) true, .b (n1 != 0) false, .b (n2 != 0) false, .b (decide ((↑l3.length : Int) > 2)) false, .b (n0 == 8) true, .b (decide ((↑l3.length : Int) > 0)) false, .b ((↑l3.length : Int) == 2) true, .p ((0 : Int) ≤ 0), .p (0 < (↑l3.length : Int)), .e l3 0 [I n4], .p ((0 : Int) ≤ 1), .p (1 < (↑l3.length : Int)), .e l3 1 [I n5], .b (n4 == n5) true]) :
 Rt 197 [.agg (nd n0 n1 n2 l3)] [cB false] :=
 h.of (by kernel_rfl)
theorem qzQ (h : Oo [.b (n0 == 2) false, .b (n0 == 3) false, .b (n0 == 4) false, .b (n0 == 1) false, .b (n0 == 5) false, .b (n0 == 6) false, .b (n0 == 7) true, .b (n0 == 7) true, .b (n1 != 0) false, .b (n2 != 0) false, .b (decide ((↑l3.length : Int) > 2)) false, .b (n0 == 8) true, .b (decide ((↑l3.length : Int) > 0)) false, .b ((↑l3.length : Int) == 2) true, .p ((0 : Int) ≤ 0), .p (0 < (↑l3.length : Int)), .e l3 0 [I n4], .p ((0 : Int) ≤ 1), .p (1 < (↑l3.length : Int)), .e l3 1 [I n5], .b (n4 == n5) false, .l [] [93, 92, 91] [] (qaa Tryz.f197 0) (qal l3 0) .ret (qaw b6)]) :
 Rt 197 [.agg (nd n0 n1 n2 l3)] [cB b6] :=
 h.of (by kernel_rfl)
theorem qzR (h : Oo [.b (n0 == 2) false, .b (n0 == 3) false, .b (n0 == 4) false, .b (n0 == 1) false, .b (n0 == 5) false, .b (n0 == 6) false, .b (n0 == 7) true, .b (n0 == 7) true, .b (n1 != 0) false, .b (n2 != 0) false, .b (decide ((↑l3.length : Int) > 2)) false, .b (n0 == 8) true, .b (decide ((↑l3.length : Int) > 0)) false, .b ((↑l3.length : Int) == 2) true, .p ((0 : Int) ≤ 0), .p (0 < (↑l3.length : Int)), .e l3 0 [I n4], .p ((0 : Int) ≤ 1), .p (1 < (↑l3.length : Int)), .e l3 1 [I n5], .b (n4 == n5) false, .l [] [93, 92, 91] [] (qaa Tryz.f197 0) (qal l3 0) (.exit 1) qaA]) :
 Rt 197 [.agg (nd n0 n1 n2 l3)] [cB true] :=
 h.of (by kernel_rfl)
theorem qzS (h : Oo [.b (n0 == 2) false, .b (n0 == 3) false, .b (n0 == 4) false, .b (n0 == 1) false, .b (n0 == 5) false, .b (n0 == 6) false, .b (n0 == 7) true, .b (n0 == 7) true, .b (n1 != 0) false, .b (n2 != 0) false, .b (decide ((↑l3.length : Int) > 2)) false, .b (n0 == 8) true, .b (decide ((↑l3.length : Int) > 0)) false, .b ((↑l3.length : Int) == 2) false, .l [] [93, 92, 91] [] (qaa Tryz.f197 0) (qal l3 0) .ret (qaw b4)]) :
 Rt 197 [.agg (nd n0 n1 n2 l3)] [cB b4] :=
 h.of (by kernel_rfl)
theorem qzT (h : Oo [.b (n0 == 2) false, .b (n0 == 3) false, .b (n0 == 4) false, .b (n0 == 1) false, .b (n0 == 5) false, .b (n0 == 6) false, .b (n0 == 7) true, .b (n0 == 7) true, .b (n1 != 0) false, .b (n2 != 0) false, .b (decide ((↑l3.length : Int) > 2)) false, .b (n0 == 8) true, .b (decide ((↑l3.length : Int) > 0)) false, .b ((↑l3.length : Int) == 2) false, .l [] [93, 92, 91] [] (qaa Tryz.f197 0) (qal l3 0) (.exit 1) qaA]) :
 Rt 197 [.agg (nd n0 n1 n2 l3)] [cB true] :=
 h.of (by kernel_rfl)
theorem qzU (h : Oo [.b (n0 == 2) false, .b (n0 == 3) false, .b (n0 == 4) false, .b (n0 == 1) false, .b (n0 == 5) false, .b (n0 == 6) false, .b (n0 == 7) true, .b (n0 == 7) true, .b (n1 != 0) false, .b (n2 != 0) false, .b (decide ((↑l3.length : Int) > 2)) false, .b (n0 == 8) false, .b ((↑l3.length : Int) == 2) true, .p ((0 : Int) ≤ 0), .p (0 < (↑l3.length : Int)), .e l3 0 [I n4], .p ((0 : Int) ≤ 1), .p (1 < (↑l3.length : Int)), .e l3 1 [I n5], .b (n4 == n5) true]) :
 Rt 197 [.agg (nd n0 n1 n2 l3)] [cB false] :=
 h.of (by kernel_rfl)
theorem qzV (h : Oo [.b (n0 == 2) false, .b (n0 == 3) false, .b (n0 == 4) false, .b (n0 == 1) false, .b (n0 == 5) false, .b (n0 == 6) false, .b (n0 == 7) true, .b (n0 == 7) true, .b (n1 != 0) false, .b (n2 != 0) false, .b (decide ((↑l3.length : Int) > 2)) false, .b (n0 == 8) false, .b ((↑l3.length : Int) == 2) true, .p ((0 : Int) ≤ 0), .p (0 < (↑l3.length : Int)), .e l3 0 [I n4], .p ((0 : Int) ≤ 1), .p (1 < (↑l3.length : Int)), .e l3 1 [I n5], .b (n4 == n5) false, .l [] [93, 92, 91] [] (qaa Tryz.f197 0) (qal l3 0) .ret (qaw b6)]) :
 Rt 197 [.agg (nd n0 n1 n2 l3)] [cB b6] :=
 h.of (by kernel_rfl)
theorem qzW (h : Oo [.b (n0 == 2) false, .b (n0 == 3) false, .b (n0 == 4) false, .b (n0 == 1) false, .b (n0 == 5) false, .b (n0 == 6) false, .b (n0 == 7) true, .b (n0 == 7) true, .b (n1 != 0) false, .b (n2 != 0) false, .b (decide ((↑l3.length : Int) > 2)) false, .b (n0 == 8) false, .b ((↑l3.length : Int) == 2) true, .p ((0 : Int) ≤ 0), .p (0 < (↑l3.length : Int)), .e l3 0 [I n4], .p ((0 : Int) ≤ 1), .p (1 < (↑l3.length : Int)), .e l3 1 [I n5], .b (n4 == n5) false, .l [] [93, 92, 91] [] (qaa Tryz.f197 0) (qal l3 0) (.exit 1) qaA]) :
 Rt 197 [.agg (nd n0 n1 n2 l3)] [cB true] :=
 h.of (by kernel_rfl)
theorem qzX (h : Oo [.b (n0 == 2) false, .b (n0 == 3) false, .b (n0 == 4) false, .b (n0 == 1) false, .b (n0 == 5) false, .b (n0 == 6) false, .b (n0 == 7) true, .b (n0 == 7) true, .b (n1 != 0) false, .b (n2 != 0) false, .b (decide ((↑l3.length : Int) > 2)) false, .b (n0 == 8) false, .b ((↑l3.length : Int) == 2) false, .l [] [93, 92, 91] [] (qaa Tryz.f197 0) (qal l3 0) .ret (qaw b4)]) :
 Rt 197 [.agg (nd n0 n1 n2 l3)] [cB b4] :=
 h.of (by kernel_rfl)
theorem qzY (h : Oo [.b (n0 == 2) false, .b (n0 == 3) false, .b (n0 == 4) false, .b (n0 == 1) false, .b (n0 == 5) false, .b (n0 == 6) false, .b (n0 == 7) true, .b (n0 == 7) true, .b (n1 != 0) false, .b (n2 != 0) false, .b (decide ((↑l3.length : Int) > 2)) false, .b (n0 == 8) false, .b ((↑l3.length : Int) == 2) false, .l [] [93, 92, 91] [] (qaa Tryz.f197 0) (qal l3 0) (.exit 1) qaA]) :
 Rt 197 [.agg (nd n0 n1 n2 l3)] [cB true] :=
 h.of (by kernel_rfl)
theorem qzZ (h : Oo [.b (n0 == 2) false, .b (n0 == 3) false, .b (n0 == 4) false, .b (n0 == 1) false, .b (n0 == 5) false, .b (n0 == 6) false, .b (n0 == 7) false, .b (n0 == 8) true, .b (n1 != 0) true]) :
 Rt 197 [.agg (nd n0 n1 n2 l3)] [cB false] :=
 h.of (by kernel_rfl)
theorem qz0 (h : Oo [.b (n0 == 2) false, .b (n0 == 3) false, .b (n0 == 4) false, .b (n0 == 1) false, .b (n0 == 5) false, .b (n0 == 6) false, .b (n0 == 7) false, .b (n0 == 8) true, .b (n1 != 0) false, .b (n2 != 0) true]) :
 Rt 197 [.agg (nd n0 n1 n2 l3)] [cB false] :=
 h.of (by kernel_rfl)
theorem qz1 (h : Oo [.b (n0 == 2) false, .b (n0 == 3) false, .b (n0 == 4) false, .b (n0 == 1) false, .b (n0 == 5) false, .b (n0 == 6) false, .b (n0 == 7) false, .b (n0 == 8) true, .b (n1 != 0) false, .b (n2 != 0) false, .b (decide ((↑l3.length : Int) > 2)) true]) :
 Rt 197 [.agg (nd n0 n1 n2 l3)] [cB false] :=
 h.of (by kernel_rfl)
theorem qz2 (h : Oo [.b (n0 == 2) false, .b (n0 == 3) false, .b (n0 == 4) false, .b (n0 == 1) false, .b (n0 == 5) false, .b (n0 == 6) false, .b (n0 == 7) false, .b (n0 == 8) true, .b (n1 != 0) false, .b (n2 != 0) false, .b (decide ((↑l3.length : Int) > 2)) false, .b (n0 == 8) true, .b (decide ((↑l3.length : Int) > 0)) true]) :
 Rt 197 [.agg (nd n0 n1 n2 l3)] [cB false] :=
 h.of (by kernel_rfl)
theorem qz3 (h : Oo [.b (n0 == 2) false, .b (n0 == 3) false, .b (n0 == 4) false, .b (n0 == 1) false, .b (n0 == 5) false, .b (n0 == 6) false, .b (n0 == 7) false, .b (n0 == 8) true, .b (n1 != 0) false, .b (n2 != 0) false, .b (decide ((↑l3.length : Int) > 2)) false, .b (n0 == 8) true, .b (decide ((↑l3.length : Int) > 0)) false, .b ((↑l3.length : Int) == 2) true, .p ((0 : Int) ≤ 0), .p (0 < (↑l3.length : Int)), .e l3 0 [I n4], .p ((0 : Int) ≤ 1), .p (1 < (↑l3.length : Int)), .e l3 1 [I n5], .b (n4 == n5) true]) :
 Rt 197 [.agg (nd n0 n1 n2 l3)] [cB false] :=
 h.of (by kernel_rfl)
theorem qz4 (h : Oo [.b (n0 == 2) false, .b (n0 == 3) false, .b (n0 == 4) false, .b (n0 == 1) false, .b (n0 == 5) false, .b (n0 == 6) false, .b (n0 == 7) false, .b (n0 == 8) true, .b (n1 != 0) false, .b (n2 != 0) false, .b (decide ((↑l3.length : Int) > 2)) false, .b (n0 == 8) true, .b (decide ((↑l3.length : Int) > 0)) false, .b ((↑l3.length : Int) == 2) true, .p ((0 : Int) ≤ 0), .p (0 < (↑l3.length : Int)), .e l3 0 [I n4], .p ((0 : Int) ≤ 1), .p (1 < (↑l3.length : Int)), .e l3 1 [I n5], .b (n4 == n5) false, .l [] [93, 92, 91] [] (qaa Tryz.f197 0) (qal l3 0) .ret (qaw b6)]) :
 Rt 197 [.agg (nd n0 n1 n2 l3)] [cB b6] :=
 h.of (by kernel_rfl)
theorem qz5 (h : Oo [.b (n0 == 2) false, .b (n0 == 3) false, .b (n0 == 4) false, .b (n0 == 1) false, .b (n0 == 5) false, .b (n0 == 6) false, .b (n0 == 7) false, .b (n0 == 8) true, .b (n1 != 0) false, .b (n2 != 0) false, .b (decide ((↑l3.length : Int) > 2)) false, .b (n0 == 8) true, .b (decide ((↑l3.length : Int) > 0)) false, .b ((↑l3.length : Int) == 2) true, .p ((0 : Int) ≤ 0), .p (0 < (↑l3.length : Int)), .e l3 0 [I n4], .p ((0 : Int) ≤ 1), .p (1 < (↑l3.length : Int)), .e l3 1 [I n5], .b (n4 == n5) false, .l [] [93, 92, 91] [] (qaa Tryz.f197 0) (qal l3 0) (.exit 1) qaA]) :
 Rt 197 [.agg (nd n0 n1 n2 l3)] [cB true] :=
 h.of (by kernel_rfl)
theorem qz6 (h : Oo [.b (n0 == 2) false, .b (n0 == 3) false, .b (n0 == 4) false, .b (n0 == 1) false, .b (n0 == 5) false, .b (n0 == 6) false, .b (n0 == 7) false, .b (n0 == 8) true, .b (n1 != 0) false, .b (n2 != 0) false, .b (decide ((↑l3.length : Int) > 2)) false, .b (n0 == 8) true, .b (decide ((↑l3.length : Int) > 0)) false, .b ((↑l3.length : Int) == 2) false, .l [] [93, 92, 91] [] (qaa Tryz.f197 0) (qal l3 0) .ret (qaw b4)]) :
 Rt 197 [.agg (nd n0 n1 n2 l3)] [cB b4] :=
 h.of (by kernel_rfl)
theorem qz7 (h : Oo [.b (n0 == 2) false, .b (n0 == 3) false, .b (n0 == 4) false, .b (n0 == 1) false, .b (n0 == 5) false, .b (n0 == 6) false, .b (n0 == 7) false, .b (n0 == 8) true, .b (n1 != 0) false, .b (n2 != 0) false, .b (decide ((↑l3.length : Int) > 2)) false, .b (n0 == 8) true, .b (decide ((↑l3.length : Int) > 0)) false, .b ((↑l3.length : Int) == 2) false, .l [] [93, 92, 91] [] (qaa Tryz.f197 0) (qal l3 0) (.exit 1) qaA]) :
 Rt 197 [.agg (nd n0 n1 n2 l3)] [cB true] :=
 h.of (by kernel_rfl)
theorem qz8 (h : Oo [.b (n0 == 2) false, .b (n0 == 3) false, .b (n0 == 4) false, .b (n0 == 1) false, .b (n0 == 5) false, .b (n0 == 6) false, .b (n0 == 7) false, .b (n0 == 8) false]) :
 Rt 197 [.agg (nd n0 n1 n2 l3)] [cB false] :=
 h.of (by kernel_rfl)
end Go.Proofs.YtdanpadojemjeaaGreat
