import Derived.Test.YtdanpadojemjeaaGreatRows
import Derived.Test.YtdanpadojemjeaaGreatGE
namespace Go.Proofs.YtdanpadojemjeaaGreat
open Go.Sx Go.RowKit
variable {n0 n1 n2 n4 n5 n6 n7 n8 n9 n10 : Int} {l3 : LL} {b4 b5 b6 b7 b8 b9 : Bool}
theorem qyX (h : Oo [.b (n0 == 2) true, .r 137 [cI n1, cI 0, cI 999] [cB b4], .r 137 [cI n0, cI 1, cI 8] [cB b5], .b (!b5) true]) :
 Rt 220 [.agg (nd n0 n1 n2 l3)] [cB false] :=
 h.of (by kernel_rfl)
theorem qyY (h : Oo [.b (n0 == 2) true, .r 137 [cI n1, cI 0, cI 999] [cB b4], .r 137 [cI n0, cI 1, cI 8] [cB b5], .b (!b5) false, .b (!b4) true]) :
 Rt 220 [.agg (nd n0 n1 n2 l3)] [cB false] :=
 h.of (by kernel_rfl)
theorem qyZ (h : Oo [.b (n0 == 2) true, .r 137 [cI n1, cI 0, cI 999] [cB b4], .r 137 [cI n0, cI 1, cI 8] [cB b5], .b (!b5) false, .b (!b4) false, .b (!n2 == 0) true]) :
 Rt 220 [.agg (nd n0 n1 n2 l3)] [cB false] :=
 h.of (by kernel_rfl)
theorem qy0 (h : Oo [.b (n0 == 2) true, .r 137 [cI n1, cI 0, cI 999] [cB b4], .r 137 [cI n0, cI 1, cI 8] [cB b5], .b (!b5) false, .b (!b4) false, .b (!n2 == 0) false, .b (decide ((↑l3.length : Int) > 2)) true]) :
 Rt 220 [.agg (nd n0 n1 n2 l3)] [cB false] :=
 h.of (by kernel_rfl)
theorem qy1 (h : Oo [.b (n0 == 2) true, .r 137 [cI n1, cI 0, cI 999] [cB b4], .r 137 [cI n0, cI 1, cI 8] [cB b5], .b (!b5) false, .b (!b4) false, .b (!n2 == 0) false, .b (decide ((↑l3.length : Int) > 2)) false, .b (n0 == 8) true, .b (decide ((↑l3.length : Int) > 0)) true]) :
 Rt 220 [.agg (nd n0 n1 n2 l3)] [cB false] :=
 h.of (by kernel_rfl)
def qaJ (n0 n1 n2 : Int) (l3 : LL) (n4 : Int) : St :=
 { env := envOf 93 [(1, vP 1), (5, vI n4)], boxes := [(1, [lI n0, lI n1, lI n2, .sl .free 1 l3])] }
def qb6 (b0 : Bool) : St :=
 { env := envOf 93 [(2, .al (.one (.sb b0)))], boxes := [] }
theorem qi0 (h : Oo [.b (decide (n6 < (↑l3.length : Int))) true, .p (0 ≤ n6), .p (n6 < (↑l3.length : Int)), .e l3 n6.toNat [I n7], .r 137 [cI n7, cI 0, cI 7] [cB b8], .b (!b8) true]) :
 Tp (qaa Tryz.f220 0) (qaJ n0 n1 n2 l3 n6) .ret (qb6 false) :=
 h.lp [2] [] (by kernel_rfl)
theorem qy2 (h : Oo [.b (decide (n6 < (↑l3.length : Int))) true, .p (0 ≤ n6), .p (n6 < (↑l3.length : Int)), .e l3 n6.toNat [I n7], .r 137 [cI n7, cI 0, cI 7] [cB b8], .b (!b8) false, .b (decide (n6 > 0)) true, .p ((0 : Int) ≤ 0), .p (0 < (↑l3.length : Int)), .e l3 0 [I n9], .p ((0 : Int) ≤ 1), .p (1 < (↑l3.length : Int)), .e l3 1 [I n10], .b (n9 == n10) true]) :
 Tp (qaa Tryz.f220 0) (qaJ n0 n1 n2 l3 n6) .ret (qb6 false) :=
 h.lp [2] [] (by kernel_rfl)
theorem qy3 (h : Oo [.b (decide (n6 < (↑l3.length : Int))) true, .p (0 ≤ n6), .p (n6 < (↑l3.length : Int)), .e l3 n6.toNat [I n7], .r 137 [cI n7, cI 0, cI 7] [cB b8], .b (!b8) false, .b (decide (n6 > 0)) true, .p ((0 : Int) ≤ 0), .p (0 < (↑l3.length : Int)), .e l3 0 [I n9], .p ((0 : Int) ≤ 1), .p (1 < (↑l3.length : Int)), .e l3 1 [I n10], .b (n9 == n10) false, .p (inInt .i64 (n6 + 1))]) :
 Tp (qaa Tryz.f220 0) (qaJ n0 n1 n2 l3 n6) .normal (qaJ n0 n1 n2 l3 (n6 + 1)) :=
 h.lp [5, 1] [1] (by kernel_rfl)
theorem qmk (h : Oo [.b (decide (n6 < (↑l3.length : Int))) true, .p (0 ≤ n6), .p (n6 < (↑l3.length : Int)), .e l3 n6.toNat [I n7], .r 137 [cI n7, cI 0, cI 7] [cB b8], .b (!b8) false, .b (decide (n6 > 0)) false, .p (inInt .i64 (n6 + 1))]) :
 Tp (qaa Tryz.f220 0) (qaJ n0 n1 n2 l3 n6) .normal (qaJ n0 n1 n2 l3 (n6 + 1)) :=
 h.lp [5, 1] [1] (by kernel_rfl)
def qcE : St :=
 { env := envOf 93 [], boxes := [] }
theorem qi1 (h : Oo [.b (decide (n6 < (↑l3.length : Int))) false]) :
 Tp (qaa Tryz.f220 0) (qaJ n0 n1 n2 l3 n6) (.exit 1) qcE :=
 h.lp [] [] (by kernel_rfl)
theorem qy4 (h : Oo [.b (n0 == 2) true, .r 137 [cI n1, cI 0, cI 999] [cB b4], .r 137 [cI n0, cI 1, cI 8] [cB b5], .b (!b5) false, .b (!b4) false, .b (!n2 == 0) false, .b (decide ((↑l3.length : Int) > 2)) false, .b (n0 == 8) true, .b (decide ((↑l3.length : Int) > 0)) false, .l [] [5, 1] [1] (qaa Tryz.f220 0) (qaJ n0 n1 n2 l3 0) .ret (qb6 b6)]) :
 Rt 220 [.agg (nd n0 n1 n2 l3)] [cB b6] :=
 h.of (by kernel_rfl)
theorem qy5 (h : Oo [.b (n0 == 2) true, .r 137 [cI n1, cI 0, cI 999] [cB b4], .r 137 [cI n0, cI 1, cI 8] [cB b5], .b (!b5) false, .b (!b4) false, .b (!n2 == 0) false, .b (decide ((↑l3.length : Int) > 2)) false, .b (n0 == 8) true, .b (decide ((↑l3.length : Int) > 0)) false, .l [] [5, 1] [1] (qaa Tryz.f220 0) (qaJ n0 n1 n2 l3 0) (.exit 1) qcE]) :
 Rt 220 [.agg (nd n0 n1 n2 l3)] [cB true] :=
 h.of (by kernel_rfl)
theorem qy6 (h : Oo [.b (n0 == 2) true, .r 137 [cI n1, cI 0, cI 999] [cB b4], .r 137 [cI n0, cI 1, cI 8] [cB b5], .b (!b5) false, .b (!b4) false, .b (!n2 == 0) false, .b (decide ((↑l3.length : Int) > 2)) false, .b (n0 == 8) false, .l [] [5, 1] [1] (qaa Tryz.f220 0) (qaJ n0 n1 n2 l3 0) .ret (qb6 b6)]) :
 Rt 220 [.agg (nd n0 n1 n2 l3)] [cB b6] :=
 h.of (by kernel_rfl)
theorem qy7 (h : Oo [.b (n0 == 2) true, .r 137 [cI n1, cI 0, cI 999] [cB b4], .r 137 [cI n0, cI 1, cI 8] [cB b5], .b (!b5) false, .b (!b4) false, .b (!n2 == 0) false, .b (decide ((↑l3.length : Int) > 2)) false, .b (n0 == 8) false, .l [] [5, 1] [1] (qaa Tryz.f220 0) (qaJ n0 n1 n2 l3 0) (.exit 1) qcE]) :
 Rt 220 [.agg (nd n0 n1 n2 l3)] [cB true] :=
 h.of (by kernel_rfl)
theorem qy8 (h : Oo [.b (n0 == 2) false, .b (n0 == 3) true, .r 137 [cI n1, cI 1, cI 10] [cB b4], .a .wr, .r 137 [cI n2, cI 0, cI (IntKind.i64.wrap (n1 - 1))] [cB b5], .r 137 [cI n0, cI 1, cI 8] [cB b6], .b (!b6) true]) :
 Rt 220 [.agg (nd n0 n1 n2 l3)] [cB false] :=
 h.of (by kernel_rfl)
theorem qy9 (h : Oo [.b (n0 == 2) false, .b (n0 == 3) true, .r 137 [cI n1, cI 1, cI 10] [cB b4], .a .wr, .r 137 [cI n2, cI 0, cI (IntKind.i64.wrap (n1 - 1))] [cB b5], .r 137 [cI n0, cI 1, cI 8] [cB b6], .b (!b6) false, .b (!b4) true]) :
 Rt 220 [.agg (nd n0 n1 n2 l3)] [cB false] :=
 h.of (by kernel_rfl)
theorem qza (h : Oo [.b (n0 == 2) false, .b (n0 == 3) true, .r 137 [cI n1, cI 1, cI 10] [cB b4], .a .wr, .r 137 [cI n2, cI 0, cI (IntKind.i64.wrap (n1 - 1))] [cB b5], .r 137 [cI n0, cI 1, cI 8] [cB b6], .b (!b6) false, .b (!b4) false, .b (!b5) true]) :
 Rt 220 [.agg (nd n0 n1 n2 l3)] [cB false] :=
 h.of (by kernel_rfl)
theorem qzb (h : Oo [.b (n0 == 2) false, .b (n0 == 3) true, .r 137 [cI n1, cI 1, cI 10] [cB b4], .a .wr, .r 137 [cI n2, cI 0, cI (IntKind.i64.wrap (n1 - 1))] [cB b5], .r 137 [cI n0, cI 1, cI 8] [cB b6], .b (!b6) false, .b (!b4) false, .b (!b5) false, .b (decide ((↑l3.length : Int) > 2)) true]) :
 Rt 220 [.agg (nd n0 n1 n2 l3)] [cB false] :=
 h.of (by kernel_rfl)
theorem qzc (h : Oo [.b (n0 == 2) false, .b (n0 == 3) true, .r 137 [cI n1, cI 1, cI 10] [cB b4], .a .wr, .r 137 [cI n2, cI 0, cI (IntKind.i64.wrap (n1 - 1))] [cB b5], .r 137 [cI n0, cI 1, cI 8] [cB b6], .b (!b6) false, .b (!b4) false, .b (!b5) false, .b (decide ((↑l3.length : Int) > 2)) false, .b (n0 == 8) true, .b (decide ((↑l3.length : Int) > 0)) true]) :
 Rt 220 [.agg (nd n0 n1 n2 l3)] [cB false] :=
 h.of (by kernel_rfl)
theorem qzd (h : Oo [.b (n0 == 2) false, .b (n0 == 3) true, .r 137 [cI n1, cI 1, cI 10] [cB b4], .a .wr, .r 137 [cI n2, cI 0, cI (IntKind.i64.wrap (n1 - 1))] [cB b5], .r 137 [cI n0, cI 1, cI 8] [cB b6], .b (!b6) false, .b (!b4) false, .b (!b5) false, .b (decide ((↑l3.length : Int) > 2)) false, .b (n0 == 8) true, .b (decide ((↑l3.length : Int) > 0)) false, .l [] [5, 1] [1] (qaa Tryz.f220 0) (qaJ n0 n1 n2 l3 0) .ret (qb6 b7)]) :
 Rt 220 [.agg (nd n0 n1 n2 l3)] [cB b7] :=
 h.of (by kernel_rfl)
theorem qze (h : Oo [.b (n0 == 2) false, .b (n0 == 3) true, .r 137 [cI n1, cI 1, cI 10] [cB b4], .a .wr, .r 137 [cI n2, cI 0, cI (IntKind.i64.wrap (n1 - 1))] [cB b5], .r 137 [cI n0, cI 1, cI 8] [cB b6], .b (!b6) false, .b (!b4) false, .b (!b5) false, .b (decide ((↑l3.length : Int) > 2)) false, .b (n0 == 8) true, .b (decide ((↑l3.length : Int) > 0)) false, .l [] [5, 1] [1] (qaa Tryz.f220 0) (qaJ n0 n1 n2 l3 0) (.exit 1) qcE]) :
 Rt 220 [.agg (nd n0 n1 n2 l3)] [cB true] :=
 h.of (by kernel_rfl)
theorem qzf (h : Oo [.b (n0 == 2) false, .b (n0 == 3) true, .r 137 [cI n1, cI 1, cI 10] [cB b4], .a .wr, .r 137 [cI n2, cI 0, cI (IntKind.i64.wrap (n1 - 1))] [cB b5], .r 137 [cI n0, cI 1, cI 8] [cB b6], .b (!b6) false, .b (!b4) false, .b (!b5) false, .b (decide ((↑l3.length : Int) > 2)) false, .b (n0 == 8) false, .l [] [5, 1] [1] (qaa Tryz.f220 0) (qaJ n0 n1 n2 l3 0) .ret (qb6 b7)]) :
 Rt 220 [.agg (nd n0 n1 n2 l3)] [cB b7] :=
 h.of (by kernel_rfl)
theorem qzg (h : Oo [.b (n0 == 2) false, .b (n0 == 3) true, .r 137 [cI n1, cI 1, cI 10] [cB b4], .a .wr, .r 137 [cI n2, cI 0, cI (IntKind.i64.wrap (n1 - 1))] [cB b5], .r 137 [cI n0, cI 1, cI 8] [cB b6], .b (!b6) false, .b (!b4) false, .b (!b5) false, .b (decide ((↑l3.length : Int) > 2)) false, .b (n0 == 8) false, .l [] [5, 1] [1] (qaa Tryz.f220 0) (qaJ n0 n1 n2 l3 0) (.exit 1) qcE]) :
 Rt 220 [.agg (nd n0 n1 n2 l3)] [cB true] :=
 h.of (by kernel_rfl)
theorem qzh (h : Oo [.b (n0 == 2) false, .b (n0 == 3) false, .b (n0 == 4) true, .r 137 [cI n1, cI 0, cI 99] [cB b4], .r 137 [cI n0, cI 1, cI 8] [cB b5], .b (!b5) true]) :
 Rt 220 [.agg (nd n0 n1 n2 l3)] [cB false] :=
 h.of (by kernel_rfl)
theorem qzi (h : Oo [.b (n0 == 2) false, .b (n0 == 3) false, .b (n0 == 4) true, .r 137 [cI n1, cI 0, cI 99] [cB b4], .r 137 [cI n0, cI 1, cI 8] [cB b5], .b (!b5) false, .b (!b4) true]) :
 Rt 220 [.agg (nd n0 n1 n2 l3)] [cB false] :=
 h.of (by kernel_rfl)
theorem qzj (h : Oo [.b (n0 == 2) false, .b (n0 == 3) false, .b (n0 == 4) true, .r 137 [cI n1, cI 0, cI 99] [cB b4], .r 137 [cI n0, cI 1, cI 8] [cB b5], .b (!b5) false, .b (!b4) false, .b (!n2 == 0) true]) :
 Rt 220 [.agg (nd n0 n1 n2 l3)] [cB false] :=
 h.of (by kernel_rfl)
theorem qzk (h : Oo [.b (n0 == 2) false, .b (n0 == 3) false, .b (n0 == 4) true, .r 137 [cI n1, cI 0, cI 99] [cB b4], .r 137 [cI n0, cI 1, cI 8] [cB b5], .b (!b5) false, .b (!b4) false, .b (!n2 == 0) false, .b (decide ((↑l3.length : Int) > 2)) true]) :
 Rt 220 [.agg (nd n0 n1 n2 l3)] [cB false] :=
 h.of (by kernel_rfl)
theorem qzl (h : Oo [.b (n0 == 2) false, .b (n0 == 3) false, .b (n0 == 4) true, .r 137 [cI n1, cI 0, cI 99] [cB b4], .r 137 [cI n0, cI 1, cI 8] [cB b5], .b (!b5) false, .b (!b4) false, .b (!n2 == 0) false, .b (decide ((↑l3.length : Int) > 2)) false, .b (n0 == 8) true, .b (decide ((↑l3.length : Int) > 0)) true]) :
 Rt 220 [.agg (nd n0 n1 n2 l3)] [cB false] :=
 h.of (by kernel_rfl)
theorem qzm (h : Oo [.b (n0 == 2) false, .b (n0 == 3) false, .b (n0 == 4) true, .r 137 [cI n1, cI 0, cI 99] [cB b4], .r 137 [cI n0, cI 1, cI 8] [cB b5], .b (!b5) false, .b (!b4) false, .b (!n2 == 0) false, .b (decide ((↑l3.length : Int) > 2)) false, .b (n0 == 8) true, .b (decide ((↑l3.length : Int) > 0)) false, .l [] [5, 1] [1] (qaa Tryz.f220 0) (qaJ n0 n1 n2 l3 0) .ret (qb6 b6)]) :
 Rt 220 [.agg (nd n0 n1 n2 l3)] [cB b6] :=
 h.of (by kernel_rfl)
theorem qzn (h : Oo [.b (n0 == 2) false, .b (n0 == 3) false, .b (n0 == 4) true, .r 137 [cI n1, cI 0, cI 99] [cB b4], .r 137 [cI n0, cI 1, cI 8] [cB b5], .b (!b5) false, .b (!b4) false, .b (!n2 == 0) false, .b (decide ((↑l3.length : Int) > 2)) false, .b (n0 == 8) true, .b (decide ((↑l3.length : Int) > 0)) false, .l [] [5, 1] [1] (qaa Tryz.f220 0) (qaJ n0 n1 n2 l3 0) (.exit 1) qcE]) :
 Rt 220 [.agg (nd n0 n1 n2 l3)] [cB true] :=
 h.of (by kernel_rfl)
theorem qzo (h : Oo [.b (n0 == 2) false, .b (n0 == 3) false, .b (n0 == 4) true, .r 137 [cI n1, cI 0, cI 99] [cB b4], .r 137 [cI n0, cI 1, cI 8] [cB b5], .b (!b5) false, .b (!b4) false, .b (!n2 == 0) false, .b (decide ((↑l3.length : Int) > 2)) false, .b (n0 == 8) false, .l [] [5, 1] [1] (qaa Tryz.f220 0) (qaJ n0 n1 n2 l3 0) .ret (qb6 b6)]) :
 Rt 220 [.agg (nd n0 n1 n2 l3)] [cB b6] :=
 h.of (by kernel_rfl)
theorem qzp (h : Oo [.b (n0 == 2) false, .b (n0 == 3) false, .b (n0 == 4) true, .r 137 [cI n1, cI 0, cI 99] [cB b4], .r 137 [cI n0, cI 1, cI 8] [cB b5], .b (!b5) false, .b (!b4) false, .b (!n2 == 0) false, .b (decide ((↑l3.length : Int) > 2)) false, .b (n0 == 8) false, .l [] [5, 1] [1] (qaa Tryz.f220 0) (qaJ n0 n1 n2 l3 0) (.exit 1) qcE]) :
 Rt 220 [.agg (nd n0 n1 n2 l3)] [cB true] :=
 h.of (by kernel_rfl)
theorem qzq (h : Oo [.b (n0 == 2) false, .b (n0 == 3) false, .b (n0 == 4) false, .r 137 [cI n0, cI 1, cI 8] [cB b4], .b (!b4) true]) :
 Rt 220 [.agg (nd n0 n1 n2 l3)] [cB false] :=
 h.of (by kernel_rfl)
theorem qzr (h : Oo [.b (n0 == 2) false, .b (n0 == 3) false, .b (n0 == 4) false, .r 137 [cI n0, cI 1, cI 8] [cB b4], .b (!b4) false, .b (!n1 == 0) true]) :
 Rt 220 [.agg (nd n0 n1 n2 l3)] [cB false] :=
 h.of (by kernel_rfl)
theorem qzs (h : Oo [.b (n0 == 2) false, .b (n0 == 3) false, .b (n0 == 4) false, .r 137 [cI n0, cI 1, cI 8] [cB b4], .b (!b4) false, .b (!n1 == 0) false, .b (!n2 == 0) true]) :
 Rt 220 [.agg (nd n0 n1 n2 l3)] [cB false] :=
 h.of (by kernel_rfl)
theorem qzt (h : Oo [.b (n0 == 2) false, .b (n0 == 3) false, .b (n0 == 4) false, .r 137 [cI n0, cI 1, cI 8] [cB b4], .b (!b4) false, .b (!n1 == 0) false, .b (!n2 == 0) false, .b (decide ((↑l3.length : Int) > 2)) true]) :
 Rt 220 [.agg (nd n0 n1 n2 l3)] [cB false] :=
 h.of (by kernel_rfl)
theorem qzu (h : Oo [.b (n0 == 2) false, .b (n0 == 3) false, .b (n0 == 4) false, .r 137 [cI n0, cI 1, cI 8] [cB b4], .b (!b4) false, .b (!n1 == 0) false, .b (!n2 == 0) false, .b (decide ((↑l3.length : Int) > 2)) false, .b (n0 == 8) true, .b (decide ((↑l3.length : Int) > 0)) true]) :
 Rt 220 [.agg (nd n0 n1 n2 l3)] [cB false] :=
 h.of (by kernel_rfl)
theorem qzv (h : Oo [.b (n0 == 2) false, .b (n0 == 3) false, .b (n0 == 4) false, .r 137 [cI n0, cI 1, cI 8] [cB b4], .b (!b4) false, .b (!n1 == 0) false, .b (!n2 == 0) false, .b (decide ((↑l3.length : Int) > 2)) false, .b (n0 == 8) true, .b (decide ((↑l3.length : Int) > 0)) false, .l [] [5, 1] [1] (qaa Tryz.f220 0) (qaJ n0 n1 n2 l3 0) .ret (qb6 b5)]) :
 Rt 220 [.agg (nd n0 n1 n2 l3)] [cB b5] :=
 h.of (by kernel_rfl)
theorem qzw (h : Oo [.b (n0 == 2) false, .b (n0 == 3) false, .b (n0 == 4) false, .r 137 [cI n0, cI 1, cI 8] [cB b4], .b (!b4) false, .b (!n1 == 0) false, .b (!n2 == 0) false, .b (decide ((↑l3.length : Int) > 2)) false, .b (n0 == 8) true, .b (decide ((↑l3.length : Int) > 0)) false, .l [] [5, 1] [1] (qaa Tryz.f220 0) (qaJ n0 n1 n2 l3 0) (.exit 1) qcE]) :
 Rt 220 [.agg (nd n0 n1 n2 l3)] [cB true] :=
 h.of (by kernel_rfl)
theorem qzx (h : Oo [.b (n0 == 2) false, .b (n0 == 3) false, .b (n0 == 4) false, .r 137 [cI n0, cI 1, cI 8] [cB b4], .b (!b4) false, .b (!n1 == 0) false, .b (!n2 == 0) false, .b (decide ((↑l3.length : Int) > 2)) false, .b (n0 == 8) false, .l [] [5, 1] [1] (qaa Tryz.f220 0) (qaJ n0 n1 n2 l3 0) .ret (qb6 b5)]) :
 Rt 220 [.agg (nd n0 n1 n2 l3)] [cB b5] :=
 h.of (by kernel_rfl)
theorem qzy (h : Oo [.b (n0 == 2) false, .b (n0 == 3) false, .b (n0 == 4) false, .r 137 [cI n0, cI 1, cI 8] [cB b4], .b (!b4) false, .b (!n1 == 0) false, .b (!n2 == 0) false, .b (decide ((↑l3.length : Int) > 2)) false, .b (n0 == 8) false, .l [] [5, 1] [1] (qaa Tryz.f220 0) (qaJ n0 n1 n2 l3 0) (.exit 1) qcE]) :
 Rt 220 [.agg (nd n0 n1 n2 l3)] [cB true] :=
 h.of (by kernel_rfl)
theorem qzz (h : Oo [.b (n0 == 2) true, .r 81 [cI n1, cI 0, cI 999] [cB b4], .b (!b4) true]) :
 Rt 197 [.agg (nd n0 n1 n2 l3)] [cB false] :=
 h.of (by kernel_rfl)
theorem qzA (h : Oo [.b (n0 == 2) true, .r 81 [cI n1, cI 0, cI 999] [cB b4], .b (!b4) false, .b (n2 != 0) true]) :
 Rt 197 [.agg (nd n0 n1 n2 l3)] [cB false] :=
 h.of (by kernel_rfl)
theorem qzB (h : Oo [.b (n0 == 2) true, .r 81 [cI n1, cI 0, cI 999] [cB b4], .b (!b4) false, .b (n2 != 0) false, .b (decide ((↑l3.length : Int) > 2)) true]) :
 Rt 197 [.agg (nd n0 n1 n2 l3)] [cB false] :=
 h.of (by kernel_rfl)
theorem qzC (h : Oo [.b (n0 == 2) true, .r 81 [cI n1, cI 0, cI 999] [cB b4], .b (!b4) false, .b (n2 != 0) false, .b (decide ((↑l3.length : Int) > 2)) false, .b (n0 == 8) true, .b (decide ((↑l3.length : Int) > 0)) true]) :
 Rt 197 [.agg (nd n0 n1 n2 l3)] [cB false] :=
 h.of (by kernel_rfl)
theorem qzD (h : Oo [.b (n0 == 2) true, .r 81 [cI n1, cI 0, cI 999] [cB b4], .b (!b4) false, .b (n2 != 0) false, .b (decide ((↑l3.length : Int) > 2)) false, .b (n0 == 8) true, .b (decide ((↑l3.length : Int) > 0)) false, .b ((↑l3.length : Int) == 2) true, .p ((0 : Int) ≤ 0), .p (0 < (↑l3.length : Int)), .e l3 0 [I n5], .p ((0 : Int) ≤ 1), .p (1 < (↑l3.length : Int)), .e l3 1 [I n6], .b (n5 == n6) true]) :
 Rt 197 [.agg (nd n0 n1 n2 l3)] [cB false] :=
 h.of (by kernel_rfl)
def qal (l0 : LL) (n1 : Int) : St :=
 { env := envOf 101 [(91, vF 1 l0), (92, vI (↑l0.length : Int)), (93, vI n1)], boxes := [] }
def qay (b0 : Bool) : St :=
 { env := envOf 101 [(2, .al (.one (.sb b0)))], boxes := [] }
theorem qzE (h : Oo [.b (decide (n7 < (↑l3.length : Int))) true, .p (0 ≤ n7), .p (n7 < (↑l3.length : Int)), .e l3 n7.toNat [I n8], .r 81 [cI n8, cI 0, cI 7] [cB b9], .b (!b9) true]) :
 Tp (qaa Tryz.f197 0) (qal l3 n7) .ret (qay false) :=
 h.lp [2] [] (by kernel_rfl)
theorem qzF (h : Oo [.b (decide (n7 < (↑l3.length : Int))) true, .p (0 ≤ n7), .p (n7 < (↑l3.length : Int)), .e l3 n7.toNat [I n8], .r 81 [cI n8, cI 0, cI 7] [cB b9], .b (!b9) false, .p (inInt .i64 (n7 + 1))]) :
 Tp (qaa Tryz.f197 0) (qal l3 n7) .normal (qal l3 (n7 + 1)) :=
 h.lp [93, 92, 91] [] (by kernel_rfl)
def qaC : St :=
 { env := envOf 101 [], boxes := [] }
theorem qzG (h : Oo [.b (decide (n7 < (↑l3.length : Int))) false]) :
 Tp (qaa Tryz.f197 0) (qal l3 n7) (.exit 1) qaC :=
 h.lp [] [] (by kernel_rfl)
theorem qzH (h : Oo [.b (n0 == 2) true, .r 81 [cI n1, cI 0, cI 999] [cB b4], .b (!b4) false, .b (n2 != 0) false, .b (decide ((↑l3.length : Int) > 2)) false, .b (n0 == 8) true, .b (decide ((↑l3.length : Int) > 0)) false, .b ((↑l3.length : Int) == 2) true, .p ((0 : Int) ≤ 0), .p (0 < (↑l3.length : Int)), .e l3 0 [I n5], .p ((0 : Int) ≤ 1), .p (1 < (↑l3.length : Int)), .e l3 1 [I n6], .b (n5 == n6) false, .l [] [93, 92, 91] [] (qaa Tryz.f197 0) (qal l3 0) .ret (qay b7)]) :
 Rt 197 [.agg (nd n0 n1 n2 l3)] [cB b7] :=
 h.of (by kernel_rfl)
theorem qzI (h : Oo [.b (n0 == 2) true, .r 81 [cI n1, cI 0, cI 999] [cB b4], .b (!b4) false, .b (n2 != 0) false, .b (decide ((↑l3.length : Int) > 2)) false, .b (n0 == 8) true, .b (decide ((↑l3.length : Int) > 0)) false, .b ((↑l3.length : Int) == 2) true, .p ((0 : Int) ≤ 0), .p (0 < (↑l3.length : Int)), .e l3 0 [I n5], .p ((0 : Int) ≤ 1), .p (1 < (↑l3.length : Int)), .e l3 1 [I n6], .b (n5 == n6) false, .l [] [93, 92, 91] [] (qaa Tryz.f197 0) (qal l3 0) (.exit 1) qaC]) :
 Rt 197 [.agg (nd n0 n1 n2 l3)] [cB true] :=
 h.of (by kernel_rfl)
theorem qzJ (h : Oo [.b (n0 == 2) true, .r 81 [cI n1, cI 0, cI 999] [cB b4], .b (!b4) false, .b (n2 != 0) false, .b (decide ((↑l3.length : Int) > 2)) false, .b (n0 == 8) true, .b (decide ((↑l3.length : Int) > 0)) false, .b ((↑l3.length : Int) == 2) false, .l [] [93, 92, 91] [] (qaa Tryz.f197 0) (qal l3 0) .ret (qay b5)]) :
 Rt 197 [.agg (nd n0 n1 n2 l3)] [cB b5] :=
 h.of (by kernel_rfl)
theorem qzK (h : Oo [.b (n0 == 2) true, .r 81 [cI n1, cI 0, cI 999] [cB b4], .b (!b4) false, .b (n2 != 0) false, .b (decide ((↑l3.length : Int) > 2)) false, .b (n0 == 8) true, .b (decide ((↑l3.length : Int) > 0)) false, .b ((↑l3.length : Int) == 2) false, .l [] [93, 92, 91] [] (qaa Tryz.f197 0) (qal l3 0) (.exit 1) qaC]) :
 Rt 197 [.agg (nd n0 n1 n2 l3)] [cB true] :=
 h.of (by kernel_rfl)
theorem qzL (h : Oo [.b (n0 == 2) true, .r 81 [cI n1, cI 0, cI 999] [cB b4], .b (!b4) false, .b (n2 != 0) false, .b (decide ((↑l3.length : Int) > 2)) false, .b (n0 == 8) false, .b ((↑l3.length : Int) == 2) true, .p ((0 : Int) ≤ 0), .p (0 < (↑l3.length : Int)), .e l3 0 [I n5], .p ((0 : Int) ≤ 1), .p (1 < (↑l3.length : Int)), .e l3 1 [I n6], .b (n5 == n6) true]) :
 Rt 197 [.agg (nd n0 n1 n2 l3)] [cB false] :=
 h.of (by kernel_rfl)
theorem qzM (h : Oo [.b (n0 == 2) true, .r 81 [cI n1, cI 0, cI 999] [cB b4], .b (!b4) false, .b (n2 != 0) false, .b (decide ((↑l3.length : Int) > 2)) false, .b (n0 == 8) false, .b ((↑l3.length : Int) == 2) true, .p ((0 : Int) ≤ 0), .p (0 < (↑l3.length : Int)), .e l3 0 [I n5], .p ((0 : Int) ≤ 1), .p (1 < (↑l3.length : Int)), .e l3 1 [I n6], .b (n5 == n6) false, .l [] [93, 92, 91] [] (qaa Tryz.f197 0) (qal l3 0) .ret (qay b7)]) :
 Rt 197 [.agg (nd n0 n1 n2 l3)] [cB b7] :=
 h.of (by kernel_rfl)
theorem qzN (h : Oo [.b (n0 == 2) true, .r 81 [cI n1, cI 0, cI 999] [cB b4], .b (!b4) false, .b (n2 != 0) false, .b (decide ((↑l3.length : Int) > 2)) false, .b (n0 == 8) false, .b ((↑l3.length : Int) == 2) true, .p ((0 : Int) ≤ 0), .p (0 < (↑l3.length : Int)), .e l3 0 [I n5], .p ((0 : Int) ≤ 1), .p (1 < (↑l3.length : Int)), .e l3 1 [I n6], .b (n5 == n6) false, .l [] [93, 92, 91] [] (qaa Tryz.f197 0) (qal l3 0) (.exit 1) qaC]) :
 Rt 197 [.agg (nd n0 n1 n2 l3)] [cB true] :=
 h.of (by kernel_rfl)
theorem qzO (h : Oo [.b (n0 == 2) true, .r 81 [cI n1, cI 0, cI 999] [cB b4], .b (!b4) false, .b (n2 != 0) false, .b (decide ((↑l3.length : Int) > 2)) false, .b (n0 == 8) false, .b ((↑l3.length : Int) == 2) false, .l [] [93, 92, 91] [] (qaa Tryz.f197 0) (qal l3 0) .ret (qay b5)]) :
 Rt 197 [.agg (nd n0 n1 n2 l3)] [cB b5] :=
 h.of (by kernel_rfl)
theorem qzP (h : Oo [.b (n0 == 2) true, .r 81 [cI n1, cI 0, cI 999] [cB b4], .b (!b4) false, .b (n2 != 0) false, .b (decide ((↑l3.length : Int) > 2)) false, .b (n0 == 8) false, .b ((↑l3.length : Int) == 2) false, .l [] [93, 92, 91] [] (qaa Tryz.f197 0) (qal l3 0) (.exit 1) qaC]) :
 Rt 197 [.agg (nd n0 n1 n2 l3)] [cB true] :=
 h.of (by kernel_rfl)
theorem qzQ (h : Oo [.b (n0 == 2) false, .b (n0 == 3) true, .r 81 [cI n1, cI 1, cI 10] [cB b4], .b (!b4) true]) :
 Rt 197 [.agg (nd n0 n1 n2 l3)] [cB false] :=
 h.of (by kernel_rfl)
theorem qzR (h : Oo [.b (n0 == 2) false, .b (n0 == 3) true, .r 81 [cI n1, cI 1, cI 10] [cB b4], .b (!b4) false, .a .wr, .r 81 [cI n2, cI 0, cI (IntKind.i64.wrap (n1 - 1))] [cB b5], .b (!b5) true]) :
 Rt 197 [.agg (nd n0 n1 n2 l3)] [cB false] :=
 h.of (by kernel_rfl)
theorem qzS (h : Oo [.b (n0 == 2) false, .b (n0 == 3) true, .r 81 [cI n1, cI 1, cI 10] [cB b4], .b (!b4) false, .a .wr, .r 81 [cI n2, cI 0, cI (IntKind.i64.wrap (n1 - 1))] [cB b5], .b (!b5) false, .b (decide ((↑l3.length : Int) > 2)) true]) :
 Rt 197 [.agg (nd n0 n1 n2 l3)] [cB false] :=
 h.of (by kernel_rfl)
theorem qzT (h : Oo [.b (n0 == 2) false, .b (n0 == 3) true, .r 81 [cI n1, cI 1, cI 10] [cB b4], .b (!b4) false, .a .wr, .r 81 [cI n2, cI 0, cI (IntKind.i64.wrap (n1 - 1))] [cB b5], .b (!b5) false, .b (decide ((↑l3.length : Int) > 2)) false, .b (n0 == 8) true, .b (decide ((↑l3.length : Int) > 0)) true]) :
 Rt 197 [.agg (nd n0 n1 n2 l3)] [cB false] :=
 h.of (by kernel_rfl)
theorem qzU (h : Oo [.b (n0 == 2) false, .b (n0 == 3) true, .r 81 [cI n1, cI 1, cI 10] [cB b4], .b (!b4) false, .a .wr, .r 81 [cI n2, cI 0, cI (IntKind.i64.wrap (n1 - 1))] [cB b5], .b (!b5) false, .b (decide ((↑l3.length : Int) > 2)) false, .b (n0 == 8) true, .b (decide ((↑l3.length : Int) > 0)) false, .b ((↑l3.length : Int) == 2) true, .p ((0 : Int) ≤ 0), .p (0 < (↑l3.length : Int)), .e l3 0 [I n6], .p ((0 : Int) ≤ 1), .p (1 < (↑l3.length : Int)), .e l3 1 [I n7], .b (n6 == n7) true]) :
 Rt 197 [.agg (nd n0 n1 n2 l3)] [cB false] :=
 h.of (by kernel_rfl)
theorem qzV (h : Oo [.b (n0 == 2) false, .b (n0 == 3) true, .r 81 [cI n1, cI 1, cI 10] [cB b4], .b (!b4) false, .a .wr, .r 81 [cI n2, cI 0, cI (IntKind.i64.wrap (n1 - 1))] [cB b5], .b (!b5) false, .b (decide ((↑l3.length : Int) > 2)) false, .b (n0 == 8) true, .b (decide ((↑l3.length : Int) > 0)) false, .b ((↑l3.length : Int) == 2) true, .p ((0 : Int) ≤ 0), .p (0 < (↑l3.length : Int)), .e l3 0 [I n6], .p ((0 : Int) ≤ 1), .p (1 < (↑l3.length : Int)), .e l3 1 [I n7], .b (n6 == n7) false, .l [] [93, 92, 91] [] (qaa Tryz.f197 0) (qal l3 0) .ret (qay b8)]) :
 Rt 197 [.agg (nd n0 n1 n2 l3)] [cB b8] :=
 h.of (by kernel_rfl)
theorem qzW (h : Oo [.b (n0 == 2) false, .b (n0 == 3) true, .r 81 [cI n1, cI 1, cI 10] [cB b4], .b (!b4) false, .a .wr, .r 81 [cI n2, cI 0, cI (IntKind.i64.wrap (n1 - 1))] [cB b5], .b (!b5) false, .b (decide ((↑l3.length : Int) > 2)) false, .b (n0 == 8) true, .b (decide ((↑l3.length : Int) > 0)) false, .b ((↑l3.length : Int) == 2) true, .p ((0 : Int) ≤ 0), .p (0 < (↑l3.length : Int)), .e l3 0 [I n6], .p ((0 : Int) ≤ 1), .p (1 < (↑l3.length : Int)), .e l3 1 [I n7], .b (n6 == n7) false, .l [] [93, 92, 91] [] (qaa Tryz.f197 0) (qal l3 0) (.exit 1) qaC]) :
 Rt 197 [.agg (nd n0 n1 n2 l3)] [cB true] :=
 h.of (by kernel_rfl)
theorem qzX (h : Oo [.b (n0 == 2) false, .b (n0 == 3) true, .r 81 [cI n1, cI 1, cI 10] [cB b4], .b (!b4) false, .a .wr, .r 81 [cI n2, cI 0, cI (IntKind.i64.wrap (n1 - 1))] [cB b5], .b (!b5) false, .b (decide ((↑l3.length : Int) > 2)) false, .b (n0 == 8) true, .b (decide ((↑l3.length : Int) > 0)) false, .b ((↑l3.length : Int) == 2) false, .l [] [93, 92, 91] [] (qaa Tryz.f197 0) (qal l3 0) .ret (qay b6)]) :
 Rt 197 [.agg (nd n0 n1 n2 l3)] [cB b6] :=
 h.of (by kernel_rfl)
theorem qzY (h : Oo [.b (n0 == 2) false, .b (n0 == 3) true, .r 81 [cI n1, cI 1, cI 10] [cB b4], .b (!b4) false, .a .wr, .r 81 [cI n2, cI 0, cI (IntKind.i64.wrap (n1 - 1))] [cB b5], .b (!b5) false, .b (decide ((↑l3.length : Int) > 2)) false, .b (n0 == 8) true, .b (decide ((↑l3.length : Int) > 0)) false, .b ((↑l3.length : Int) == 2) false, .l [] [93, 92, 91] [] (qaa Tryz.f197 0) (qal l3 0) (.exit 1) qaC]) :
 Rt 197 [.agg (nd n0 n1 n2 l3)] [cB true] :=
 h.of (by kernel_rfl)
theorem qzZ (h : Oo [.b (n0 == 2) false, .b (n0 == 3) true, .r 81 [cI n1, cI 1, cI 10] [cB b4], .b (!b4) false, .a .wr, .r 81 [cI n2, cI 0, cI (IntKind.i64.wrap (n1 - 1))] [cB b5], .b (!b5) false, .b (decide ((↑l3.length : Int) > 2)) false, .b (n0 == 8) false, .b ((↑l3.length : Int) == 2) true, .p ((0 : Int) ≤ 0), .p (0 < (↑l3.length : Int)), .e l3 0 [I n6], .p ((0 : Int) ≤ 1), .p (1 < (↑l3.length : Int)), .e l3 1 [I n7], .b (n6 == n7) true]) :
 Rt 197 [.agg (nd n0 n1 n2 l3)] [cB false] :=
 h.of (by kernel_rfl)
theorem qz0 (h : Oo [.b (n0 == 2) false, .b (n0 == 3) true, .r 81 [cI n1, cI 1, cI 10] [cB b4], .b (!b4) false, .a .wr, .r 81 [cI n2, cI 0, cI (IntKind.i64.wrap (n1 - 1))] [cB b5], .b (!b5) false, .b (decide ((↑l3.length : Int) > 2)) false, .b (n0 == 8) false, .b ((↑l3.length : Int) == 2) true, .p ((0 : Int) ≤ 0), .p (0 < (↑l3.length : Int)), .e l3 0 [I n6], .p ((0 : Int) ≤ 1), .p (1 < (↑l3.length : Int)), .e l3 1 [I n7], .b (n6 == n7) false, .l [] [93, 92, 91] [] (qaa Tryz.f197 0) (qal l3 0) .ret (qay b8)]) :
 Rt 197 [.agg (nd n0 n1 n2 l3)] [cB b8] :=
 h.of (by kernel_rfl)
theorem qz1 (h : Oo [.b (n0 == 2) false, .b (n0 == 3) true, .r 81 [cI n1, cI 1, cI 10] [cB b4], .b (!b4) false, .a .wr, .r 81 [cI n2, cI 0, cI (IntKind.i64.wrap (n1 - 1))] [cB b5], .b (!b5) false, .b (decide ((↑l3.length : Int) > 2)) false, .b (n0 == 8) false, .b ((↑l3.length : Int) == 2) true, .p ((0 : Int) ≤ 0), .p (0 < (↑l3.length : Int)), .e l3 0 [I n6], .p ((0 : Int) ≤ 1), .p (1 < (↑l3.length : Int)), .e l3 1 [I n7], .b (n6 == n7) false, .l [] [93, 92, 91] [] (qaa Tryz.f197 0) (qal l3 0) (.exit 1) qaC]) :
 Rt 197 [.agg (nd n0 n1 n2 l3)] [cB true] :=
 h.of (by kernel_rfl)
theorem qz2 (h : Oo [.b (n0 == 2) false, .b (n0 == 3) true, .r 81 [cI n1, cI 1, cI 10] [cB b4], .b (!b4) false, .a .wr, .r 81 [cI n2, cI 0, cI (IntKind.i64.wrap (n1 - 1))] [cB b5], .b (!b5) false, .b (decide ((↑l3.length : Int) > 2)) false, .b (n0 == 8) false, .b ((↑l3.length : Int) == 2) false, .l [] [93, 92, 91] [] (qaa Tryz.f197 0) (qal l3 0) .ret (qay b6)]) :
 Rt 197 [.agg (nd n0 n1 n2 l3)] [cB b6] :=
 h.of (by kernel_rfl)
theorem qz3 (h : Oo [.b (n0 == 2) false, .b (n0 == 3) true, .r 81 [cI n1, cI 1, cI 10] [cB b4], .b (!b4) false, .a .wr, .r 81 [cI n2, cI 0, cI (IntKind.i64.wrap (n1 - 1))] [cB b5], .b (!b5) false, .b (decide ((↑l3.length : Int) > 2)) false, .b (n0 == 8) false, .b ((↑l3.length : Int) == 2) false, .l [] [93, 92, 91] [] (qaa Tryz.f197 0) (qal l3 0) (.exit 1) qaC]) :
 Rt 197 [.agg (nd n0 n1 n2 l3)] [cB true] :=
 h.of (by kernel_rfl)
theorem qz4 (h : Oo [.b (n0 == 2) false, .b (n0 == 3) false, .b (n0 == 4) true, .r 81 [cI n1, cI 0, cI 99] [cB b4], .b (!b4) true]) :
 Rt 197 [.agg (nd n0 n1 n2 l3)] [cB false] :=
 h.of (by kernel_rfl)
theorem qz5 (h : Oo [.b (n0 == 2) false, .b (n0 == 3) false, .b (n0 == 4) true, .r 81 [cI n1, cI 0, cI 99] [cB b4], .b (!b4) false, .b (n2 != 0) true]) :
 Rt 197 [.agg (nd n0 n1 n2 l3)] [cB false] :=
 h.of (by kernel_rfl)
theorem qz6 (h : Oo [.b (n0 == 2) false, .b (n0 == 3) false, .b (n0 == 4) true, .r 81 [cI n1, cI 0, cI 99] [cB b4], .b (!b4) false, .b (n2 != 0) false, .b (decide ((↑l3.length : Int) > 2)) true]) :
 Rt 197 [.agg (nd n0 n1 n2 l3)] [cB false] :=
 h.of (by kernel_rfl)
theorem qz7 (h : Oo [.b (n0 == 2) false, .b (n0 == 3) false, .b (n0 == 4) true, .r 81 [cI n1, cI 0, cI 99] [cB b4], .b (!b4) false, .b (n2 != 0) false, .b (decide ((↑l3.length : Int) > 2)) false, .b (n0 == 8) true, .b (decide ((↑l3.length : Int) > 0)) true]) :
 Rt 197 [.agg (nd n0 n1 n2 l3)] [cB false] :=
 h.of (by kernel_rfl)
theorem qz8 (h : Oo [.b (n0 == 2) false, .b (n0 == 3) false, .b (n0 == 4) true, .r 81 [cI n1, cI 0, cI 99] [cB b4], .b (!b4) false, .b (n2 != 0) false, .b (decide ((↑l3.length : Int) > 2)) false, .b (n0 == 8) true, .b (decide ((↑l3.length : Int) > 0)) false, .b ((↑l3.length : Int) == 2) true, .p ((0 : Int) ≤ 0), .p (0 < (↑l3.length : Int)), .e l3 0 [I n5], .p ((0 : Int) ≤ 1), .p (1 < (↑l3.length : Int)), .e l3 1 [I n6], .b (n5 == n6) true]) :
 Rt 197 [.agg (nd n0 n1 n2 l3)] [cB false] :=
 h.of (by kernel_rfl)
theorem qz9 (h : Oo [.b (n0 == 2) false, .b (n0 == 3) false, .b (n0 == 4) true, .r 81 [cI n1, cI 0, cI 99] [cB b4], .b (!b4) false, .b (n2 != 0) false, .b (decide ((↑l3.length : Int) > 2)) false, .b (n0 == 8) true, .b (decide ((↑l3.length : Int) > 0)) false, .b ((↑l3.length : Int) == 2) true, .p ((0 : Int) ≤ 0), .p (0 < (↑l3.length : Int)), .e l3 0 [I n5], .p ((0 : Int) ≤ 1), .p (1 < (↑l3.length : Int)), .e l3 1 [I n6], .b (n5 == n6) false, .l [] [93, 92, 91] [] (qaa Tryz.f197 0) (qal l3 0) .ret (qay b7)]) :
 Rt 197 [.agg (nd n0 n1 n2 l3)] [cB b7] :=
 h.of (by kernel_rfl)
theorem qAa (h : Oo [.b (n0 == 2) false, .b (n0 == 3) false, .b (n0 == 4) true, .r 81 [cI n1, cI 0, cI 99] [cB b4], .b (!b4) false, .b (n2 != 0) false, .b (decide ((↑l3.length : Int) > 2)) false, .b (n0 == 8) true, .b (decide ((↑l3.length : Int) > 0)) false, .b ((↑l3.length : Int) == 2) true, .p ((0 : Int) ≤ 0), .p (0 < (↑l3.length : Int)), .e l3 0 [I n5], .p ((0 : Int) ≤ 1), .p (1 < (↑l3.length : Int)), .e l3 1 [I n6], .b (n5 == n6) false, .l [] [93, 92, 91] [] (qaa Tryz.f197 0) (qal l3 0) (.exit 1) qaC]) :
 Rt 197 [.agg (nd n0 n1 n2 l3)] [cB true] :=
 h.of (by kernel_rfl)
theorem qAb (h : Oo [.b (n0 == 2) false, .b (n0 == 3) false, .b (n0 == 4) true, .r 81 [cI n1, cI 0, cI 99] [cB b4], .b (!b4) false, .b (n2 != 0) false, .b (decide ((↑l3.length : Int) > 2)) false, .b (n0 == 8) true, .b (decide ((↑l3.length : Int) > 0)) false, .b ((↑l3.length : Int) == 2) false, .l [] [93, 92, 91] [] (qaa Tryz.f197 0) (qal l3 0) .ret (qay b5)]) :
 Rt 197 [.agg (nd n0 n1 n2 l3)] [cB b5] :=
 h.of (by kernel_rfl)
theorem qAc (h : Oo [.b (n0 == 2) false, .b (n0 == 3) false, .b (n0 == 4) true, .r 81 [cI n1, cI 0, cI 99] [cB b4], .b (!b4) false, .b (n2 != 0) false, .b (decide ((↑l3.length : Int) > 2)) false, .b (n0 == 8) true, .b (decide ((↑l3.length : Int) > 0)) false, .b ((↑l3.length : Int) == 2) false, .l [] [93, 92, 91] [] (qaa Tryz.f197 0) (qal l3 0) (.exit 1) qaC]) :
 Rt 197 [.agg (nd n0 n1 n2 l3)] [cB true] :=
 h.of (by kernel_rfl)
theorem qAd (h : Oo [.b (n0 == 2) false, .b (n0 == 3) false, .b (n0 == 4) true, .r 81 [cI n1, cI 0, cI 99] [cB b4], .b (!b4) false, .b (n2 != 0) false, .b (decide ((↑l3.length : Int) > 2)) false, .b (n0 == 8) false, .b ((↑l3.length : Int) == 2) true, .p ((0 : Int) ≤ 0), .p (0 < (↑l3.length : Int)), .e l3 0 [I n5], .p ((0 : Int) ≤ 1), .p (1 < (↑l3.length : Int)), .e l3 1 [I n6], .b (n5 == n6) true]) :
 Rt 197 [.agg (nd n0 n1 n2 l3)] [cB false] :=
 h.of (by kernel_rfl)
theorem qAe (h : Oo [.b (n0 == 2) false, .b (n0 == 3) false, .b (n0 == 4) true, .r 81 [cI n1, cI 0, cI 99] [cB b4], .b (!b4) false, .b (n2 != 0) false, .b (decide ((↑l3.length : Int) > 2)) false, .b (n0 == 8) false, .b ((↑l3.length : Int) == 2) true, .p ((0 : Int) ≤ 0), .p (0 < (↑l3.length : Int)), .e l3 0 [I n5], .p ((0 : Int) ≤ 1), .p (1 < (↑l3.length : Int)), .e l3 1 [I n6], .b (n5 == n6) false, .l [] [93, 92, 91] [] (qaa Tryz.f197 0) (qal l3 0) .ret (qay b7)]) :
 Rt 197 [.agg (nd n0 n1 n2 l3)] [cB b7] :=
 h.of (by kernel_rfl)
theorem qAf (h : Oo [.b (n0 == 2) false, .b (n0 == 3) false, .b (n0 == 4) true, .r 81 [cI n1, cI 0, cI 99] [cB b4], .b (!b4) false, .b (n2 != 0) false, .b (decide ((↑l3.length : Int) > 2)) false, .b (n0 == 8) false, .b ((↑l3.length : Int) == 2) true, .p ((0 : Int) ≤ 0), .p (0 < (↑l3.length : Int)), .e l3 0 [I n5], .p ((0 : Int) ≤ 1), .p (1 < (↑l3.length : Int)), .e l3 1 [I n6], .b (n5 == n6) false, .l [] [93, 92, 91] [] (qaa Tryz.f197 0) (qal l3 0) (.exit 1) qaC]) :
 Rt 197 [.agg (nd n0 n1 n2 l3)] [cB true] :=
 h.of (by kernel_rfl)
theorem qAg (h : Oo [.b (n0 == 2) false, .b (n0 == 3) false, .b (n0 == 4) true, .r 81 [cI n1, cI 0, cI 99] [cB b4], .b (!b4) false, .b (n2 != 0) false, .b (decide ((↑l3.length : Int) > 2)) false, .b (n0 == 8) false, .b ((↑l3.length : Int) == 2) false, .l [] [93, 92, 91] [] (qaa Tryz.f197 0) (qal l3 0) .ret (qay b5)]) :
 Rt 197 [.agg (nd n0 n1 n2 l3)] [cB b5] :=
 h.of (by kernel_rfl)
theorem qAh (h : Oo [.b (n0 == 2) false, .b (n0 == 3) false, .b (n0 == 4) true, .r 81 [cI n1, cI 0, cI 99] [cB b4], .b (!b4) false, .b (n2 != 0) false, .b (decide ((↑l3.length : Int) > 2)) false, .b (n0 == 8) false, .b ((↑l3.length : Int) == 2) false, .l [] [93, 92, 91] [] (qaa Tryz.f197 0) (qal l3 0) (.exit 1) qaC]) :
 Rt 197 [.agg (nd n0 n1 n2 l3)] [cB true] :=
 h.of (by kernel_rfl)
theorem qAi (h : Oo [.b (n0 == 2) false, .b (n0 == 3) false, .b (n0 == 4) false, .b (n0 == 1) true, .b (n0 == 1) true, .b (n1 != 0) true]) :
 Rt 197 [.agg (nd n0 n1 n2 l3)] [cB false] :=
 h.of (by kernel_rfl)
theorem qAj (h : Oo [.b (n0 == 2) false, .b (n0 == 3) false, .b (n0 == 4) false, .b (n0 == 1) true, .b (n0 == 1) true, .b (n1 != 0) false, .b (n2 != 0) true]) :
 Rt 197 [.agg (nd n0 n1 n2 l3)] [cB false] :=
 h.of (by kernel_rfl)
theorem qAk (h : Oo [.b (n0 == 2) false, .b (n0 == 3) false, .b (n0 == 4) false, .b (n0 == 1) true, .b (n0 == 1) true, .b (n1 != 0) false, .b (n2 != 0) false, .b (decide ((↑l3.length : Int) > 2)) true]) :
 Rt 197 [.agg (nd n0 n1 n2 l3)] [cB false] :=
 h.of (by kernel_rfl)
theorem qAl (h : Oo [.b (n0 == 2) false, .b (n0 == 3) false, .b (n0 == 4) false, .b (n0 == 1) true, .b (n0 == 1) true, .b (n1 != 0) false, .b (n2 != 0) false, .b (decide ((↑l3.length : Int) > 2)) false, .b (n0 == 8) true, .b (decide ((↑l3.length : Int) > 0)) true]) :
 Rt 197 [.agg (nd n0 n1 n2 l3)] [cB false] :=
 h.of (by kernel_rfl)
theorem qAm (h : Oo [.b (n0 == 2) false, .b (n0 == 3) false, .b (n0 == 4) false, .b (n0 == 1) true, .b (n0 == 1) true, .b (n1 != 0) false, .b (n2 != 0) false, .b (decide ((↑l3.length : Int) > 2)) false, .b (n0 == 8) true, .b (decide ((↑l3.length : Int) > 0)) false, .b ((↑l3.length : Int) == 2) true, .p ((0 : Int) ≤ 0), .p (0 < (↑l3.length : Int)), .e l3 0 [I n4], .p ((0 : Int) ≤ 1), .p (1 < (↑l3.length : Int)), .e l3 1 [I n5], .b (n4 == n5) true]) :
 Rt 197 [.agg (nd n0 n1 n2 l3)] [cB false] :=
 h.of (by kernel_rfl)
theorem qAn (h : Oo [.b (n0 == 2) false, .b (n0 == 3) false, .b (n0 == 4) false, .b (n0 == 1) true, .b (n0 == 1) true, .b (n1 != 0) false, .b (n2 != 0) false, .b (decide ((↑l3.length : Int) > 2)) false, .b (n0 == 8) true, .b (decide ((↑l3.length : Int) > 0)) false, .b ((↑l3.length : Int) == 2) true, .p ((0 : Int) ≤ 0), .p (0 < (↑l3.length : Int)), .e l3 0 [I n4], .p ((0 : Int) ≤ 1), .p (1 < (↑l3.length : Int)), .e l3 1 [I n5], .b (n4 == n5) false, .l [] [93, 92, 91] [] (qaa Tryz.f197 0) (qal l3 0) .ret (qay b6)]) :
 Rt 197 [.agg (nd n0 n1 n2 l3)] [cB b6] :=
 h.of (by kernel_rfl)
theorem qAo (h : Oo [.b (n0 == 2) false, .b (n0 == 3) false, .b (n0 == 4) false, .b (n0 == 1) true, .b (n0 == 1) true, .b (n1 != 0) false, .b (n2 != 0) false, .b (decide ((↑l3.length : Int) > 2)) false, .b (n0 == 8) true, .b (decide ((↑l3.length : Int) > 0)) false, .b ((↑l3.length : Int) == 2) true, .p ((0 : Int) ≤ 0), .p (0 < (↑l3.length : Int)), .e l3 0 [I n4], .p ((0 : Int) ≤ 1), .p (1 < (↑l3.length : Int)), .e l3 1 [I n5], .b (n4 == n5) false, .l [] [93, 92, 91] [] (qaa Tryz.f197 0) (qal l3 0) (.exit 1) qaC]) :
 Rt 197 [.agg (nd n0 n1 n2 l3)] [cB true] :=
 h.of (by kernel_rfl)
theorem qAp (h : Oo [.b (n0 == 2) false, .b (n0 == 3) false, .b (n0 == 4) false, .b (n0 == 1) true, .b (n0 == 1) true, .b (n1 != 0) false, .b (n2 != 0) false, .b (decide ((↑l3.length : Int) > 2)) false, .b (n0 == 8) true, .b (decide ((↑l3.length : Int) > 0)) false, .b ((↑l3.length : Int) == 2) false, .l [] [93, 92, 91] [] (qaa Tryz.f197 0) (qal l3 0) .ret (qay b4)]) :
 Rt 197 [.agg (nd n0 n1 n2 l3)] [cB b4] :=
 h.of (by kernel_rfl)
theorem qAq (h : Oo [.b (n0 == 2) false, .b (n0 == 3) false, .b (n0 == 4) false, .b (n0 == 1) true, .b (n0 == 1) true, .b (n1 != 0) false, .b (n2 != 0) false, .b (decide ((↑l3.length : Int) > 2)) false, .b (n0 == 8) true, .b (decide ((↑l3.length : Int) > 0)) false, .b ((↑l3.length : Int) == 2) false, .l [] [93, 92, 91] [] (qaa Tryz.f197 0) (qal l3 0) (.exit 1) qaC]) :
 Rt 197 [.agg (nd n0 n1 n2 l3)] [cB true] :=
 h.of (by kernel_rfl)
theorem qAr (h : Oo [.b (n0 == 2) false, .b (n0 == 3) false, .b (n0 == 4) false, .b (n0 == 1) true, .b (n0 == 1) true, .b (n1 != 0) false, .b (n2 != 0) false, .b (decide ((↑l3.length : Int) > 2)) false, .b (n0 == 8) false, .b ((↑l3.length : Int) == 2) true, .p ((0 : Int) ≤ 0), .p (0 < (↑l3.length : Int)), .e l3 0 [I n4], .p ((0 : Int) ≤ 1), .p (1 < (↑l3.length : Int)), .e l3 1 [I n5], .b (n4 == n5) true]) :
 Rt 197 [.agg (nd n0 n1 n2 l3)] [cB false] :=
 h.of (by kernel_rfl)
theorem qAs (h : Oo [.b (n0 == 2) false, .b (n0 == 3) false, .b (n0 == 4) false, .b (n0 == 1) true, .b (n0 == 1) true, .b (n1 != 0) false, .b (n2 != 0) false, .b (decide ((↑l3.length : Int) > 2)) false, .b (n0 == 8) false, .b ((↑l3.length : Int) == 2) true, .p ((0 : Int) ≤ 0), .p (0 < (↑l3.length : Int)), .e l3 0 [I n4], .p ((0 : Int) ≤ 1), .p (1 < (↑l3.length : Int)), .e l3 1 [I n5], .b (n4 == n5) false, .l [] [93, 92, 91] [] (qaa Tryz.f197 0) (qal l3 0) .ret (qay b6)]) :
 Rt 197 [.agg (nd n0 n1 n2 l3)] [cB b6] :=
 h.of (by kernel_rfl)
theorem qAt (h : Oo [.b (n0 == 2) false, .b (n0 == 3) false, .b (n0 == 4) false, .b (n0 == 1) true, .b (n0 == 1) true, .b (n1 != 0) false, .b (n2 != 0) false, .b (decide ((↑l3.length : Int) > 2)) false, .b (n0 == 8) false, .b ((↑l3.length : Int) == 2) true, .p ((0 : Int) ≤ 0), .p (0 < (↑l3.length : Int)), .e l3 0 [I n4], .p ((0 : Int) ≤ 1), .p (1 < (↑l3.length : Int)), .e l3 1 [I n5], .b (n4 == n5) false, .l [] [93, 92, 91] [] (qaa Tryz.f197 0) (qal l3 0) (.exit 1) qaC]) :
 Rt 197 [.agg (nd n0 n1 n2 l3)] [cB true] :=
 h.of (by kernel_rfl)
theorem qAu (h : Oo [.b (n0 == 2) false, .b (n0 == 3) false, .b (n0 == 4) false, .b (n0 == 1) true, .b (n0 == 1) true, .b (n1 != 0) false, .b (n2 != 0) false, .b (decide ((↑l3.length : Int) > 2)) false, .b (n0 == 8) false, .b ((↑l3.length : Int) == 2) false, .l [] [93, 92, 91] [] (qaa Tryz.f197 0) (qal l3 0) .ret (qay b4)]) :
 Rt 197 [.agg (nd n0 n1 n2 l3)] [cB b4] :=
 h.of (by kernel_rfl)
theorem qAv (h : Oo [.b (n0 == 2) false, .b (n0 == 3) false, .b (n0 == 4) false, .b (n0 == 1) true, .b (n0 == 1) true, .b (n1 != 0) false, .b (n2 != 0) false, .b (decide ((↑l3.length : Int) > 2)) false, .b (n0 == 8) false, .b ((↑l3.length : Int) == 2) false, .l [] [93, 92, 91] [] (qaa Tryz.f197 0) (qal l3 0) (.exit 1) qaC]) :
 Rt 197 [.agg (nd n0 n1 n2 l3)] [cB true] :=
 h.of (by kernel_rfl)
theorem qAw (h : Oo [.b (n0 == 2) false, .b (n0 == 3) false, .b (n0 == 4) false, .b (n0 == 1) false, .b (n0 == 5) true, .b (n0 == 5) true, .b (n1 != 0) true]) :
 Rt 197 [.agg (nd n0 n1 n2 l3)] [cB false] :=
 h.of (by kernel_rfl)
theorem qAx (h : Oo [.b (n0 == 2) false, .b (n0 == 3) false, .b (n0 == 4) false, .b (n0 == 1) false, .b (n0 == 5) true, .b (n0 == 5) true, .b (n1 != 0) false, .b (n2 != 0) true]) :
 Rt 197 [.agg (nd n0 n1 n2 l3)] [cB false] :=
 h.of (by kernel_rfl)
theorem qAy (h : Oo [.b (n0 == 2) false, .b (n0 == 3) false, .b (n0 == 4) false, .b (n0 == 1) false, .b (n0 == 5) true, .b (n0 == 5) true, .b (n1 != 0) false, .b (n2 != 0) false, .b (decide ((↑l3.length : Int) > 2)) true]) :
 Rt 197 [.agg (nd n0 n1 n2 l3)] [cB false] :=
 h.of (by kernel_rfl)
theorem qAz (h : Oo [.b (n0 == 2) false, .b (n0 == 3) false, .b (n0 == 4) false, .b (n0 == 1) false, .b (n0 == 5) true, .b (n0 == 5) true, .b (n1 != 0) false, .b (n2 != 0) false, .b (decide ((↑l3.length : Int) > 2)) false, .b (n0 == 8) true, .b (decide ((↑l3.length : Int) > 0)) true]) :
 Rt 197 [.agg (nd n0 n1 n2 l3)] [cB false] :=
 h.of (by kernel_rfl)
theorem qAA (h : Oo [.b (n0 == 2) false, .b (n0 == 3) false, .b (n0 == 4) false, .b (n0 == 1) false, .b (n0 == 5) true, .b (n0 == 5) true, .b (n1 != 0) false, .b (n2 != 0) false, .b (decide ((↑l3.length : Int) > 2)) false, .b (n0 == 8) true, .b (decide ((↑l3.length : Int) > 0)) false, .b ((↑l3.length : Int) == 2) true, .p ((0 : Int) ≤ 0), .p (0 < (↑l3.length : Int)), .e l3 0 [I n4], .p ((0 : Int) ≤ 1), .p (1 < (↑l3.length : Int)), .e l3 1 [I n5], .b (n4 == n5) true]) :
 Rt 197 [.agg (nd n0 n1 n2 l3)] [cB false] :=
 h.of (by kernel_rfl)
theorem qAB (h : Oo [.b (n0 == 2) false, .b (n0 == 3) false, .b (n0 == 4) false, .b (n0 == 1) false, .b (n0 == 5) true, .b (n0 == 5) true, .b (n1 != 0) false, .b (n2 != 0) false, .b (decide ((↑l3.length : Int) > 2)) false, .b (n0 == 8) true, .b (decide ((↑l3.length : Int) > 0)) false, .b ((↑l3.length : Int) == 2) true, .p ((0 : Int) ≤ 0), .p (0 < (↑l3.length : Int)), .e l3 0 [I n4], .p ((0 : Int) ≤ 1), .p (1 < (↑l3.length : Int)), .e l3 1 [I n5], .b (n4 == n5) false, .l [] [93, 92, 91] [] (qaa Tryz.f197 0) (qal l3 0) .ret (qay b6)]) :
 Rt 197 [.agg (nd n0 n1 n2 l3)] [cB b6] :=
 h.of (by kernel_rfl)
theorem qAC (h : Oo [.b (n0 == 2) false, .b (n0 == 3) false, .b (n0 == 4) false, .b (n0 == 1) false, .b (n0 == 5) true, .b (n0 == 5) true, .b (n1 != 0) false, .b (n2 != 0) false, .b (decide ((↑l3.length : Int) > 2)) false, .b (n0 == 8) true, .b (decide ((↑l3.length : Int) > 0)) false, .b ((↑l3.length : Int) == 2) true, .p ((0 : Int) ≤ 0), .p (0 < (↑l3.length : Int)), .e l3 0 [I n4], .p ((0 : Int) ≤ 1), .p (1 < (↑l3.length : Int)), .e l3 1 [I n5], .b (n4 == n5) false, .l [] [93, 92, 91] [] (qaa Tryz.f197 0) (qal l3 0) (.exit 1) qaC]) :
 Rt 197 [.agg (nd n0 n1 n2 l3)] [cB true] :=
 h.of (by kernel_rfl)
theorem qAD (h : Oo [.b (n0 == 2) false, .b (n0 == 3) false, .b (n0 == 4) false, .b (n0 == 1) false, .b (n0 == 5) true, .b (n0 == 5) true, .b (n1 != 0) false, .b (n2 != 0) false, .b (decide ((↑l3.length : Int) > 2)) false, .b (n0 == 8) true, .b (decide ((↑l3.length : Int) > 0)) false, .b ((↑l3.length : Int) == 2) false, .l [] [93, 92, 91] [] (qaa Tryz.f197 0) (qal l3 0) .ret (qay b4)]) :
 Rt 197 [.agg (nd n0 n1 n2 l3)] [cB b4] :=
 h.of (by kernel_rfl)
theorem qAE (h : Oo [.b (n0 == 2) false, .b (n0 == 3) false, .b (n0 == 4) false, .b (n0 == 1) false, .b (n0 == 5) true, .b (n0 == 5) true, .b (n1 != 0) false, .b (n2 != 0) false, .b (decide ((↑l3.length : Int) > 2)) false, .b (n0 == 8) true, .b (decide ((↑l3.length : Int) > 0)) false, .b ((↑l3.length : Int) == 2) false, .l [] [93, 92, 91] [] (qaa Tryz.f197 0) (qal l3 0) (.exit 1) qaC]) :
 Rt 197 [.agg (nd n0 n1 n2 l3)] [cB true] :=
 h.of (by kernel_rfl)
theorem qAF (h : Oo [.b (n0 == 2) false, .b (n0 == 3) false, .b (n0 == 4) false, .b (n0 == 1) false, .b (n0 == 5) true, .b (n0 == 5) true, .b (n1 != 0) false, .b (n2 != 0) false, .b (decide ((↑l3.length : Int) > 2)) false, .b (n0 == 8) false, .b ((↑l3.length : Int) == 2) true, .p ((0 : Int) ≤ 0), .p (0 < (↑l3.length : Int)), .e l3 0 [I n4], .p ((0 : Int) ≤ 1), .p (1 < (↑l3.length : Int)), .e l3 1 [I n5], .b (n4 == n5) true]) :
 Rt 197 [.agg (nd n0 n1 n2 l3)] [cB false] :=
 h.of (by kernel_rfl)
theorem qAG (h : Oo [.b (n0 == 2) false, .b (n0 == 3) false, .b (n0 == 4) false, .b (n0 == 1) false, .b (n0 == 5) true, .b (n0 == 5) true, .b (n1 != 0) false, .b (n2 != 0) false, .b (decide ((↑l3.length : Int) > 2)) false, .b (n0 == 8) false, .b ((↑l3.length : Int) == 2) true, .p ((0 : Int) ≤ 0), .p (0 < (↑l3.length : Int)), .e l3 0 [I n4], .p ((0 : Int) ≤ 1), .p (1 < (↑l3.length : Int)), .e l3 1 [I n5], .b (n4 == n5) false, .l [] [93, 92, 91] [] (qaa Tryz.f197 0) (qal l3 0) .ret (qay b6)]) :
 Rt 197 [.agg (nd n0 n1 n2 l3)] [cB b6] :=
 h.of (by kernel_rfl)
theorem qAH (h : Oo [.b (n0 == 2) false, .b (n0 == 3) false, .b (n0 == 4) false, .b (n0 == 1) false, .b (n0 == 5) true, .b (n0 == 5) true, .b (n1 != 0) false, .b (n2 != 0) false, .b (decide ((↑l3.length : Int) > 2)) false, .b (n0 == 8) false, .b ((↑l3.length : Int) == 2) true, .p ((0 : Int) ≤ 0), .p (0 < (↑l3.length : Int)), .e l3 0 [I n4], .p ((0 : Int) ≤ 1), .p (1 < (↑l3.length : Int)), .e l3 1 [I n5], .b (n4 == n5) false, .l [] [93, 92, 91] [] (qaa Tryz.f197 0) (qal l3 0) (.exit 1) qaC]) :
 Rt 197 [.agg (nd n0 n1 n2 l3)] [cB true] :=
 h.of (by kernel_rfl)
theorem qAI (h : Oo [.b (n0 == 2) false, .b (n0 == 3) false, .b (n0 == 4) false, .b (n0 == 1) false, .b (n0 == 5) true, .b (n0 == 5) true, .b (n1 != 0) false, .b (n2 != 0) false, .b (decide ((↑l3.length : Int) > 2)) false, .b (n0 == 8) false, .b ((↑l3.length : Int) == 2) false, .l [] [93, 92, 91] [] (qaa Tryz.f197 0) (qal l3 0) .ret (qay b4)]) :
 Rt 197 [.agg (nd n0 n1 n2 l3)] [cB b4] :=
 h.of (by kernel_rfl)
theorem qAJ (h : Oo [.b (n0 == 2) false, .b (n0 == 3) false, .b (n0 == 4) false, .b (n0 == 1) false, .b (n0 == 5) true, .b (n0 == 5) true, .b (n1 != 0) false, .b (n2 != 0) false, .b (decide ((↑l3.length : Int) > 2)) false, .b (n0 == 8) false, .b ((↑l3.length : Int) == 2) false, .l [] [93, 92, 91] [] (qaa Tryz.f197 0) (qal l3 0) (.exit 1) qaC]) :
 Rt 197 [.agg (nd n0 n1 n2 l3)] [cB true] :=
 h.of (by kernel_rfl)
theorem qAK (h : Oo [.b (n0 == 2) false, .b (n0 == 3) false, .b (n0 == 4) false, .b (n0 == 1) false, .b (n0 == 5) false, .b (n0 == 6) true, .b (n0 == 6) true, .b (n1 != 0) true]) :
 Rt 197 [.agg (nd n0 n1 n2 l3)] [cB false] :=
 h.of (by kernel_rfl)
theorem qAL (h : Oo [.b (n0 == 2) false, .b (n0 == 3) false, .b (n0 == 4) false, .b (n0 == 1) false, .b (n0 == 5) false, .b (n0 == 6) true, .b (n0 == 6) true, .b (n1 != 0) false, .b (n2 != 0) true]) :
 Rt 197 [.agg (nd n0 n1 n2 l3)] [cB false] :=
 h.of (by kernel_rfl)
theorem qAM (h : Oo [.b (n0 == 2) false, .b (n0 == 3) false, .b (n0 == 4) false, .b (n0 == 1) false, .b (n0 == 5) false, .b (n0 == 6) true, .b (n0 == 6) true, .b (n1 != 0) false, .b (n2 != 0) false, .b (decide ((↑l3.length : Int) > 2)) true]) :
 Rt 197 [.agg (nd n0 n1 n2 l3)] [cB false] :=
 h.of (by kernel_rfl)
theorem qAN (h : Oo [.b (n0 == 2) false, .b (n0 == 3) false, .b (n0 == 4) false, .b (n0 == 1) false, .b (n0 == 5) false, .b (n0 == 6) true, .b (n0 == 6) true, .b (n1 != 0) false, .b (n2 != 0) false, .b (decide ((↑l3.length : Int) > 2)) false, .b (n0 == 8) true, .b (decide ((↑l3.length : Int) > 0)) true]) :
 Rt 197 [.agg (nd n0 n1 n2 l3)] [cB false] :=
 h.of (by kernel_rfl)
theorem qAO (h : Oo [.b (n0 == 2) false, .b (n0 == 3) false, .b (n0 == 4) false, .b (n0 == 1) false, .b (n0 == 5) false, .b (n0 == 6) true, .b (n0 == 6) true, .b (n1 != 0) false, .b (n2 != 0) false, .b (decide ((↑l3.length : Int) > 2)) false, .b (n0 == 8) true, .b (decide ((↑l3.length : Int) > 0)) false, .b ((↑l3.length : Int) == 2) true, .p ((0 : Int) ≤ 0), .p (0 < (↑l3.length : Int)), .e l3 0 [I n4], .p ((0 : Int) ≤ 1), .p (1 < (↑l3.length : Int)), .e l3 1 [I n5], .b (n4 == n5) true]) :
 Rt 197 [.agg (nd n0 n1 n2 l3)] [cB false] :=
 h.of (by kernel_rfl)
theorem qAP (h : Oo [.b (n0 == 2) false, .b (n0 == 3) false, .b (n0 == 4) false, .b (n0 == 1) false, .b (n0 == 5) false, .b (n0 == 6) true, .b (n0 == 6) true, .b (n1 != 0) false, .b (n2 != 0) false, .b (decide ((↑l3.length : Int) > 2)) false, .b (n0 == 8) true, .b (decide ((↑l3.length : Int) > 0)) false, .b ((↑l3.length : Int) == 2) true, .p ((0 : Int) ≤ 0), .p (0 < (↑l3.length : Int)), .e l3 0 [I n4], .p ((0 : Int) ≤ 1), .p (1 < (↑l3.length : Int)), .e l3 1 [I n5], .b (n4 == n5) false, .l [] [93, 92, 91] [] (qaa Tryz.f197 0) (qal l3 0) .ret (qay b6)]) :
 Rt 197 [.agg (nd n0 n1 n2 l3)] [cB b6] :=
 h.of (by kernel_rfl)
theorem qAQ (h : Oo [.b (n0 == 2) false, .b (n0 == 3) false, .b (n0 == 4) false, .b (n0 == 1) false, .b (n0 == 5) false, .b (n0 == 6) true, .b (n0 == 6) true, .b (n1 != 0) false, .b (n2 != 0) false, .b (decide ((↑l3.length : Int) > 2)) false, .b (n0 == 8) true, .b (decide ((↑l3.length : Int) > 0)) false, .b ((↑l3.length : Int) == 2) true, .p ((0 : Int) ≤ 0), .p (0 < (↑l3.length : Int)), .e l3 0 [I n4], .p ((0 : Int) ≤ 1), .p (1 < (↑l3.length : Int)), .e l3 1 [I n5], .b (n4 == n5) false, .l [] [93, 92, 91] [] (qaa Tryz.f197 0) (qal l3 0) (.exit 1) qaC]) :
 Rt 197 [.agg (nd n0 n1 n2 l3)] [cB true] :=
 h.of (by kernel_rfl)
theorem qAR (h : Oo [.b (n0 == 2) false, .b (n0 == 3) false, .b (n0 == 4) false, .b (n0 == 1) false, .b (n0 == 5) false, .b (n0 == 6) true, .b (n0 == 6) true, .b (n1 != 0) false, .b (n2 != 0) false, .b (decide ((↑l3.length : Int) > 2)) false, .b (n0 == 8) true, .b (decide ((↑l3.length : Int) > 0)) false, .b ((↑l3.length : Int) == 2) false, .l [] [93, 92, 91] [] (qaa Tryz.f197 0) (qal l3 0) .ret (qay b4)]) :
 Rt 197 [.agg (nd n0 n1 n2 l3)] [cB b4] :=
 h.of (by kernel_rfl)
theorem qAS (h : Oo [.b (n0 == 2) false, .b (n0 == 3) false, .b (n0 == 4) false, .b (n0 == 1) false, .b (n0 == 5) false, .b (n0 == 6) true, .b (n0 == 6) true, .b (n1 != 0) false, .b (n2 != 0) false, .b (decide ((↑l3.length : Int) > 2)) false, .b (n0 == 8) true, .b (decide ((↑l3.length : Int) > 0)) false, .b ((↑l3.length : Int) == 2) false, .l [] [93, 92, 91] [] (qaa Tryz.f197 0) (qal l3 0) (.exit 1) qaC]) :
 Rt 197 [.agg (nd n0 n1 n2 l3)] [cB true] :=
 h.of (by kernel_rfl)
theorem qAT (h : Oo [.b (n0 == 2) false, .b (n0 == 3) false, .b (n0 == 4) false, .b (n0 == 1) false, .b (n0 == 5) false, .b (n0 == 6) true, .b (n0 == 6) true, .b (n1 != 0) false, .b (n2 != 0) false, .b (decide ((↑l3.length : Int) > 2)) false, .b (n0 == 8) false, .b ((↑l3.length : Int) == 2) true, .p ((0 : Int) ≤ 0), .p (0 < (↑l3.length : Int)), .e l3 0 [I n4], .p ((0 : Int) ≤ 1), .p (1 < (↑l3.length : Int)), .e l3 1 [I n5], .b (n4 == n5) true]) :
 Rt 197 [.agg (nd n0 n1 n2 l3)] [cB false] :=
 h.of (by kernel_rfl)
theorem qAU (h : Oo [.b (n0 == 2) false, .b (n0 == 3) false, .b (n0 == 4) false, .b (n0 == 1) false, .b (n0 == 5) false, .b (n0 == 6) true, .b (n0 == 6) true, .b (n1 != 0) false, .b (n2 != 0) false, .b (decide ((↑l3.length : Int) > 2)) false, .b (n0 == 8) false, .b ((↑l3.length : Int) == 2) true, .p ((0 : Int) ≤ 0), .p (0 < (↑l3.length : Int)), .e l3 0 [I n4], .p ((0 : Int) ≤ 1), .p (1 < (↑l3.length : Int)), .e l3 1 [I n5], .b (n4 == n5) false, .l [] [93, 92, 91] [] (qaa Tryz.f197 0) (qal l3 0) .ret (qay b6)]) :
 Rt 197 [.agg (nd n0 n1 n2 l3)] [cB b6] :=
 h.of (by kernel_rfl)
theorem qAV (h : Oo [.b (n0 == 2) false, .b (n0 == 3) false, .b (n0 == 4) false, .b (n0 == 1) false, .b (n0 == 5) false, .b (n0 == 6) true, .b (n0 == 6) true, .b (n1 != 0) false, .b (n2 != 0) false, .b (decide ((↑l3.length : Int) > 2)) false, .b (n0 == 8) false, .b ((↑l3.length : Int) == 2) true, .p ((0 : Int) ≤ 0), .p (0 < (↑l3.length : Int)), .e l3 0 [I n4], .p ((0 : Int) ≤ 1), .p (1 < (↑l3.length : Int)), .e l3 1 [I n5], .b (n4 == n5) false, .l [] [93, 92, 91] [] (qaa Tryz.f197 0) (qal l3 0) (.exit 1) qaC]) :
 Rt 197 [.agg (nd n0 n1 n2 l3)] [cB true] :=
 h.of (by kernel_rfl)
theorem qAW (h : Oo [.b (n0 == 2) false, .b (n0 == 3) false, .b (n0 == 4) false, .b (n0 == 1) false, .b (n0 == 5) false, .b (n0 == 6) true, .b (n0 == 6) true, .b (n1 != 0) false, .b (n2 != 0) false, .b (decide ((↑l3.length : Int) > 2)) false, .b (n0 == 8) false, .b ((↑l3.length : Int) == 2) false, .l [] [93, 92, 91] [] (qaa Tryz.f197 0) (qal l3 0) .ret (qay b4)]) :
 Rt 197 [.agg (nd n0 n1 n2 l3)] [cB b4] :=
 h.of (by kernel_rfl)
theorem qAX (h : Oo [.b (n0 == 2) false, .b (n0 == 3) false, .b (n0 == 4) false, .b (n0 == 1) false, .b (n0 == 5) false, .b (n0 == 6) true, .b (n0 == 6) true, .b (n1 != 0) false, .b (n2 != 0) false, .b (decide ((↑l3.length : Int) > 2)) false, .b (n0 == 8) false, .b ((↑l3.length : Int) == 2) false, .l [] [93, 92, 91] [] (qaa Tryz.f197 0) (qal l3 0) (.exit 1) qaC]) :
 Rt 197 [.agg (nd n0 n1 n2 l3)] [cB true] :=
 h.of (by kernel_rfl)
theorem qAY (h : Oo [.b (n0 == 2) false, .b (n0 == 3) false, .b (n0 == 4) false, .b (n0 == 1) false, .b (n0 == 5) false, .b (n0 == 6) false, .b (n0 == 7) true, .b (n0 == 7) true, .b (n1 != 0) true]) :
 Rt 197 [.agg (nd n0 n1 n2 l3)] [cB false] :=
 h.of (by kernel_rfl)
theorem qAZ (h : Oo [.b (n0 == 2) false, .b (n0 == 3) false, .b (n0 == 4) false, .b (n0 == 1) false, .b (n0 == 5) false, .b (n0 == 6) false, .b (n0 == 7) true, .b (n0 == 7) true, .b (n1 != 0) false, .b (n2 != 0) true]) :
 Rt 197 [.agg (nd n0 n1 n2 l3)] [cB false] :=
 h.of (by kernel_rfl)
theorem qA0 (h : Oo [.b (n0 == 2) false, .b (n0 == 3) false, .b (n0 == 4) false, .b (n0 == 1) false, .b (n0 == 5) false, .b (n0 == 6) false, .b (n0 == 7) true, .b (n0 == 7) true, .b (n1 != 0) false, .b (n2 != 0) false, .b (decide ((↑l3.length : Int) > 2)) true]) :
 Rt 197 [.agg (nd n0 n1 n2 l3)] [cB false] :=
 h.of (by kernel_rfl)
theorem qA1 (h : Oo [.b (n0 == 2) false, .b (n0 == 3) false, .b (n0 == 4) false, .b (n0 == 1) false, .b (n0 == 5) false, .b (n0 == 6) false, .b (n0 == 7) true, .b (n0 == 7) true, .b (n1 != 0) false, .b (n2 != 0) false, .b (decide ((↑l3.length : Int) > 2)) false, .b (n0 == 8) true, .b (decide ((↑l3.length : Int) > 0)) true]) :
 Rt 197 [.agg (nd n0 n1 n2 l3)] [cB false] :=
 h.of (by kernel_rfl)
theorem qA2 (h : Oo [.b (n0 == 2) false, .b (n0 == 3) false, .b (n0 == 4) false, .b (n0 == 1) false, .b (n0 == 5) false, .b (n0 == 6) false, .b (n0 == 7) true, .b (n0 == 7) true, .b (n1 != 0) false, .b (n2 != 0) false, .b (decide ((↑l3.length : Int) > 2)) false, .b (n0 == 8) true, .b (decide ((↑l3.length : Int) > 0)) false, .b ((↑l3.length : Int) == 2) true, .p ((0 : Int) ≤ 0), .p (0 < (↑l3.length : Int)), .e l3 0 [I n4], .p ((0 : Int) ≤ 1), .p (1 < (↑l3.length : Int)), .e l3 1 [I n5], .b (n4 == n5) true]) :
 Rt 197 [.agg (nd n0 n1 n2 l3)] [cB false] :=
 h.of (by kernel_rfl)
theorem qA3 (h : Oo [.b (n0 == 2) false, .b (n0 == 3) false, .b (n0 == 4) false, .b (n0 == 1) false, .b (n0 == 5) false, .b (n0 == 6) false, .b (n0 == 7) true, .b (n0 == 7) true, .b (n1 != 0) false, .b (n2 != 0) false, .b (decide ((↑l3.length : Int) > 2)) false, .b (n0 == 8) true, .b (decide ((↑l3.length : Int) > 0)) false, .b ((↑l3.length : Int) == 2) true, .p ((0 : Int) ≤ 0), .p (0 < (↑l3.length : Int)), .e l3 0 [I n4], .p ((0 : Int) ≤ 1), .p (1 < (↑l3.length : Int)), .e l3 1 [I n5], .b (n4 == n5) false, .l [] [93, 92, 91] [] (qaa Tryz.f197 0) (qal l3 0) .ret (qay b6)]) :
 Rt 197 [.agg (nd n0 n1 n2 l3)] [cB b6] :=
 h.of (by kernel_rfl)
theorem qA4 (h : Oo [.b (n0 == 2) false, .b (n0 == 3) false, .b (n0 == 4) false, .b (n0 == 1) false, .b (n0 == 5) false, .b (n0 == 6) false, .b (n0 == 7) true, .b (n0 == 7) true, .b (n1 != 0) false, .b (n2 != 0) false, .b (decide ((↑l3.length : Int) > 2)) false, .b (n0 == 8) true, .b (decide ((↑l3.length : Int) > 0)) false, .b ((↑l3.length : Int) == 2) true, .p ((0 : Int) ≤ 0), .p (0 < (↑l3.length : Int)), .e l3 0 [I n4], .p ((0 : Int) ≤ 1), .p (1 < (↑l3.length : Int)), .e l3 1 [I n5], .b (n4 == n5) false, .l [] [93, 92, 91] [] (qaa Tryz.f197 0) (qal l3 0) (.exit 1) qaC]) :
 Rt 197 [.agg (nd n0 n1 n2 l3)] [cB true] :=
 h.of (by kernel_rfl)
theorem qA5 (h : Oo [.b (n0 == 2) false, .b (n0 == 3) false, .b (n0 == 4) false, .b (n0 == 1) false, .b (n0 == 5) false, .b (n0 == 6) false, .b (n0 == 7) true, .b (n0 == 7) true, .b (n1 != 0) false, .b (n2 != 0) false, .b (decide ((↑l3.length : Int) > 2)) false, .b (n0 == 8) true, .b (decide ((↑l3.length : Int) > 0)) false, .b ((↑l3.length : Int) == 2) false, .l [] [93, 92, 91] [] (qaa Tryz.f197 0) (qal l3 0) .ret (qay b4)]) :
 Rt 197 [.agg (nd n0 n1 n2 l3)] [cB b4] :=
 h.of (by kernel_rfl)
theorem qA6 (h : Oo [.b (n0 == 2) false, .b (n0 == 3) false, .b (n0 == 4) false, .b (n0 == 1) false, .b (n0 == 5) false, .b (n0 == 6) false, .b (n0 == 7) true, .b (n0 == 7) true, .b (n1 != 0) false, .b (n2 != 0) false, .b (decide ((↑l3.length : Int) > 2)) false, .b (n0 == 8) true, .b (decide ((↑l3.length : Int) > 0)) false, .b ((↑l3.length : Int) == 2) false, .l [] [93, 92, 91] [] (qaa Tryz.f197 0) (qal l3 0) (.exit 1) qaC]) :
 Rt 197 [.agg (nd n0 n1 n2 l3)] [cB true] :=
 h.of (by kernel_rfl)
theorem qA7 (h : Oo [.b (n0 == 2) false, .b (n0 == 3) false, .b (n0 == 4) false, .b (n0 == 1) false, .b (n0 == 5) false, .b (n0 == 6) false, .b (n0 == 7) true, .b (n0 == 7) true, .b (n1 != 0) false, .b (n2 != 0) false, .b (decide ((↑l3.length : Int) > 2)) false, .b (n0 == 8) false, .b ((↑l3.length : Int) == 2) true, .p ((0 : Int) ≤ 0), .p (0 < (↑l3.length : Int)), .e l3 0 [I n4], .p ((0 : Int) ≤ 1), .p (1 < (↑l3.length : Int)), .e l3 1 [I n5], .b (n4 == n5) true]) :
 Rt 197 [.agg (nd n0 n1 n2 l3)] [cB false] :=
 h.of (by kernel_rfl)
theorem qA8 (h : Oo [.b (n0 == 2) false, .b (n0 == 3) false, .b (n0 == 4) false, .b (n0 == 1) false, .b (n0 == 5) false, .b (n0 == 6) false, .b (n0 == 7) true, .b (n0 == 7) true, .b (n1 != 0) false, .b (n2 != 0) false, .b (decide ((↑l3.length : Int) > 2)) false, .b (n0 == 8) false, .b ((↑l3.length : Int) == 2) true, .p ((0 : Int) ≤ 0), .p (0 < (↑l3.length : Int)), .e l3 0 [I n4], .p ((0 : Int) ≤ 1), .p (1 < (↑l3.length : Int)), .e l3 1 [I n5], .b (n4 == n5) false, .l [] [93, 92, 91] [] (qaa Tryz.f197 0) (qal l3 0) .ret (qay b6)]) :
 Rt 197 [.agg (nd n0 n1 n2 l3)] [cB b6] :=
 h.of (by kernel_rfl)
theorem qA9 (h : Oo [.b (n0 == 2) false, .b (n0 == 3) false, .b (n0 == 4) false, .b (n0 == 1) false, .b (n0 == 5) false, .b (n0 == 6) false, .b (n0 == 7) true, .b (n0 == 7) true, .b (n1 != 0) false, .b (n2 != 0) false, .b (decide ((↑l3.length : Int) > 2)) false, .b (n0 == 8) false, .b ((↑l3.length : Int) == 2) true, .p ((0 : Int) ≤ 0), .p (0 < (↑l3.length : Int)), .e l3 0 [I n4], .p ((0 : Int) ≤ 1), .p (1 < (↑l3.length : Int)), .e l3 1 [I n5], .b (n4 == n5) false, .l [] [93, 92, 91] [] (qaa Tryz.f197 0) (qal l3 0) (.exit 1) qaC]) :
 Rt 197 [.agg (nd n0 n1 n2 l3)] [cB true] :=
 h.of (by kernel_rfl)
theorem qBa (h : Oo [.b (n0 == 2) false, .b (n0 == 3) false, .b (n0 == 4) false, .b (n0 == 1) false, .b (n0 == 5) false, .b (n0 == 6) false, .b (n0 == 7) true, .b (n0 == 7) true, .b (n1 != 0) false, .b (n2 != 0) false, .b (decide ((↑l3.length : Int) > 2)) false, .b (n0 == 8) false, .b ((↑l3.length : Int) == 2) false, .l [] [93, 92, 91] [] (qaa Tryz.f197 0) (qal l3 0) .ret (qay b4)]) :
 Rt 197 [.agg (nd n0 n1 n2 l3)] [cB b4] :=
 h.of (by kernel_rfl)
theorem qBb (h : Oo [.b (n0 == 2) false, .b (n0 == 3) false, .b (n0 == 4) false, .b (n0 == 1) false, .b (n0 == 5) false, .b (n0 == 6) false, .b (n0 == 7) true, .b (n0 == 7) true, .b (n1 != 0) false, .b (n2 != 0) false, .b (decide ((↑l3.length : Int) > 2)) false, .b (n0 == 8) false, .b ((↑l3.length : Int) == 2) false, .l [] [93, 92, 91] [] (qaa Tryz.f197 0) (qal l3 0) (.exit 1) qaC]) :
 Rt 197 [.agg (nd n0 n1 n2 l3)] [cB true] :=
 h.of (by kernel_rfl)
theorem qBc (h : Oo [.b (n0 == 2) false, .b (n0 == 3) false, .b (n0 == 4) false, .b (n0 == 1) false, .b (n0 == 5) false, .b (n0 == 6) false, .b (n0 == 7) false, .b (n0 == 8) true, .b (n1 != 0) true]) :
 Rt 197 [.agg (nd n0 n1 n2 l3)] [cB false] :=
 h.of (by kernel_rfl)
theorem qBd (h : Oo [.b (n0 == 2) false, .b (n0 == 3) false, .b (n0 == 4) false, .b (n0 == 1) false, .b (n0 == 5) false, .b (n0 == 6) false, .b (n0 == 7) false, .b (n0 == 8) true, .b (n1 != 0) false, .b (n2 != 0) true]) :
 Rt 197 [.agg (nd n0 n1 n2 l3)] [cB false] :=
 h.of (by kernel_rfl)
theorem qBe (h : Oo [.b (n0 == 2) false, .b (n0 == 3) false, .b (n0 == 4) false, .b (n0 == 1) false, .b (n0 == 5) false, .b (n0 == 6) false, .b (n0 == 7) false, .b (n0 == 8) true, .b (n1 != 0) false, .b (n2 != 0) false, .b (decide ((↑l3.length : Int) > 2)) true]) :
 Rt 197 [.agg (nd n0 n1 n2 l3)] [cB false] :=
 h.of (by kernel_rfl)
theorem qBf (h : Oo [.b (n0 == 2) false, .b (n0 == 3) false, .b (n0 == 4) false, .b (n0 == 1) false, .b (n0 == 5) false, .b (n0 == 6) false, .b (n0 == 7) false, .b (n0 == 8) true, .b (n1 != 0) false, .b (n2 != 0) false, .b (decide ((↑l3.length : Int) > 2)) false, .b (n0 == 8) true, .b (decide ((↑l3.length : Int) > 0)) true]) :
 Rt 197 [.agg (nd n0 n1 n2 l3)] [cB false] :=
 h.of (by kernel_rfl)
theorem qBg (h : Oo [.b (n0 == 2) false, .b (n0 == 3) false, .b (n0 == 4) false, .b (n0 == 1) false, .b (n0 == 5) false, .b (n0 == 6) false, .b (n0 == 7) false, .b (n0 == 8) true, .b (n1 != 0) false, .b (n2 != 0) false, .b (decide ((↑l3.length : Int) > 2)) false, .b (n0 == 8) true, .b (decide ((↑l3.length : Int) > 0)) false, .b ((↑l3.length : Int) == 2) true, .p ((0 : Int) ≤ 0), .p (0 < (↑l3.length : Int)), .e l3 0 [I n4], .p ((0 : Int) ≤ 1), .p (1 < (↑l3.length : Int)), .e l3 1 [I n5], .b (n4 == n5) true]) :
 Rt 197 [.agg (nd n0 n1 n2 l3)] [cB false] :=
 h.of (by kernel_rfl)
theorem qBh (h : Oo [.b (n0 == 2) false, .b (n0 == 3) false, .b (n0 == 4) false, .b (n0 == 1) false, .b (n0 == 5) false, .b (n0 == 6) false, .b (n0 == 7) false, .b (n0 == 8) true, .b (n1 != 0) false, .b (n2 != 0) false, .b (decide ((↑l3.length : Int) > 2)) false, .b (n0 == 8) true, .b (decide ((↑l3.length : Int) > 0)) false, .b ((↑l3.length : Int) == 2) true, .p ((0 : Int) ≤ 0), .p (0 < (↑l3.length : Int)), .e l3 0 [I n4], .p ((0 : Int) ≤ 1), .p (1 < (↑l3.length : Int)), .e l3 1 [I n5], .b (n4 == n5) false, .l [] [93, 92, 91] [] (qaa Tryz.f197 0) (qal l3 0) .ret (qay b6)]) :
 Rt 197 [.agg (nd n0 n1 n2 l3)] [cB b6] :=
 h.of (by kernel_rfl)
theorem qBi (h : Oo [.b (n0 == 2) false, .b (n0 == 3) false, .b (n0 == 4) false, .b (n0 == 1) false, .b (n0 == 5) false, .b (n0 == 6) false, .b (n0 == 7) false, .b (n0 == 8) true, .b (n1 != 0) false, .b (n2 != 0) false, .b (decide ((↑l3.length : Int) > 2)) false, .b (n0 == 8) true, .b (decide ((↑l3.length : Int) > 0)) false, .b ((↑l3.length : Int) == 2) true, .p ((0 : Int) ≤ 0), .p (0 < (↑l3.length : Int)), .e l3 0 [I n4], .p ((0 : Int) ≤ 1), .p (1 < (↑l3.length : Int)), .e l3 1 [I n5], .b (n4 == n5) false, .l [] [93, 92, 91] [] (qaa Tryz.f197 0) (qal l3 0) (.exit 1) qaC]) :
 Rt 197 [.agg (nd n0 n1 n2 l3)] [cB true] :=
 h.of (by kernel_rfl)
theorem qBj (h : Oo [.b (n0 == 2) false, .b (n0 == 3) false, .b (n0 == 4) false, .b (n0 == 1) false, .b (n0 == 5) false, .b (n0 == 6) false, .b (n0 == 7) false, .b (n0 == 8) true, .b (n1 != 0) false, .b (n2 != 0) false, .b (decide ((↑l3.length : Int) > 2)) false, .b (n0 == 8) true, .b (decide ((↑l3.length : Int) > 0)) false, .b ((↑l3.length : Int) == 2) false, .l [] [93, 92, 91] [] (qaa Tryz.f197 0) (qal l3 0) .ret (qay b4)]) :
 Rt 197 [.agg (nd n0 n1 n2 l3)] [cB b4] :=
 h.of (by kernel_rfl)
theorem qBk (h : Oo [.b (n0 == 2) false, .b (n0 == 3) false, .b (n0 == 4) false, .b (n0 == 1) false, .b (n0 == 5) false, .b (n0 == 6) false, .b (n0 == 7) false, .b (n0 == 8) true, .b (n1 != 0) false, .b (n2 != 0) false, .b (decide ((↑l3.length : Int) > 2)) false, .b (n0 == 8) true, .b (decide ((↑l3.length : Int) > 0)) false, .b ((↑l3.length : Int) == 2) false, .l [] [93, 92, 91] [] (qaa Tryz.f197 0) (qal l3 0) (.exit 1) qaC]) :
 Rt 197 [.agg (nd n0 n1 n2 l3)] [cB true] :=
 h.of (by kernel_rfl)
theorem qBl (h : Oo [.b (n0 == 2) false, .b (n0 == 3) false, .b (n0 == 4) false, .b (n0 == 1) false, .b (n0 == 5) false, .b (n0 == 6) false, .b (n0 == 7) false, .b (n0 == 8) false]) :
 Rt 197 [.agg (nd n0 n1 n2 l3)] [cB false] :=
 h.of (by kernel_rfl)
end Go.Proofs.YtdanpadojemjeaaGreat
