import Derived.Test.YtdanpadojemjeaaGreatRows
import Derived.Test.YtdanpadojemjeaaGreatGE
namespace Go.Proofs.YtdanpadojemjeaaGreat
open Go.Sx Go.RowKit
variable {l0 l3 l7 l13 l20 : LL} {n0 n1 n2 n3 n4 n5 n6 n8 n9 n10 n11 n12 n15 n16 n17 n18 n19 : Int} {b2 b3 b4 b5 b6 b7 b8 b14 b15 : Bool}
theorem qx0 (h : Oo [.r 137 [cI (↑l0.length : Int), cI 1, cI 8] [cB b3], .b (!b3) true]) :
 Rt 163 [.agg (gr l0 n1 n2)] [cB false] :=
 h.of (by kernel_rfl)
theorem qx1 (h : Oo [.r 137 [cI (↑l0.length : Int), cI 1, cI 8] [cB b3], .b (!b3) false, .r 137 [cI n1, cI 1, cI 4] [cB b4], .b (!b4) true]) :
 Rt 163 [.agg (gr l0 n1 n2)] [cB false] :=
 h.of (by kernel_rfl)
theorem qx2 (h : Oo [.r 137 [cI (↑l0.length : Int), cI 1, cI 8] [cB b3], .b (!b3) false, .r 137 [cI n1, cI 1, cI 4] [cB b4], .b (!b4) false, .r 137 [cI n2, cI 1, cI 4] [cB b5], .b (!b5) true]) :
 Rt 163 [.agg (gr l0 n1 n2)] [cB false] :=
 h.of (by kernel_rfl)
def qbG (n0 : Int) (l1 : LL) (n2 n3 : Int) : St :=
 { env := envOf 97 [(1, vP 1), (3, vI n0)], boxes := [(1, [.sl .free 4 l1, lI n2, lI n3])] }
def qd0 (b0 : Bool) : St :=
 { env := envOf 97 [(2, .al (.one (.sb b0)))], boxes := [] }
theorem qx3 (h : Oo [.b (decide (n6 < (↑l7.length : Int))) true, .p (0 ≤ n6), .p (n6 < (↑l7.length : Int)), .e l7 n6.toNat (nd n10 n11 n12 l13), .r 220 [.agg (nd n10 n11 n12 l13)] [cB b14], .b (!b14) true]) :
 Tp (qaa Tryz.f163 0) (qbG n6 l7 n8 n9) .ret (qd0 false) :=
 h.lp [2] [] (by kernel_rfl)
theorem qx4 (h : Oo [.b (decide (n6 < (↑l7.length : Int))) true, .p (0 ≤ n6), .p (n6 < (↑l7.length : Int)), .e l7 n6.toNat (nd n10 n11 n12 l13), .r 220 [.agg (nd n10 n11 n12 l13)] [cB b14], .b (!b14) false, .b (!(n10 == 1) == (n6 == 0)) true]) :
 Tp (qaa Tryz.f163 0) (qbG n6 l7 n8 n9) .ret (qd0 false) :=
 h.lp [2] [] (by kernel_rfl)
def qaN (n0 : Int) (l1 : LL) (n2 n3 n4 n5 n6 : Int) (l7 : LL) (n8 : Int) : St :=
 { env := envOf 97 [(1, vP 1), (3, vI n0), (4, vP 4), (5, vI n8)], boxes := [(4, [lI n4, lI n5, lI n6, .sl .free 1 l7]), (1, [.sl .free 4 l1, lI n2, lI n3])] }
def qcC (b0 : Bool) : St :=
 { env := envOf 97 [(2, .al (.one (.sb b0)))], boxes := [] }
theorem qx5 (h : Oo [.b (decide (n15 < (↑l13.length : Int))) true, .p (0 ≤ n15), .p (n15 < (↑l13.length : Int)), .e l13 n15.toNat [I n16], .b (decide (n16 ≥ (↑l7.length : Int))) true]) :
 Tp (qaa Tryz.f163 1) (qaN n6 l7 n8 n9 n10 n11 n12 l13 n15) .ret (qcC false) :=
 h.lp [2] [] (by kernel_rfl)
theorem qx6 (h : Oo [.b (decide (n15 < (↑l13.length : Int))) true, .p (0 ≤ n15), .p (n15 < (↑l13.length : Int)), .e l13 n15.toNat [I n16], .b (decide (n16 ≥ (↑l7.length : Int))) false, .b (n10 != 7) true, .b (decide (n16 ≤ n6)) true]) :
 Tp (qaa Tryz.f163 1) (qaN n6 l7 n8 n9 n10 n11 n12 l13 n15) .ret (qcC false) :=
 h.lp [2] [] (by kernel_rfl)
theorem qx7 (h : Oo [.b (decide (n15 < (↑l13.length : Int))) true, .p (0 ≤ n15), .p (n15 < (↑l13.length : Int)), .e l13 n15.toNat [I n16], .b (decide (n16 ≥ (↑l7.length : Int))) false, .b (n10 != 7) true, .b (decide (n16 ≤ n6)) false, .p (0 ≤ n16), .p (n16 < (↑l7.length : Int)), .e l7 n16.toNat (nd n17 n18 n19 l20), .b (n10 == 7) true, .b (decide (n16 > n6)) true]) :
 Tp (qaa Tryz.f163 1) (qaN n6 l7 n8 n9 n10 n11 n12 l13 n15) .ret (qcC false) :=
 h.lp [2] [] (by kernel_rfl)
theorem qx8 (h : Oo [.b (decide (n15 < (↑l13.length : Int))) true, .p (0 ≤ n15), .p (n15 < (↑l13.length : Int)), .e l13 n15.toNat [I n16], .b (decide (n16 ≥ (↑l7.length : Int))) false, .b (n10 != 7) true, .b (decide (n16 ≤ n6)) false, .p (0 ≤ n16), .p (n16 < (↑l7.length : Int)), .e l7 n16.toNat (nd n17 n18 n19 l20), .b (n10 == 7) true, .b (decide (n16 > n6)) false, .b (n17 != 5) true, .b (n17 != 6) true]) :
 Tp (qaa Tryz.f163 1) (qaN n6 l7 n8 n9 n10 n11 n12 l13 n15) .ret (qcC false) :=
 h.lp [2] [] (by kernel_rfl)
theorem qx9 (h : Oo [.b (decide (n15 < (↑l13.length : Int))) true, .p (0 ≤ n15), .p (n15 < (↑l13.length : Int)), .e l13 n15.toNat [I n16], .b (decide (n16 ≥ (↑l7.length : Int))) false, .b (n10 != 7) true, .b (decide (n16 ≤ n6)) false, .p (0 ≤ n16), .p (n16 < (↑l7.length : Int)), .e l7 n16.toNat (nd n17 n18 n19 l20), .b (n10 == 7) true, .b (decide (n16 > n6)) false, .b (n17 != 5) true, .b (n17 != 6) false, .p (inInt .i64 (n15 + 1))]) :
 Tp (qaa Tryz.f163 1) (qaN n6 l7 n8 n9 n10 n11 n12 l13 n15) .normal (qaN n6 l7 n8 n9 n10 n11 n12 l13 (n15 + 1)) :=
 h.lp [5, 4, 1, 3] [4, 1] (by kernel_rfl)
theorem qya (h : Oo [.b (decide (n15 < (↑l13.length : Int))) true, .p (0 ≤ n15), .p (n15 < (↑l13.length : Int)), .e l13 n15.toNat [I n16], .b (decide (n16 ≥ (↑l7.length : Int))) false, .b (n10 != 7) true, .b (decide (n16 ≤ n6)) false, .p (0 ≤ n16), .p (n16 < (↑l7.length : Int)), .e l7 n16.toNat (nd n17 n18 n19 l20), .b (n10 == 7) true, .b (decide (n16 > n6)) false, .b (n17 != 5) false, .p (inInt .i64 (n15 + 1))]) :
 Tp (qaa Tryz.f163 1) (qaN n6 l7 n8 n9 n10 n11 n12 l13 n15) .normal (qaN n6 l7 n8 n9 n10 n11 n12 l13 (n15 + 1)) :=
 h.lp [5, 4, 1, 3] [4, 1] (by kernel_rfl)
theorem qyb (h : Oo [.b (decide (n15 < (↑l13.length : Int))) true, .p (0 ≤ n15), .p (n15 < (↑l13.length : Int)), .e l13 n15.toNat [I n16], .b (decide (n16 ≥ (↑l7.length : Int))) false, .b (n10 != 7) true, .b (decide (n16 ≤ n6)) false, .p (0 ≤ n16), .p (n16 < (↑l7.length : Int)), .e l7 n16.toNat (nd n17 n18 n19 l20), .b (n10 == 7) false, .p (inInt .i64 (n15 + 1))]) :
 Tp (qaa Tryz.f163 1) (qaN n6 l7 n8 n9 n10 n11 n12 l13 n15) .normal (qaN n6 l7 n8 n9 n10 n11 n12 l13 (n15 + 1)) :=
 h.lp [5, 4, 1, 3] [4, 1] (by kernel_rfl)
theorem qyc (h : Oo [.b (decide (n15 < (↑l13.length : Int))) true, .p (0 ≤ n15), .p (n15 < (↑l13.length : Int)), .e l13 n15.toNat [I n16], .b (decide (n16 ≥ (↑l7.length : Int))) false, .b (n10 != 7) false, .p (0 ≤ n16), .p (n16 < (↑l7.length : Int)), .e l7 n16.toNat (nd n17 n18 n19 l20), .b (n10 == 7) true, .b (decide (n16 > n6)) true]) :
 Tp (qaa Tryz.f163 1) (qaN n6 l7 n8 n9 n10 n11 n12 l13 n15) .ret (qcC false) :=
 h.lp [2] [] (by kernel_rfl)
theorem qyd (h : Oo [.b (decide (n15 < (↑l13.length : Int))) true, .p (0 ≤ n15), .p (n15 < (↑l13.length : Int)), .e l13 n15.toNat [I n16], .b (decide (n16 ≥ (↑l7.length : Int))) false, .b (n10 != 7) false, .p (0 ≤ n16), .p (n16 < (↑l7.length : Int)), .e l7 n16.toNat (nd n17 n18 n19 l20), .b (n10 == 7) true, .b (decide (n16 > n6)) false, .b (n17 != 5) true, .b (n17 != 6) true]) :
 Tp (qaa Tryz.f163 1) (qaN n6 l7 n8 n9 n10 n11 n12 l13 n15) .ret (qcC false) :=
 h.lp [2] [] (by kernel_rfl)
theorem qye (h : Oo [.b (decide (n15 < (↑l13.length : Int))) true, .p (0 ≤ n15), .p (n15 < (↑l13.length : Int)), .e l13 n15.toNat [I n16], .b (decide (n16 ≥ (↑l7.length : Int))) false, .b (n10 != 7) false, .p (0 ≤ n16), .p (n16 < (↑l7.length : Int)), .e l7 n16.toNat (nd n17 n18 n19 l20), .b (n10 == 7) true, .b (decide (n16 > n6)) false, .b (n17 != 5) true, .b (n17 != 6) false, .p (inInt .i64 (n15 + 1))]) :
 Tp (qaa Tryz.f163 1) (qaN n6 l7 n8 n9 n10 n11 n12 l13 n15) .normal (qaN n6 l7 n8 n9 n10 n11 n12 l13 (n15 + 1)) :=
 h.lp [5, 4, 1, 3] [4, 1] (by kernel_rfl)
theorem qyf (h : Oo [.b (decide (n15 < (↑l13.length : Int))) true, .p (0 ≤ n15), .p (n15 < (↑l13.length : Int)), .e l13 n15.toNat [I n16], .b (decide (n16 ≥ (↑l7.length : Int))) false, .b (n10 != 7) false, .p (0 ≤ n16), .p (n16 < (↑l7.length : Int)), .e l7 n16.toNat (nd n17 n18 n19 l20), .b (n10 == 7) true, .b (decide (n16 > n6)) false, .b (n17 != 5) false, .p (inInt .i64 (n15 + 1))]) :
 Tp (qaa Tryz.f163 1) (qaN n6 l7 n8 n9 n10 n11 n12 l13 n15) .normal (qaN n6 l7 n8 n9 n10 n11 n12 l13 (n15 + 1)) :=
 h.lp [5, 4, 1, 3] [4, 1] (by kernel_rfl)
theorem qyg (h : Oo [.b (decide (n15 < (↑l13.length : Int))) true, .p (0 ≤ n15), .p (n15 < (↑l13.length : Int)), .e l13 n15.toNat [I n16], .b (decide (n16 ≥ (↑l7.length : Int))) false, .b (n10 != 7) false, .p (0 ≤ n16), .p (n16 < (↑l7.length : Int)), .e l7 n16.toNat (nd n17 n18 n19 l20), .b (n10 == 7) false, .p (inInt .i64 (n15 + 1))]) :
 Tp (qaa Tryz.f163 1) (qaN n6 l7 n8 n9 n10 n11 n12 l13 n15) .normal (qaN n6 l7 n8 n9 n10 n11 n12 l13 (n15 + 1)) :=
 h.lp [5, 4, 1, 3] [4, 1] (by kernel_rfl)
def qiW (n0 : Int) (l1 : LL) (n2 n3 : Int) : St :=
 { env := envOf 97 [(1, vP 1), (3, vI n0)], boxes := [(1, [.sl .free 4 l1, lI n2, lI n3])] }
theorem qyh (h : Oo [.b (decide (n15 < (↑l13.length : Int))) false]) :
 Tp (qaa Tryz.f163 1) (qaN n6 l7 n8 n9 n10 n11 n12 l13 n15) (.exit 2) (qiW n6 l7 n8 n9) :=
 h.lp [3, 1] [1] (by kernel_rfl)
theorem qyi (h : Oo [.b (decide (n6 < (↑l7.length : Int))) true, .p (0 ≤ n6), .p (n6 < (↑l7.length : Int)), .e l7 n6.toNat (nd n10 n11 n12 l13), .r 220 [.agg (nd n10 n11 n12 l13)] [cB b14], .b (!b14) false, .b (!(n10 == 1) == (n6 == 0)) false, .l [] [5, 4, 1, 3] [4, 1] (qaa Tryz.f163 1) (qaN n6 l7 n8 n9 n10 n11 n12 l13 0) .ret (qcC b15)]) :
 Tp (qaa Tryz.f163 0) (qbG n6 l7 n8 n9) .ret (qd0 b15) :=
 h.lp [2] [] (by kernel_rfl)
theorem qyj (h : Oo [.b (decide (n6 < (↑l7.length : Int))) true, .p (0 ≤ n6), .p (n6 < (↑l7.length : Int)), .e l7 n6.toNat (nd n10 n11 n12 l13), .r 220 [.agg (nd n10 n11 n12 l13)] [cB b14], .b (!b14) false, .b (!(n10 == 1) == (n6 == 0)) false, .l [] [5, 4, 1, 3] [4, 1] (qaa Tryz.f163 1) (qaN n6 l7 n8 n9 n10 n11 n12 l13 0) (.exit 2) (qiW n6 l7 n8 n9), .p (inInt .i64 (n6 + 1))]) :
 Tp (qaa Tryz.f163 0) (qbG n6 l7 n8 n9) .normal (qbG (n6 + 1) l7 n8 n9) :=
 h.lp [3, 1] [1] (by kernel_rfl)
def qiX : St :=
 { env := envOf 97 [], boxes := [] }
theorem qyk (h : Oo [.b (decide (n6 < (↑l7.length : Int))) false]) :
 Tp (qaa Tryz.f163 0) (qbG n6 l7 n8 n9) (.exit 0) qiX :=
 h.lp [] [] (by kernel_rfl)
theorem qyl (h : Oo [.r 137 [cI (↑l0.length : Int), cI 1, cI 8] [cB b3], .b (!b3) false, .r 137 [cI n1, cI 1, cI 4] [cB b4], .b (!b4) false, .r 137 [cI n2, cI 1, cI 4] [cB b5], .b (!b5) false, .l [] [3, 1] [1] (qaa Tryz.f163 0) (qbG 0 l0 n1 n2) .ret (qd0 b6)]) :
 Rt 163 [.agg (gr l0 n1 n2)] [cB b6] :=
 h.of (by kernel_rfl)
theorem qym (h : Oo [.r 137 [cI (↑l0.length : Int), cI 1, cI 8] [cB b3], .b (!b3) false, .r 137 [cI n1, cI 1, cI 4] [cB b4], .b (!b4) false, .r 137 [cI n2, cI 1, cI 4] [cB b5], .b (!b5) false, .l [] [3, 1] [1] (qaa Tryz.f163 0) (qbG 0 l0 n1 n2) (.exit 0) qiX]) :
 Rt 163 [.agg (gr l0 n1 n2)] [cB true] :=
 h.of (by kernel_rfl)
theorem qyn (h : Oo [.r 81 [cI (↑l0.length : Int), cI 1, cI 8] [cB b3], .b (!b3) true]) :
 Rt 122 [.agg (gr l0 n1 n2)] [cB false] :=
 h.of (by kernel_rfl)
theorem qyo (h : Oo [.r 81 [cI (↑l0.length : Int), cI 1, cI 8] [cB b3], .b (!b3) false, .r 81 [cI n1, cI 1, cI 4] [cB b4], .b (!b4) true]) :
 Rt 122 [.agg (gr l0 n1 n2)] [cB false] :=
 h.of (by kernel_rfl)
theorem qyp (h : Oo [.r 81 [cI (↑l0.length : Int), cI 1, cI 8] [cB b3], .b (!b3) false, .r 81 [cI n1, cI 1, cI 4] [cB b4], .b (!b4) false, .r 81 [cI n2, cI 1, cI 4] [cB b5], .b (!b5) true]) :
 Rt 122 [.agg (gr l0 n1 n2)] [cB false] :=
 h.of (by kernel_rfl)
def qbH (l0 : LL) (n1 : Int) (l2 : LL) (n3 n4 : Int) : St :=
 { env := envOf 90 [(1, vP 1), (26, vF 4 l0), (27, vI (↑l0.length : Int)), (28, vI n1)], boxes := [(1, [.sl .free 4 l2, lI n3, lI n4])] }
def qd1 (b0 : Bool) : St :=
 { env := envOf 90 [(2, .al (.one (.sb b0)))], boxes := [] }
theorem qyq (h : Oo [.b (decide (n6 < (↑l0.length : Int))) true, .p (0 ≤ n6), .p (n6 < (↑l0.length : Int)), .e l0 n6.toNat (nd n10 n11 n12 l13), .r 197 [.agg (nd n10 n11 n12 l13)] [cB b14], .b (!b14) true]) :
 Tp (qaa Tryz.f122 0) (qbH l0 n6 l7 n8 n9) .ret (qd1 false) :=
 h.lp [2] [] (by kernel_rfl)
theorem qyr (h : Oo [.b (decide (n6 < (↑l0.length : Int))) true, .p (0 ≤ n6), .p (n6 < (↑l0.length : Int)), .e l0 n6.toNat (nd n10 n11 n12 l13), .r 197 [.agg (nd n10 n11 n12 l13)] [cB b14], .b (!b14) false, .b (!(n10 == 1) == (n6 == 0)) true]) :
 Tp (qaa Tryz.f122 0) (qbH l0 n6 l7 n8 n9) .ret (qd1 false) :=
 h.lp [2] [] (by kernel_rfl)
def qaO (l0 : LL) (n1 : Int) (l2 : LL) (n3 n4 n5 n6 n7 : Int) (l8 : LL) (n9 : Int) : St :=
 { env := envOf 90 [(1, vP 1), (3, vI n1), (4, vP 4), (26, vF 4 l0), (27, vI (↑l0.length : Int)), (28, vI n1), (45, vF 1 l8), (46, vI (↑l8.length : Int)), (47, vI n9)], boxes := [(4, [lI n5, lI n6, lI n7, .sl .free 1 l8]), (1, [.sl .free 4 l2, lI n3, lI n4])] }
def qcD (b0 : Bool) : St :=
 { env := envOf 90 [(2, .al (.one (.sb b0)))], boxes := [] }
theorem qys (h : Oo [.b (decide (n15 < (↑l13.length : Int))) true, .p (0 ≤ n15), .p (n15 < (↑l13.length : Int)), .e l13 n15.toNat [I n16], .b (decide (n16 ≥ (↑l7.length : Int))) true]) :
 Tp (qaa Tryz.f122 1) (qaO l0 n6 l7 n8 n9 n10 n11 n12 l13 n15) .ret (qcD false) :=
 h.lp [2] [] (by kernel_rfl)
theorem qyt (h : Oo [.b (decide (n15 < (↑l13.length : Int))) true, .p (0 ≤ n15), .p (n15 < (↑l13.length : Int)), .e l13 n15.toNat [I n16], .b (decide (n16 ≥ (↑l7.length : Int))) false, .p (0 ≤ n16), .p (n16 < (↑l7.length : Int)), .e l7 n16.toNat (nd n17 n18 n19 l20), .b (n10 == 7) true, .b (decide (n16 > n6)) true]) :
 Tp (qaa Tryz.f122 1) (qaO l0 n6 l7 n8 n9 n10 n11 n12 l13 n15) .ret (qcD false) :=
 h.lp [2] [] (by kernel_rfl)
theorem qyu (h : Oo [.b (decide (n15 < (↑l13.length : Int))) true, .p (0 ≤ n15), .p (n15 < (↑l13.length : Int)), .e l13 n15.toNat [I n16], .b (decide (n16 ≥ (↑l7.length : Int))) false, .p (0 ≤ n16), .p (n16 < (↑l7.length : Int)), .e l7 n16.toNat (nd n17 n18 n19 l20), .b (n10 == 7) true, .b (decide (n16 > n6)) false, .b (n17 != 5) true, .b (n17 != 6) true]) :
 Tp (qaa Tryz.f122 1) (qaO l0 n6 l7 n8 n9 n10 n11 n12 l13 n15) .ret (qcD false) :=
 h.lp [2] [] (by kernel_rfl)
theorem qyv (h : Oo [.b (decide (n15 < (↑l13.length : Int))) true, .p (0 ≤ n15), .p (n15 < (↑l13.length : Int)), .e l13 n15.toNat [I n16], .b (decide (n16 ≥ (↑l7.length : Int))) false, .p (0 ≤ n16), .p (n16 < (↑l7.length : Int)), .e l7 n16.toNat (nd n17 n18 n19 l20), .b (n10 == 7) true, .b (decide (n16 > n6)) false, .b (n17 != 5) true, .b (n17 != 6) false, .b (n10 != 7) true, .b (decide (n16 ≤ n6)) true]) :
 Tp (qaa Tryz.f122 1) (qaO l0 n6 l7 n8 n9 n10 n11 n12 l13 n15) .ret (qcD false) :=
 h.lp [2] [] (by kernel_rfl)
theorem qyw (h : Oo [.b (decide (n15 < (↑l13.length : Int))) true, .p (0 ≤ n15), .p (n15 < (↑l13.length : Int)), .e l13 n15.toNat [I n16], .b (decide (n16 ≥ (↑l7.length : Int))) false, .p (0 ≤ n16), .p (n16 < (↑l7.length : Int)), .e l7 n16.toNat (nd n17 n18 n19 l20), .b (n10 == 7) true, .b (decide (n16 > n6)) false, .b (n17 != 5) true, .b (n17 != 6) false, .b (n10 != 7) true, .b (decide (n16 ≤ n6)) false, .p (inInt .i64 (n15 + 1))]) :
 Tp (qaa Tryz.f122 1) (qaO l0 n6 l7 n8 n9 n10 n11 n12 l13 n15) .normal (qaO l0 n6 l7 n8 n9 n10 n11 n12 l13 (n15 + 1)) :=
 h.lp [47, 46, 45, 1, 4, 3, 28, 27, 26] [4, 1] (by kernel_rfl)
theorem qyx (h : Oo [.b (decide (n15 < (↑l13.length : Int))) true, .p (0 ≤ n15), .p (n15 < (↑l13.length : Int)), .e l13 n15.toNat [I n16], .b (decide (n16 ≥ (↑l7.length : Int))) false, .p (0 ≤ n16), .p (n16 < (↑l7.length : Int)), .e l7 n16.toNat (nd n17 n18 n19 l20), .b (n10 == 7) true, .b (decide (n16 > n6)) false, .b (n17 != 5) true, .b (n17 != 6) false, .b (n10 != 7) false, .p (inInt .i64 (n15 + 1))]) :
 Tp (qaa Tryz.f122 1) (qaO l0 n6 l7 n8 n9 n10 n11 n12 l13 n15) .normal (qaO l0 n6 l7 n8 n9 n10 n11 n12 l13 (n15 + 1)) :=
 h.lp [47, 46, 45, 1, 4, 3, 28, 27, 26] [4, 1] (by kernel_rfl)
theorem qyy (h : Oo [.b (decide (n15 < (↑l13.length : Int))) true, .p (0 ≤ n15), .p (n15 < (↑l13.length : Int)), .e l13 n15.toNat [I n16], .b (decide (n16 ≥ (↑l7.length : Int))) false, .p (0 ≤ n16), .p (n16 < (↑l7.length : Int)), .e l7 n16.toNat (nd n17 n18 n19 l20), .b (n10 == 7) true, .b (decide (n16 > n6)) false, .b (n17 != 5) false, .b (n10 != 7) true, .b (decide (n16 ≤ n6)) true]) :
 Tp (qaa Tryz.f122 1) (qaO l0 n6 l7 n8 n9 n10 n11 n12 l13 n15) .ret (qcD false) :=
 h.lp [2] [] (by kernel_rfl)
theorem qyz (h : Oo [.b (decide (n15 < (↑l13.length : Int))) true, .p (0 ≤ n15), .p (n15 < (↑l13.length : Int)), .e l13 n15.toNat [I n16], .b (decide (n16 ≥ (↑l7.length : Int))) false, .p (0 ≤ n16), .p (n16 < (↑l7.length : Int)), .e l7 n16.toNat (nd n17 n18 n19 l20), .b (n10 == 7) true, .b (decide (n16 > n6)) false, .b (n17 != 5) false, .b (n10 != 7) true, .b (decide (n16 ≤ n6)) false, .p (inInt .i64 (n15 + 1))]) :
 Tp (qaa Tryz.f122 1) (qaO l0 n6 l7 n8 n9 n10 n11 n12 l13 n15) .normal (qaO l0 n6 l7 n8 n9 n10 n11 n12 l13 (n15 + 1)) :=
 h.lp [47, 46, 45, 1, 4, 3, 28, 27, 26] [4, 1] (by kernel_rfl)
theorem qyA (h : Oo [.b (decide (n15 < (↑l13.length : Int))) true, .p (0 ≤ n15), .p (n15 < (↑l13.length : Int)), .e l13 n15.toNat [I n16], .b (decide (n16 ≥ (↑l7.length : Int))) false, .p (0 ≤ n16), .p (n16 < (↑l7.length : Int)), .e l7 n16.toNat (nd n17 n18 n19 l20), .b (n10 == 7) true, .b (decide (n16 > n6)) false, .b (n17 != 5) false, .b (n10 != 7) false, .p (inInt .i64 (n15 + 1))]) :
 Tp (qaa Tryz.f122 1) (qaO l0 n6 l7 n8 n9 n10 n11 n12 l13 n15) .normal (qaO l0 n6 l7 n8 n9 n10 n11 n12 l13 (n15 + 1)) :=
 h.lp [47, 46, 45, 1, 4, 3, 28, 27, 26] [4, 1] (by kernel_rfl)
theorem qyB (h : Oo [.b (decide (n15 < (↑l13.length : Int))) true, .p (0 ≤ n15), .p (n15 < (↑l13.length : Int)), .e l13 n15.toNat [I n16], .b (decide (n16 ≥ (↑l7.length : Int))) false, .p (0 ≤ n16), .p (n16 < (↑l7.length : Int)), .e l7 n16.toNat (nd n17 n18 n19 l20), .b (n10 == 7) false, .b (n10 != 7) true, .b (decide (n16 ≤ n6)) true]) :
 Tp (qaa Tryz.f122 1) (qaO l0 n6 l7 n8 n9 n10 n11 n12 l13 n15) .ret (qcD false) :=
 h.lp [2] [] (by kernel_rfl)
theorem qyC (h : Oo [.b (decide (n15 < (↑l13.length : Int))) true, .p (0 ≤ n15), .p (n15 < (↑l13.length : Int)), .e l13 n15.toNat [I n16], .b (decide (n16 ≥ (↑l7.length : Int))) false, .p (0 ≤ n16), .p (n16 < (↑l7.length : Int)), .e l7 n16.toNat (nd n17 n18 n19 l20), .b (n10 == 7) false, .b (n10 != 7) true, .b (decide (n16 ≤ n6)) false, .p (inInt .i64 (n15 + 1))]) :
 Tp (qaa Tryz.f122 1) (qaO l0 n6 l7 n8 n9 n10 n11 n12 l13 n15) .normal (qaO l0 n6 l7 n8 n9 n10 n11 n12 l13 (n15 + 1)) :=
 h.lp [47, 46, 45, 1, 4, 3, 28, 27, 26] [4, 1] (by kernel_rfl)
theorem qyD (h : Oo [.b (decide (n15 < (↑l13.length : Int))) true, .p (0 ≤ n15), .p (n15 < (↑l13.length : Int)), .e l13 n15.toNat [I n16], .b (decide (n16 ≥ (↑l7.length : Int))) false, .p (0 ≤ n16), .p (n16 < (↑l7.length : Int)), .e l7 n16.toNat (nd n17 n18 n19 l20), .b (n10 == 7) false, .b (n10 != 7) false, .p (inInt .i64 (n15 + 1))]) :
 Tp (qaa Tryz.f122 1) (qaO l0 n6 l7 n8 n9 n10 n11 n12 l13 n15) .normal (qaO l0 n6 l7 n8 n9 n10 n11 n12 l13 (n15 + 1)) :=
 h.lp [47, 46, 45, 1, 4, 3, 28, 27, 26] [4, 1] (by kernel_rfl)
def qiY (l0 : LL) (n1 : Int) (l2 : LL) (n3 n4 : Int) : St :=
 { env := envOf 90 [(1, vP 1), (26, vF 4 l0), (27, vI (↑l0.length : Int)), (28, vI n1)], boxes := [(1, [.sl .free 4 l2, lI n3, lI n4])] }
theorem qyE (h : Oo [.b (decide (n15 < (↑l13.length : Int))) false]) :
 Tp (qaa Tryz.f122 1) (qaO l0 n6 l7 n8 n9 n10 n11 n12 l13 n15) (.exit 2) (qiY l0 n6 l7 n8 n9) :=
 h.lp [28, 27, 26, 1] [1] (by kernel_rfl)
theorem qyF (h : Oo [.b (decide (n6 < (↑l0.length : Int))) true, .p (0 ≤ n6), .p (n6 < (↑l0.length : Int)), .e l0 n6.toNat (nd n10 n11 n12 l13), .r 197 [.agg (nd n10 n11 n12 l13)] [cB b14], .b (!b14) false, .b (!(n10 == 1) == (n6 == 0)) false, .l [] [47, 46, 45, 1, 4, 3, 28, 27, 26] [4, 1] (qaa Tryz.f122 1) (qaO l0 n6 l7 n8 n9 n10 n11 n12 l13 0) .ret (qcD b15)]) :
 Tp (qaa Tryz.f122 0) (qbH l0 n6 l7 n8 n9) .ret (qd1 b15) :=
 h.lp [2] [] (by kernel_rfl)
theorem qyG (h : Oo [.b (decide (n6 < (↑l0.length : Int))) true, .p (0 ≤ n6), .p (n6 < (↑l0.length : Int)), .e l0 n6.toNat (nd n10 n11 n12 l13), .r 197 [.agg (nd n10 n11 n12 l13)] [cB b14], .b (!b14) false, .b (!(n10 == 1) == (n6 == 0)) false, .l [] [47, 46, 45, 1, 4, 3, 28, 27, 26] [4, 1] (qaa Tryz.f122 1) (qaO l0 n6 l7 n8 n9 n10 n11 n12 l13 0) (.exit 2) (qiY l0 n6 l7 n8 n9), .p (inInt .i64 (n6 + 1))]) :
 Tp (qaa Tryz.f122 0) (qbH l0 n6 l7 n8 n9) .normal (qbH l0 (n6 + 1) l7 n8 n9) :=
 h.lp [28, 27, 26, 1] [1] (by kernel_rfl)
def qiZ : St :=
 { env := envOf 90 [], boxes := [] }
theorem qyH (h : Oo [.b (decide (n6 < (↑l0.length : Int))) false]) :
 Tp (qaa Tryz.f122 0) (qbH l0 n6 l7 n8 n9) (.exit 0) qiZ :=
 h.lp [] [] (by kernel_rfl)
theorem qyI (h : Oo [.r 81 [cI (↑l0.length : Int), cI 1, cI 8] [cB b3], .b (!b3) false, .r 81 [cI n1, cI 1, cI 4] [cB b4], .b (!b4) false, .r 81 [cI n2, cI 1, cI 4] [cB b5], .b (!b5) false, .l [] [28, 27, 26, 1] [1] (qaa Tryz.f122 0) (qbH l0 0 l0 n1 n2) .ret (qd1 b6)]) :
 Rt 122 [.agg (gr l0 n1 n2)] [cB b6] :=
 h.of (by kernel_rfl)
theorem qyJ (h : Oo [.r 81 [cI (↑l0.length : Int), cI 1, cI 8] [cB b3], .b (!b3) false, .r 81 [cI n1, cI 1, cI 4] [cB b4], .b (!b4) false, .r 81 [cI n2, cI 1, cI 4] [cB b5], .b (!b5) false, .l [] [28, 27, 26, 1] [1] (qaa Tryz.f122 0) (qbH l0 0 l0 n1 n2) (.exit 0) qiZ]) :
 Rt 122 [.agg (gr l0 n1 n2)] [cB true] :=
 h.of (by kernel_rfl)
theorem qyK (h : Oo [.r 137 [cI n0, cI 0, cI 7] [cB b5], .b b5 true, .r 221 [.agg [I n1, I n2]] [cB b6], .b b6 true, .r 137 [cI n3, cI 0, cI 99] [cB b7], .b b7 true, .r 137 [cI n4, cI 0, cI 999] [cB b8]]) :
 Rt 164 [.agg (ri n0 n1 n2 n3 n4)] [cB b8] :=
 h.of (by kernel_rfl)
theorem qyL (h : Oo [.r 137 [cI n0, cI 0, cI 7] [cB b5], .b b5 true, .r 221 [.agg [I n1, I n2]] [cB b6], .b b6 true, .r 137 [cI n3, cI 0, cI 99] [cB b7], .b b7 false]) :
 Rt 164 [.agg (ri n0 n1 n2 n3 n4)] [cB false] :=
 h.of (by kernel_rfl)
theorem qyM (h : Oo [.r 137 [cI n0, cI 0, cI 7] [cB b5], .b b5 true, .r 221 [.agg [I n1, I n2]] [cB b6], .b b6 false]) :
 Rt 164 [.agg (ri n0 n1 n2 n3 n4)] [cB false] :=
 h.of (by kernel_rfl)
theorem qyN (h : Oo [.r 137 [cI n0, cI 0, cI 7] [cB b5], .b b5 false]) :
 Rt 164 [.agg (ri n0 n1 n2 n3 n4)] [cB false] :=
 h.of (by kernel_rfl)
theorem qyO (h : Oo [.r 81 [cI n0, cI 0, cI 7] [cB b5], .b b5 true, .r 224 [.agg [I n1, I n2]] [cB b6], .b b6 true, .r 225 [cI n3, cI n4] [cB b7]]) :
 Rt 173 [.agg (ri n0 n1 n2 n3 n4)] [cB b7] :=
 h.of (by kernel_rfl)
theorem qyP (h : Oo [.r 81 [cI n0, cI 0, cI 7] [cB b5], .b b5 true, .r 224 [.agg [I n1, I n2]] [cB b6], .b b6 false]) :
 Rt 173 [.agg (ri n0 n1 n2 n3 n4)] [cB false] :=
 h.of (by kernel_rfl)
theorem qyQ (h : Oo [.r 81 [cI n0, cI 0, cI 7] [cB b5], .b b5 false]) :
 Rt 173 [.agg (ri n0 n1 n2 n3 n4)] [cB false] :=
 h.of (by kernel_rfl)
theorem qyR (h : Oo [.r 137 [cI n0, cI 0, cI 3] [cB b2], .b b2 true, .r 137 [cI n1, cI 0, cI 6] [cB b3]]) :
 Rt 221 [.agg [I n0, I n1]] [cB b3] :=
 h.of (by kernel_rfl)
theorem qyS (h : Oo [.r 137 [cI n0, cI 0, cI 3] [cB b2], .b b2 false]) :
 Rt 221 [.agg [I n0, I n1]] [cB false] :=
 h.of (by kernel_rfl)
theorem qyT (h : Oo [.r 81 [cI n0, cI 0, cI 3] [cB b2], .b b2 true, .r 81 [cI n1, cI 0, cI 6] [cB b3]]) :
 Rt 224 [.agg [I n0, I n1]] [cB b3] :=
 h.of (by kernel_rfl)
theorem qyU (h : Oo [.r 81 [cI n0, cI 0, cI 3] [cB b2], .b b2 false]) :
 Rt 224 [.agg [I n0, I n1]] [cB false] :=
 h.of (by kernel_rfl)
theorem qyV (h : Oo [.r 81 [cI n0, cI 0, cI 99] [cB b2], .b b2 true, .r 81 [cI n1, cI 0, cI 999] [cB b3]]) :
 Rt 225 [cI n0, cI n1] [cB b3] :=
 h.of (by kernel_rfl)
theorem qyW (h : Oo [.r 81 [cI n0, cI 0, cI 99] [cB b2], .b b2 false]) :
 Rt 225 [cI n0, cI n1] [cB false] :=
 h.of (by kernel_rfl)
end Go.Proofs.YtdanpadojemjeaaGreat
