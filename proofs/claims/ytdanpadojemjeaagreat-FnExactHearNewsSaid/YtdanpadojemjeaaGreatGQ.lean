import Derived.Test.YtdanpadojemjeaaGreatRows
import Derived.Test.YtdanpadojemjeaaGreatGE
namespace Go.Proofs.YtdanpadojemjeaaGreat
open Go.Sx Go.RowKit
variable {l0 l3 l7 l13 l20 : LL} {n0 n1 n2 n3 n4 n5 n6 n8 n9 n10 n11 n12 n15 n16 n17 n18 n19 : Int} {b2 b3 b4 b5 b6 b7 b8 b14 b15 : Bool}
theorem qwN (h : Oo [.r 137 [cI (↑l0.length : Int), cI 1, cI 8] [cB b3], .b (!b3) true]) :
 Rt 163 [.agg (gr l0 n1 n2)] [cB false] :=
 h.of (by kernel_rfl)
theorem qwO (h : Oo [.r 137 [cI (↑l0.length : Int), cI 1, cI 8] [cB b3], .b (!b3) false, .r 137 [cI n1, cI 1, cI 4] [cB b4], .b (!b4) true]) :
 Rt 163 [.agg (gr l0 n1 n2)] [cB false] :=
 h.of (by kernel_rfl)
theorem qwP (h : Oo [.r 137 [cI (↑l0.length : Int), cI 1, cI 8] [cB b3], .b (!b3) false, .r 137 [cI n1, cI 1, cI 4] [cB b4], .b (!b4) false, .r 137 [cI n2, cI 1, cI 4] [cB b5], .b (!b5) true]) :
 Rt 163 [.agg (gr l0 n1 n2)] [cB false] :=
 h.of (by kernel_rfl)
def qbB (n0 : Int) (l1 : LL) (n2 n3 : Int) : St :=
 { env := envOf 97 [(1, vP 1), (3, vI n0)], boxes := [(1, [.sl .free 4 l1, lI n2, lI n3])] }
def qdR (b0 : Bool) : St :=
 { env := envOf 97 [(2, .al (.one (.sb b0)))], boxes := [] }
theorem qwQ (h : Oo [.b (decide (n6 < (↑l7.length : Int))) true, .p (0 ≤ n6), .p (n6 < (↑l7.length : Int)), .e l7 n6.toNat (nd n10 n11 n12 l13), .r 220 [.agg (nd n10 n11 n12 l13)] [cB b14], .b (!b14) true]) :
 Tp (qaa Tryz.f163 0) (qbB n6 l7 n8 n9) .ret (qdR false) :=
 h.lp [2] [] (by kernel_rfl)
theorem qwR (h : Oo [.b (decide (n6 < (↑l7.length : Int))) true, .p (0 ≤ n6), .p (n6 < (↑l7.length : Int)), .e l7 n6.toNat (nd n10 n11 n12 l13), .r 220 [.agg (nd n10 n11 n12 l13)] [cB b14], .b (!b14) false, .b (!(n10 == 1) == (n6 == 0)) true]) :
 Tp (qaa Tryz.f163 0) (qbB n6 l7 n8 n9) .ret (qdR false) :=
 h.lp [2] [] (by kernel_rfl)
def qaK (n0 : Int) (l1 : LL) (n2 n3 n4 n5 n6 : Int) (l7 : LL) (n8 : Int) : St :=
 { env := envOf 97 [(1, vP 1), (3, vI n0), (4, vP 4), (5, vI n8)], boxes := [(4, [lI n4, lI n5, lI n6, .sl .free 1 l7]), (1, [.sl .free 4 l1, lI n2, lI n3])] }
def qcz (b0 : Bool) : St :=
 { env := envOf 97 [(2, .al (.one (.sb b0)))], boxes := [] }
theorem qwS (h : Oo [.b (decide (n15 < (↑l13.length : Int))) true, .p (0 ≤ n15), .p (n15 < (↑l13.length : Int)), .e l13 n15.toNat [I n16], .b (decide (n16 ≥ (↑l7.length : Int))) true]) :
 Tp (qaa Tryz.f163 1) (qaK n6 l7 n8 n9 n10 n11 n12 l13 n15) .ret (qcz false) :=
 h.lp [2] [] (by kernel_rfl)
theorem qwT (h : Oo [.b (decide (n15 < (↑l13.length : Int))) true, .p (0 ≤ n15), .p (n15 < (↑l13.length : Int)), .e l13 n15.toNat [I n16], .b (decide (n16 ≥ (↑l7.length : Int))) false, .b (n10 != 7) true, .b (decide (n16 ≤ n6)) true]) :
 Tp (qaa Tryz.f163 1) (qaK n6 l7 n8 n9 n10 n11 n12 l13 n15) .ret (qcz false) :=
 h.lp [2] [] (by kernel_rfl)
theorem qwU (h : Oo [.b (decide (n15 < (↑l13.length : Int))) true, .p (0 ≤ n15), .p (n15 < (↑l13.length : Int)), .e l13 n15.toNat [I n16], .b (decide (n16 ≥ (↑l7.length : Int))) false, .b (n10 != 7) true, .b (decide (n16 ≤ n6)) false, .p (0 ≤ n16), .p (n16 < (↑l7.length : Int)), .e l7 n16.toNat (nd n17 n18 n19 l20), .b (n10 == 7) true, .b (decide (n16 > n6)) true]) :
 Tp (qaa Tryz.f163 1) (qaK n6 l7 n8 n9 n10 n11 n12 l13 n15) .ret (qcz false) :=
 h.lp [2] [] (by kernel_rfl)
theorem qwV (h : Oo [.b (decide (n15 < (↑l13.length : Int))) true, .p (0 ≤ n15), .p (n15 < (↑l13.length : Int)), .e l13 n15.toNat [I n16], .b (decide (n16 ≥ (↑l7.length : Int))) false, .b (n10 != 7) true, .b (decide (n16 ≤ n6)) false, .p (0 ≤ n16), .p (n16 < (↑l7.length : Int)), .e l7 n16.toNat (nd n17 n18 n19 l20), .b (n10 == 7) true, .b (decide (n16 > n6)) false, .b (n17 != 5) true, .b (n17 != 6) true]) :
 Tp (qaa Tryz.f163 1) (qaK n6 l7 n8 n9 n10 n11 n12 l13 n15) .ret (qcz false) :=
 h.lp [2] [] (by kernel_rfl)
theorem qwW (h : Oo [.b (decide (n15 < (↑l13.length : Int))) true, .p (0 ≤ n15), .p (n15 < (↑l13.length : Int)), .e l13 n15.toNat [I n16], .b (decide (n16 ≥ (↑l7.length : Int))) false, .b (n10 != 7) true, .b (decide (n16 ≤ n6)) false, .p (0 ≤ n16), .p (n16 < (↑l7.length : Int)), .e l7 n16.toNat (nd n17 n18 n19 l20), .b (n10 == 7) true, .b (decide (n16 > n6)) false, .b (n17 != 5) true, .b (n17 != 6) false, .p (inInt .i64 (n15 + 1))]) :
 Tp (qaa Tryz.f163 1) (qaK n6 l7 n8 n9 n10 n11 n12 l13 n15) .normal (qaK n6 l7 n8 n9 n10 n11 n12 l13 (n15 + 1)) :=
 h.lp [5, 4, 1, 3] [4, 1] (by kernel_rfl)
theorem qwX (h : Oo [.b (decide (n15 < (↑l13.length : Int))) true, .p (0 ≤ n15), .p (n15 < (↑l13.length : Int)), .e l13 n15.toNat [I n16], .b (decide (n16 ≥ (↑l7.length : Int))) false, .b (n10 != 7) true, .b (decide (n16 ≤ n6)) false, .p (0 ≤ n16), .p (n16 < (↑l7.length : Int)), .e l7 n16.toNat (nd n17 n18 n19 l20), .b (n10 == 7) true, .b (decide (n16 > n6)) false, .b (n17 != 5) false, .p (inInt .i64 (n15 + 1))]) :
 Tp (qaa Tryz.f163 1) (qaK n6 l7 n8 n9 n10 n11 n12 l13 n15) .normal (qaK n6 l7 n8 n9 n10 n11 n12 l13 (n15 + 1)) :=
 h.lp [5, 4, 1, 3] [4, 1] (by kernel_rfl)
theorem qwY (h : Oo [.b (decide (n15 < (↑l13.length : Int))) true, .p (0 ≤ n15), .p (n15 < (↑l13.length : Int)), .e l13 n15.toNat [I n16], .b (decide (n16 ≥ (↑l7.length : Int))) false, .b (n10 != 7) true, .b (decide (n16 ≤ n6)) false, .p (0 ≤ n16), .p (n16 < (↑l7.length : Int)), .e l7 n16.toNat (nd n17 n18 n19 l20), .b (n10 == 7) false, .p (inInt .i64 (n15 + 1))]) :
 Tp (qaa Tryz.f163 1) (qaK n6 l7 n8 n9 n10 n11 n12 l13 n15) .normal (qaK n6 l7 n8 n9 n10 n11 n12 l13 (n15 + 1)) :=
 h.lp [5, 4, 1, 3] [4, 1] (by kernel_rfl)
theorem qwZ (h : Oo [.b (decide (n15 < (↑l13.length : Int))) true, .p (0 ≤ n15), .p (n15 < (↑l13.length : Int)), .e l13 n15.toNat [I n16], .b (decide (n16 ≥ (↑l7.length : Int))) false, .b (n10 != 7) false, .p (0 ≤ n16), .p (n16 < (↑l7.length : Int)), .e l7 n16.toNat (nd n17 n18 n19 l20), .b (n10 == 7) true, .b (decide (n16 > n6)) true]) :
 Tp (qaa Tryz.f163 1) (qaK n6 l7 n8 n9 n10 n11 n12 l13 n15) .ret (qcz false) :=
 h.lp [2] [] (by kernel_rfl)
theorem qw0 (h : Oo [.b (decide (n15 < (↑l13.length : Int))) true, .p (0 ≤ n15), .p (n15 < (↑l13.length : Int)), .e l13 n15.toNat [I n16], .b (decide (n16 ≥ (↑l7.length : Int))) false, .b (n10 != 7) false, .p (0 ≤ n16), .p (n16 < (↑l7.length : Int)), .e l7 n16.toNat (nd n17 n18 n19 l20), .b (n10 == 7) true, .b (decide (n16 > n6)) false, .b (n17 != 5) true, .b (n17 != 6) true]) :
 Tp (qaa Tryz.f163 1) (qaK n6 l7 n8 n9 n10 n11 n12 l13 n15) .ret (qcz false) :=
 h.lp [2] [] (by kernel_rfl)
theorem qw1 (h : Oo [.b (decide (n15 < (↑l13.length : Int))) true, .p (0 ≤ n15), .p (n15 < (↑l13.length : Int)), .e l13 n15.toNat [I n16], .b (decide (n16 ≥ (↑l7.length : Int))) false, .b (n10 != 7) false, .p (0 ≤ n16), .p (n16 < (↑l7.length : Int)), .e l7 n16.toNat (nd n17 n18 n19 l20), .b (n10 == 7) true, .b (decide (n16 > n6)) false, .b (n17 != 5) true, .b (n17 != 6) false, .p (inInt .i64 (n15 + 1))]) :
 Tp (qaa Tryz.f163 1) (qaK n6 l7 n8 n9 n10 n11 n12 l13 n15) .normal (qaK n6 l7 n8 n9 n10 n11 n12 l13 (n15 + 1)) :=
 h.lp [5, 4, 1, 3] [4, 1] (by kernel_rfl)
theorem qw2 (h : Oo [.b (decide (n15 < (↑l13.length : Int))) true, .p (0 ≤ n15), .p (n15 < (↑l13.length : Int)), .e l13 n15.toNat [I n16], .b (decide (n16 ≥ (↑l7.length : Int))) false, .b (n10 != 7) false, .p (0 ≤ n16), .p (n16 < (↑l7.length : Int)), .e l7 n16.toNat (nd n17 n18 n19 l20), .b (n10 == 7) true, .b (decide (n16 > n6)) false, .b (n17 != 5) false, .p (inInt .i64 (n15 + 1))]) :
 Tp (qaa Tryz.f163 1) (qaK n6 l7 n8 n9 n10 n11 n12 l13 n15) .normal (qaK n6 l7 n8 n9 n10 n11 n12 l13 (n15 + 1)) :=
 h.lp [5, 4, 1, 3] [4, 1] (by kernel_rfl)
theorem qw3 (h : Oo [.b (decide (n15 < (↑l13.length : Int))) true, .p (0 ≤ n15), .p (n15 < (↑l13.length : Int)), .e l13 n15.toNat [I n16], .b (decide (n16 ≥ (↑l7.length : Int))) false, .b (n10 != 7) false, .p (0 ≤ n16), .p (n16 < (↑l7.length : Int)), .e l7 n16.toNat (nd n17 n18 n19 l20), .b (n10 == 7) false, .p (inInt .i64 (n15 + 1))]) :
 Tp (qaa Tryz.f163 1) (qaK n6 l7 n8 n9 n10 n11 n12 l13 n15) .normal (qaK n6 l7 n8 n9 n10 n11 n12 l13 (n15 + 1)) :=
 h.lp [5, 4, 1, 3] [4, 1] (by kernel_rfl)
def qiJ (n0 : Int) (l1 : LL) (n2 n3 : Int) : St :=
 { env := envOf 97 [(1, vP 1), (3, vI n0)], boxes := [(1, [.sl .free 4 l1, lI n2, lI n3])] }
theorem qw4 (h : Oo [.b (decide (n15 < (↑l13.length : Int))) false]) :
 Tp (qaa Tryz.f163 1) (qaK n6 l7 n8 n9 n10 n11 n12 l13 n15) (.exit 2) (qiJ n6 l7 n8 n9) :=
 h.lp [3, 1] [1] (by kernel_rfl)
theorem qw5 (h : Oo [.b (decide (n6 < (↑l7.length : Int))) true, .p (0 ≤ n6), .p (n6 < (↑l7.length : Int)), .e l7 n6.toNat (nd n10 n11 n12 l13), .r 220 [.agg (nd n10 n11 n12 l13)] [cB b14], .b (!b14) false, .b (!(n10 == 1) == (n6 == 0)) false, .l [] [5, 4, 1, 3] [4, 1] (qaa Tryz.f163 1) (qaK n6 l7 n8 n9 n10 n11 n12 l13 0) .ret (qcz b15)]) :
 Tp (qaa Tryz.f163 0) (qbB n6 l7 n8 n9) .ret (qdR b15) :=
 h.lp [2] [] (by kernel_rfl)
theorem qw6 (h : Oo [.b (decide (n6 < (↑l7.length : Int))) true, .p (0 ≤ n6), .p (n6 < (↑l7.length : Int)), .e l7 n6.toNat (nd n10 n11 n12 l13), .r 220 [.agg (nd n10 n11 n12 l13)] [cB b14], .b (!b14) false, .b (!(n10 == 1) == (n6 == 0)) false, .l [] [5, 4, 1, 3] [4, 1] (qaa Tryz.f163 1) (qaK n6 l7 n8 n9 n10 n11 n12 l13 0) (.exit 2) (qiJ n6 l7 n8 n9), .p (inInt .i64 (n6 + 1))]) :
 Tp (qaa Tryz.f163 0) (qbB n6 l7 n8 n9) .normal (qbB (n6 + 1) l7 n8 n9) :=
 h.lp [3, 1] [1] (by kernel_rfl)
def qiK : St :=
 { env := envOf 97 [], boxes := [] }
theorem qw7 (h : Oo [.b (decide (n6 < (↑l7.length : Int))) false]) :
 Tp (qaa Tryz.f163 0) (qbB n6 l7 n8 n9) (.exit 0) qiK :=
 h.lp [] [] (by kernel_rfl)
theorem qw8 (h : Oo [.r 137 [cI (↑l0.length : Int), cI 1, cI 8] [cB b3], .b (!b3) false, .r 137 [cI n1, cI 1, cI 4] [cB b4], .b (!b4) false, .r 137 [cI n2, cI 1, cI 4] [cB b5], .b (!b5) false, .l [] [3, 1] [1] (qaa Tryz.f163 0) (qbB 0 l0 n1 n2) .ret (qdR b6)]) :
 Rt 163 [.agg (gr l0 n1 n2)] [cB b6] :=
 h.of (by kernel_rfl)
theorem qw9 (h : Oo [.r 137 [cI (↑l0.length : Int), cI 1, cI 8] [cB b3], .b (!b3) false, .r 137 [cI n1, cI 1, cI 4] [cB b4], .b (!b4) false, .r 137 [cI n2, cI 1, cI 4] [cB b5], .b (!b5) false, .l [] [3, 1] [1] (qaa Tryz.f163 0) (qbB 0 l0 n1 n2) (.exit 0) qiK]) :
 Rt 163 [.agg (gr l0 n1 n2)] [cB true] :=
 h.of (by kernel_rfl)
theorem qxa (h : Oo [.r 81 [cI (↑l0.length : Int), cI 1, cI 8] [cB b3], .b (!b3) true]) :
 Rt 122 [.agg (gr l0 n1 n2)] [cB false] :=
 h.of (by kernel_rfl)
theorem qxb (h : Oo [.r 81 [cI (↑l0.length : Int), cI 1, cI 8] [cB b3], .b (!b3) false, .r 81 [cI n1, cI 1, cI 4] [cB b4], .b (!b4) true]) :
 Rt 122 [.agg (gr l0 n1 n2)] [cB false] :=
 h.of (by kernel_rfl)
theorem qxc (h : Oo [.r 81 [cI (↑l0.length : Int), cI 1, cI 8] [cB b3], .b (!b3) false, .r 81 [cI n1, cI 1, cI 4] [cB b4], .b (!b4) false, .r 81 [cI n2, cI 1, cI 4] [cB b5], .b (!b5) true]) :
 Rt 122 [.agg (gr l0 n1 n2)] [cB false] :=
 h.of (by kernel_rfl)
def qbC (l0 : LL) (n1 : Int) (l2 : LL) (n3 n4 : Int) : St :=
 { env := envOf 90 [(1, vP 1), (26, vF 4 l0), (27, vI (↑l0.length : Int)), (28, vI n1)], boxes := [(1, [.sl .free 4 l2, lI n3, lI n4])] }
def qdS (b0 : Bool) : St :=
 { env := envOf 90 [(2, .al (.one (.sb b0)))], boxes := [] }
theorem qxd (h : Oo [.b (decide (n6 < (↑l0.length : Int))) true, .p (0 ≤ n6), .p (n6 < (↑l0.length : Int)), .e l0 n6.toNat (nd n10 n11 n12 l13), .r 197 [.agg (nd n10 n11 n12 l13)] [cB b14], .b (!b14) true]) :
 Tp (qaa Tryz.f122 0) (qbC l0 n6 l7 n8 n9) .ret (qdS false) :=
 h.lp [2] [] (by kernel_rfl)
theorem qxe (h : Oo [.b (decide (n6 < (↑l0.length : Int))) true, .p (0 ≤ n6), .p (n6 < (↑l0.length : Int)), .e l0 n6.toNat (nd n10 n11 n12 l13), .r 197 [.agg (nd n10 n11 n12 l13)] [cB b14], .b (!b14) false, .b (!(n10 == 1) == (n6 == 0)) true]) :
 Tp (qaa Tryz.f122 0) (qbC l0 n6 l7 n8 n9) .ret (qdS false) :=
 h.lp [2] [] (by kernel_rfl)
def qaL (l0 : LL) (n1 : Int) (l2 : LL) (n3 n4 n5 n6 n7 : Int) (l8 : LL) (n9 : Int) : St :=
 { env := envOf 90 [(1, vP 1), (3, vI n1), (4, vP 4), (26, vF 4 l0), (27, vI (↑l0.length : Int)), (28, vI n1), (45, vF 1 l8), (46, vI (↑l8.length : Int)), (47, vI n9)], boxes := [(4, [lI n5, lI n6, lI n7, .sl .free 1 l8]), (1, [.sl .free 4 l2, lI n3, lI n4])] }
def qcA (b0 : Bool) : St :=
 { env := envOf 90 [(2, .al (.one (.sb b0)))], boxes := [] }
theorem qxf (h : Oo [.b (decide (n15 < (↑l13.length : Int))) true, .p (0 ≤ n15), .p (n15 < (↑l13.length : Int)), .e l13 n15.toNat [I n16], .b (decide (n16 ≥ (↑l7.length : Int))) true]) :
 Tp (qaa Tryz.f122 1) (qaL l0 n6 l7 n8 n9 n10 n11 n12 l13 n15) .ret (qcA false) :=
 h.lp [2] [] (by kernel_rfl)
theorem qxg (h : Oo [.b (decide (n15 < (↑l13.length : Int))) true, .p (0 ≤ n15), .p (n15 < (↑l13.length : Int)), .e l13 n15.toNat [I n16], .b (decide (n16 ≥ (↑l7.length : Int))) false, .p (0 ≤ n16), .p (n16 < (↑l7.length : Int)), .e l7 n16.toNat (nd n17 n18 n19 l20), .b (n10 == 7) true, .b (decide (n16 > n6)) true]) :
 Tp (qaa Tryz.f122 1) (qaL l0 n6 l7 n8 n9 n10 n11 n12 l13 n15) .ret (qcA false) :=
 h.lp [2] [] (by kernel_rfl)
theorem qxh (h : Oo [.b (decide (n15 < (↑l13.length : Int))) true, .p (0 ≤ n15), .p (n15 < (↑l13.length : Int)), .e l13 n15.toNat [I n16], .b (decide (n16 ≥ (↑l7.length : Int))) false, .p (0 ≤ n16), .p (n16 < (↑l7.length : Int)), .e l7 n16.toNat (nd n17 n18 n19 l20), .b (n10 == 7) true, .b (decide (n16 > n6)) false, .b (n17 != 5) true, .b (n17 != 6) true]) :
 Tp (qaa Tryz.f122 1) (qaL l0 n6 l7 n8 n9 n10 n11 n12 l13 n15) .ret (qcA false) :=
 h.lp [2] [] (by kernel_rfl)
theorem qxi (h : Oo [.b (decide (n15 < (↑l13.length : Int))) true, .p (0 ≤ n15), .p (n15 < (↑l13.length : Int)), .e l13 n15.toNat [I n16], .b (decide (n16 ≥ (↑l7.length : Int))) false, .p (0 ≤ n16), .p (n16 < (↑l7.length : Int)), .e l7 n16.toNat (nd n17 n18 n19 l20), .b (n10 == 7) true, .b (decide (n16 > n6)) false, .b (n17 != 5) true, .b (n17 != 6) false, .b (n10 != 7) true, .b (decide (n16 ≤ n6)) true]) :
 Tp (qaa Tryz.f122 1) (qaL l0 n6 l7 n8 n9 n10 n11 n12 l13 n15) .ret (qcA false) :=
 h.lp [2] [] (by kernel_rfl)
theorem qxj (h : Oo [.b (decide (n15 < (↑l13.length : Int))) true, .p (0 ≤ n15), .p (n15 < (↑l13.length : Int)), .e l13 n15.toNat [I n16], .b (decide (n16 ≥ (↑l7.length : Int))) false, .p (0 ≤ n16), .p (n16 < (↑l7.length : Int)), .e l7 n16.toNat (nd n17 n18 n19 l20), .b (n10 == 7) true, .b (decide (n16 > n6)) false, .b (n17 != 5) true, .b (n17 != 6) false, .b (n10 != 7) true, .b (decide (n16 ≤ n6)) false, .p (inInt .i64 (n15 + 1))]) :
 Tp (qaa Tryz.f122 1) (qaL l0 n6 l7 n8 n9 n10 n11 n12 l13 n15) .normal (qaL l0 n6 l7 n8 n9 n10 n11 n12 l13 (n15 + 1)) :=
 h.lp [47, 46, 45, 1, 4, 3, 28, 27, 26] [4, 1] (by kernel_rfl)
theorem qxk (h : Oo [.b (decide (n15 < (↑l13.length : Int))) true, .p (0 ≤ n15), .p (n15 < (↑l13.length : Int)), .e l13 n15.toNat [I n16], .b (decide (n16 ≥ (↑l7.length : Int))) false, .p (0 ≤ n16), .p (n16 < (↑l7.length : Int)), .e l7 n16.toNat (nd n17 n18 n19 l20), .b (n10 == 7) true, .b (decide (n16 > n6)) false, .b (n17 != 5) true, .b (n17 != 6) false, .b (n10 != 7) false, .p (inInt .i64 (n15 + 1))]) :
 Tp (qaa Tryz.f122 1) (qaL l0 n6 l7 n8 n9 n10 n11 n12 l13 n15) .normal (qaL l0 n6 l7 n8 n9 n10 n11 n12 l13 (n15 + 1)) :=
 h.lp [47, 46, 45, 1, 4, 3, 28, 27, 26] [4, 1] (by kernel_rfl)
theorem qxl (h : Oo [.b (decide (n15 < (↑l13.length : Int))) true, .p (0 ≤ n15), .p (n15 < (↑l13.length : Int)), .e l13 n15.toNat [I n16], .b (decide (n16 ≥ (↑l7.length : Int))) false, .p (0 ≤ n16), .p (n16 < (↑l7.length : Int)), .e l7 n16.toNat (nd n17 n18 n19 l20), .b (n10 == 7) true, .b (decide (n16 > n6)) false, .b (n17 != 5) false, .b (n10 != 7) true, .b (decide (n16 ≤ n6)) true]) :
 Tp (qaa Tryz.f122 1) (qaL l0 n6 l7 n8 n9 n10 n11 n12 l13 n15) .ret (qcA false) :=
 h.lp [2] [] (by kernel_rfl)
theorem qxm (h : Oo [.b (decide (n15 < (↑l13.length : Int))) true, .p (0 ≤ n15), .p (n15 < (↑l13.length : Int)), .e l13 n15.toNat [I n16], .b (decide (n16 ≥ (↑l7.length : Int))) false, .p (0 ≤ n16), .p (n16 < (↑l7.length : Int)), .e l7 n16.toNat (nd n17 n18 n19 l20), .b (n10 == 7) true, .b (decide (n16 > n6)) false, .b (n17 != 5) false, .b (n10 != 7) true, .b (decide (n16 ≤ n6)) false, .p (inInt .i64 (n15 + 1))]) :
 Tp (qaa Tryz.f122 1) (qaL l0 n6 l7 n8 n9 n10 n11 n12 l13 n15) .normal (qaL l0 n6 l7 n8 n9 n10 n11 n12 l13 (n15 + 1)) :=
 h.lp [47, 46, 45, 1, 4, 3, 28, 27, 26] [4, 1] (by kernel_rfl)
theorem qxn (h : Oo [.b (decide (n15 < (↑l13.length : Int))) true, .p (0 ≤ n15), .p (n15 < (↑l13.length : Int)), .e l13 n15.toNat [I n16], .b (decide (n16 ≥ (↑l7.length : Int))) false, .p (0 ≤ n16), .p (n16 < (↑l7.length : Int)), .e l7 n16.toNat (nd n17 n18 n19 l20), .b (n10 == 7) true, .b (decide (n16 > n6)) false, .b (n17 != 5) false, .b (n10 != 7) false, .p (inInt .i64 (n15 + 1))]) :
 Tp (qaa Tryz.f122 1) (qaL l0 n6 l7 n8 n9 n10 n11 n12 l13 n15) .normal (qaL l0 n6 l7 n8 n9 n10 n11 n12 l13 (n15 + 1)) :=
 h.lp [47, 46, 45, 1, 4, 3, 28, 27, 26] [4, 1] (by kernel_rfl)
theorem qxo (h : Oo [.b (decide (n15 < (↑l13.length : Int))) true, .p (0 ≤ n15), .p (n15 < (↑l13.length : Int)), .e l13 n15.toNat [I n16], .b (decide (n16 ≥ (↑l7.length : Int))) false, .p (0 ≤ n16), .p (n16 < (↑l7.length : Int)), .e l7 n16.toNat (nd n17 n18 n19 l20), .b (n10 == 7) false, .b (n10 != 7) true, .b (decide (n16 ≤ n6)) true]) :
 Tp (qaa Tryz.f122 1) (qaL l0 n6 l7 n8 n9 n10 n11 n12 l13 n15) .ret (qcA false) :=
 h.lp [2] [] (by kernel_rfl)
theorem qxp (h : Oo [.b (decide (n15 < (↑l13.length : Int))) true, .p (0 ≤ n15), .p (n15 < (↑l13.length : Int)), .e l13 n15.toNat [I n16], .b (decide (n16 ≥ (↑l7.length : Int))) false, .p (0 ≤ n16), .p (n16 < (↑l7.length : Int)), .e l7 n16.toNat (nd n17 n18 n19 l20), .b (n10 == 7) false, .b (n10 != 7) true, .b (decide (n16 ≤ n6)) false, .p (inInt .i64 (n15 + 1))]) :
 Tp (qaa Tryz.f122 1) (qaL l0 n6 l7 n8 n9 n10 n11 n12 l13 n15) .normal (qaL l0 n6 l7 n8 n9 n10 n11 n12 l13 (n15 + 1)) :=
 h.lp [47, 46, 45, 1, 4, 3, 28, 27, 26] [4, 1] (by kernel_rfl)
theorem qxq (h : Oo [.b (decide (n15 < (↑l13.length : Int))) true, .p (0 ≤ n15), .p (n15 < (↑l13.length : Int)), .e l13 n15.toNat [I n16], .b (decide (n16 ≥ (↑l7.length : Int))) false, .p (0 ≤ n16), .p (n16 < (↑l7.length : Int)), .e l7 n16.toNat (nd n17 n18 n19 l20), .b (n10 == 7) false, .b (n10 != 7) false, .p (inInt .i64 (n15 + 1))]) :
 Tp (qaa Tryz.f122 1) (qaL l0 n6 l7 n8 n9 n10 n11 n12 l13 n15) .normal (qaL l0 n6 l7 n8 n9 n10 n11 n12 l13 (n15 + 1)) :=
 h.lp [47, 46, 45, 1, 4, 3, 28, 27, 26] [4, 1] (by kernel_rfl)
def qiL (l0 : LL) (n1 : Int) (l2 : LL) (n3 n4 : Int) : St :=
 { env := envOf 90 [(1, vP 1), (26, vF 4 l0), (27, vI (↑l0.length : Int)), (28, vI n1)], boxes := [(1, [.sl .free 4 l2, lI n3, lI n4])] }
theorem qxr (h : Oo [.b (decide (n15 < (↑l13.length : Int))) false]) :
 Tp (qaa Tryz.f122 1) (qaL l0 n6 l7 n8 n9 n10 n11 n12 l13 n15) (.exit 2) (qiL l0 n6 l7 n8 n9) :=
 h.lp [28, 27, 26, 1] [1] (by kernel_rfl)
theorem qxs (h : Oo [.b (decide (n6 < (↑l0.length : Int))) true, .p (0 ≤ n6), .p (n6 < (↑l0.length : Int)), .e l0 n6.toNat (nd n10 n11 n12 l13), .r 197 [.agg (nd n10 n11 n12 l13)] [cB b14], .b (!b14) false, .b (!(n10 == 1) == (n6 == 0)) false, .l [] [47, 46, 45, 1, 4, 3, 28, 27, 26] [4, 1] (qaa Tryz.f122 1) (qaL l0 n6 l7 n8 n9 n10 n11 n12 l13 0) .ret (qcA b15)]) :
 Tp (qaa Tryz.f122 0) (qbC l0 n6 l7 n8 n9) .ret (qdS b15) :=
 h.lp [2] [] (by kernel_rfl)
theorem qxt (h : Oo [.b (decide (n6 < (↑l0.length : Int))) true, .p (0 ≤ n6), .p (n6 < (↑l0.length : Int)), .e l0 n6.toNat (nd n10 n11 n12 l13), .r 197 [.agg (nd n10 n11 n12 l13)] [cB b14], .b (!b14) false, .b (!(n10 == 1) == (n6 == 0)) false, .l [] [47, 46, 45, 1, 4, 3, 28, 27, 26] [4, 1] (qaa Tryz.f122 1) (qaL l0 n6 l7 n8 n9 n10 n11 n12 l13 0) (.exit 2) (qiL l0 n6 l7 n8 n9), .p (inInt .i64 (n6 + 1))]) :
 Tp (qaa Tryz.f122 0) (qbC l0 n6 l7 n8 n9) .normal (qbC l0 (n6 + 1) l7 n8 n9) :=
 h.lp [28, 27, 26, 1] [1] (by kernel_rfl)
def qiM : St :=
 { env := envOf 90 [], boxes := [] }
theorem qxu (h : Oo [.b (decide (n6 < (↑l0.length : Int))) false]) :
 Tp (qaa Tryz.f122 0) (qbC l0 n6 l7 n8 n9) (.exit 0) qiM :=
 h.lp [] [] (by kernel_rfl)
theorem qxv (h : Oo [.r 81 [cI (↑l0.length : Int), cI 1, cI 8] [cB b3], .b (!b3) false, .r 81 [cI n1, cI 1, cI 4] [cB b4], .b (!b4) false, .r 81 [cI n2, cI 1, cI 4] [cB b5], .b (!b5) false, .l [] [28, 27, 26, 1] [1] (qaa Tryz.f122 0) (qbC l0 0 l0 n1 n2) .ret (qdS b6)]) :
 Rt 122 [.agg (gr l0 n1 n2)] [cB b6] :=
 h.of (by kernel_rfl)
theorem qxw (h : Oo [.r 81 [cI (↑l0.length : Int), cI 1, cI 8] [cB b3], .b (!b3) false, .r 81 [cI n1, cI 1, cI 4] [cB b4], .b (!b4) false, .r 81 [cI n2, cI 1, cI 4] [cB b5], .b (!b5) false, .l [] [28, 27, 26, 1] [1] (qaa Tryz.f122 0) (qbC l0 0 l0 n1 n2) (.exit 0) qiM]) :
 Rt 122 [.agg (gr l0 n1 n2)] [cB true] :=
 h.of (by kernel_rfl)
theorem qxx (h : Oo [.r 137 [cI n0, cI 0, cI 7] [cB b5], .b b5 true, .r 221 [.agg [I n1, I n2]] [cB b6], .b b6 true, .r 137 [cI n3, cI 0, cI 99] [cB b7], .b b7 true, .r 137 [cI n4, cI 0, cI 999] [cB b8]]) :
 Rt 164 [.agg (ri n0 n1 n2 n3 n4)] [cB b8] :=
 h.of (by kernel_rfl)
theorem qxy (h : Oo [.r 137 [cI n0, cI 0, cI 7] [cB b5], .b b5 true, .r 221 [.agg [I n1, I n2]] [cB b6], .b b6 true, .r 137 [cI n3, cI 0, cI 99] [cB b7], .b b7 false]) :
 Rt 164 [.agg (ri n0 n1 n2 n3 n4)] [cB false] :=
 h.of (by kernel_rfl)
theorem qxz (h : Oo [.r 137 [cI n0, cI 0, cI 7] [cB b5], .b b5 true, .r 221 [.agg [I n1, I n2]] [cB b6], .b b6 false]) :
 Rt 164 [.agg (ri n0 n1 n2 n3 n4)] [cB false] :=
 h.of (by kernel_rfl)
theorem qxA (h : Oo [.r 137 [cI n0, cI 0, cI 7] [cB b5], .b b5 false]) :
 Rt 164 [.agg (ri n0 n1 n2 n3 n4)] [cB false] :=
 h.of (by kernel_rfl)
theorem qxB (h : Oo [.r 81 [cI n0, cI 0, cI 7] [cB b5], .b b5 true, .r 224 [.agg [I n1, I n2]] [cB b6], .b b6 true, .r 225 [cI n3, cI n4] [cB b7]]) :
 Rt 173 [.agg (ri n0 n1 n2 n3 n4)] [cB b7] :=
 h.of (by kernel_rfl)
theorem qxC (h : Oo [.r 81 [cI n0, cI 0, cI 7] [cB b5], .b b5 true, .r 224 [.agg [I n1, I n2]] [cB b6], .b b6 false]) :
 Rt 173 [.agg (ri n0 n1 n2 n3 n4)] [cB false] :=
 h.of (by kernel_rfl)
theorem qxD (h : Oo [.r 81 [cI n0, cI 0, cI 7] [cB b5], .b b5 false]) :
 Rt 173 [.agg (ri n0 n1 n2 n3 n4)] [cB false] :=
 h.of (by kernel_rfl)
theorem qxE (h : Oo [.r 137 [cI n0, cI 0, cI 3] [cB b2], .b b2 true, .r 137 [cI n1, cI 0, cI 6] [cB b3]]) :
 Rt 221 [.agg [I n0, I n1]] [cB b3] :=
 h.of (by kernel_rfl)
theorem qxF (h : Oo [.r 137 [cI n0, cI 0, cI 3] [cB b2], .b b2 false]) :
 Rt 221 [.agg [I n0, I n1]] [cB false] :=
 h.of (by kernel_rfl)
theorem qxG (h : Oo [.r 81 [cI n0, cI 0, cI 3] [cB b2], .b b2 true, .r 81 [cI n1, cI 0, cI 6] [cB b3]]) :
 Rt 224 [.agg [I n0, I n1]] [cB b3] :=
 h.of (by kernel_rfl)
theorem qxH (h : Oo [.r 81 [cI n0, cI 0, cI 3] [cB b2], .b b2 false]) :
 Rt 224 [.agg [I n0, I n1]] [cB false] :=
 h.of (by kernel_rfl)
theorem qxI (h : Oo [.r 81 [cI n0, cI 0, cI 99] [cB b2], .b b2 true, .r 81 [cI n1, cI 0, cI 999] [cB b3]]) :
 Rt 225 [cI n0, cI n1] [cB b3] :=
 h.of (by kernel_rfl)
theorem qxJ (h : Oo [.r 81 [cI n0, cI 0, cI 99] [cB b2], .b b2 false]) :
 Rt 225 [cI n0, cI n1] [cB false] :=
 h.of (by kernel_rfl)
end Go.Proofs.YtdanpadojemjeaaGreat
