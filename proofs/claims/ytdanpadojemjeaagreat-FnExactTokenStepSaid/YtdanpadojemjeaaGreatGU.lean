import Derived.Test.YtdanpadojemjeaaGreatRows
import Derived.Test.YtdanpadojemjeaaGreatGE
namespace Go.Proofs.YtdanpadojemjeaaGreat
open Go.Sx Go.RowKit
variable {n0 n1 n2 n3 n4 n5 n6 n7 n8 n9 n10 n11 n12 n13 n14 n15 n16 n17 n18 n19 n20 n21 n22 n23 n24 n25 n26 n27 n28 n29 n30 n31 n32 n33 n34 n35 : Int} {l0 l1 l3 l4 l5 l6 l7 l8 l9 l10 l11 l12 l13 l14 l15 l16 l17 l18 l19 l20 l21 l22 l23 l24 l25 l26 l27 l28 l29 l30 l31 : LL} {b1 b4 b6 b7 b8 b9 b10 b11 b12 b13 b14 b15 b16 b17 b18 b19 b20 b21 b22 b23 b24 b25 b26 b27 b29 b30 b31 b32 b33 b34 b35 b36 b37 : Bool}
def qc9 (l0 : LL) (n1 : Int) : St :=
 { env := envOf 21 [(0, vF 4 l0), (3, vI n1)], boxes := [] }
def qiJ (b0 : Bool) : St :=
 { env := envOf 21 [(2, .al (.one (.sb b0)))], boxes := [] }
theorem qvt (h : Oo [.b (decide (n1 < (↑l0.length : Int))) true, .p (inInt .i64 (n1 - 1)), .p (0 ≤ n1 - 1), .p (n1 - 1 < (↑l0.length : Int)), .e l0 ((n1 - 1).toNat) [I n2, I n3, I n4, I n5], .p (0 ≤ n1), .p (n1 < (↑l0.length : Int)), .e l0 n1.toNat [I n6, I n7, I n8, I n9], .r 243 [.agg [I n2, I n3, I n4, I n5], .agg [I n6, I n7, I n8, I n9]] [cI n10], .b (decide (n10 ≥ 0)) true]) :
 Tp (qaa Tryz.f227 0) (qc9 l0 n1) .ret (qiJ false) :=
 h.lp [2] [] (by kernel_rfl)
theorem qvu (h : Oo [.b (decide (n1 < (↑l0.length : Int))) true, .p (inInt .i64 (n1 - 1)), .p (0 ≤ n1 - 1), .p (n1 - 1 < (↑l0.length : Int)), .e l0 ((n1 - 1).toNat) [I n2, I n3, I n4, I n5], .p (0 ≤ n1), .p (n1 < (↑l0.length : Int)), .e l0 n1.toNat [I n6, I n7, I n8, I n9], .r 243 [.agg [I n2, I n3, I n4, I n5], .agg [I n6, I n7, I n8, I n9]] [cI n10], .b (decide (n10 ≥ 0)) false, .p (inInt .i64 (n1 + 1))]) :
 Tp (qaa Tryz.f227 0) (qc9 l0 n1) .normal (qc9 l0 (n1 + 1)) :=
 h.lp [3, 0] [] (by kernel_rfl)
def qmf : St :=
 { env := envOf 21 [], boxes := [] }
theorem qvv (h : Oo [.b (decide (n1 < (↑l0.length : Int))) false]) :
 Tp (qaa Tryz.f227 0) (qc9 l0 n1) (.exit 0) qmf :=
 h.lp [] [] (by kernel_rfl)
theorem qvw (h : Oo [.l [] [3, 0] [] (qaa Tryz.f227 0) (qc9 l0 1) .ret (qiJ b1)]) :
 Rt 227 [cS 4 l0] [cB b1] :=
 h.of (by kernel_rfl)
theorem qvx (h : Oo [.l [] [3, 0] [] (qaa Tryz.f227 0) (qc9 l0 1) (.exit 0) qmf]) :
 Rt 227 [cS 4 l0] [cB true] :=
 h.of (by kernel_rfl)
def qda (l0 : LL) (n1 : Int) : St :=
 { env := envOf 21 [(0, vF 4 l0), (3, vI n1)], boxes := [] }
def qiK (b0 : Bool) : St :=
 { env := envOf 21 [(2, .al (.one (.sb b0)))], boxes := [] }
theorem qvy (h : Oo [.b (decide (n1 < (↑l0.length : Int))) true, .p (inInt .i64 (n1 - 1)), .p (0 ≤ n1 - 1), .p (n1 - 1 < (↑l0.length : Int)), .e l0 ((n1 - 1).toNat) [I n2, I n3, I n4, I n5], .p (0 ≤ n1), .p (n1 < (↑l0.length : Int)), .e l0 n1.toNat [I n6, I n7, I n8, I n9], .r 230 [.agg [I n2, I n3, I n4, I n5], .agg [I n6, I n7, I n8, I n9]] [cI n10], .b (decide (n10 ≥ 0)) true]) :
 Tp (qaa Tryz.f198 0) (qda l0 n1) .ret (qiK false) :=
 h.lp [2] [] (by kernel_rfl)
theorem qvz (h : Oo [.b (decide (n1 < (↑l0.length : Int))) true, .p (inInt .i64 (n1 - 1)), .p (0 ≤ n1 - 1), .p (n1 - 1 < (↑l0.length : Int)), .e l0 ((n1 - 1).toNat) [I n2, I n3, I n4, I n5], .p (0 ≤ n1), .p (n1 < (↑l0.length : Int)), .e l0 n1.toNat [I n6, I n7, I n8, I n9], .r 230 [.agg [I n2, I n3, I n4, I n5], .agg [I n6, I n7, I n8, I n9]] [cI n10], .b (decide (n10 ≥ 0)) false, .p (inInt .i64 (n1 + 1))]) :
 Tp (qaa Tryz.f198 0) (qda l0 n1) .normal (qda l0 (n1 + 1)) :=
 h.lp [3, 0] [] (by kernel_rfl)
def qmg : St :=
 { env := envOf 21 [], boxes := [] }
theorem qvA (h : Oo [.b (decide (n1 < (↑l0.length : Int))) false]) :
 Tp (qaa Tryz.f198 0) (qda l0 n1) (.exit 0) qmg :=
 h.lp [] [] (by kernel_rfl)
theorem qvB (h : Oo [.l [] [3, 0] [] (qaa Tryz.f198 0) (qda l0 1) .ret (qiK b1)]) :
 Rt 198 [cS 4 l0] [cB b1] :=
 h.of (by kernel_rfl)
theorem qvC (h : Oo [.l [] [3, 0] [] (qaa Tryz.f198 0) (qda l0 1) (.exit 0) qmg]) :
 Rt 198 [cS 4 l0] [cB true] :=
 h.of (by kernel_rfl)
def qdb (l0 : LL) (n1 n2 : Int) (l3 : LL) (n4 : Int) : St :=
 { env := envOf 29 [(1, vF 5 l3), (2, vP 2), (5, vI n4)], boxes := [(2, [.sl .free 4 l0, lI n1, lI n2])] }
def qgE (b0 : Bool) : St :=
 { env := envOf 29 [(4, .al (.one (.sb b0)))], boxes := [] }
theorem qvD (h : Oo [.b (decide (n4 < (↑l3.length : Int))) true, .p (0 ≤ n4), .p (n4 < (↑l3.length : Int)), .e l3 n4.toNat (ri n5 n6 n7 n8 n9), .r 164 [.agg (ri n5 n6 n7 n8 n9)] [cB b10], .b (!b10) true]) :
 Tp (qaa Tryz.f189 0) (qdb l0 n1 n2 l3 n4) .ret (qgE false) :=
 h.lp [4] [] (by kernel_rfl)
theorem qvE (h : Oo [.b (decide (n4 < (↑l3.length : Int))) true, .p (0 ≤ n4), .p (n4 < (↑l3.length : Int)), .e l3 n4.toNat (ri n5 n6 n7 n8 n9), .r 164 [.agg (ri n5 n6 n7 n8 n9)] [cB b10], .b (!b10) false, .p (0 ≤ n4), .p (n4 < (↑l3.length : Int)), .e l3 n4.toNat (ri n11 n12 n13 n14 n15), .b (decide (n11 ≥ (↑l0.length : Int))) true]) :
 Tp (qaa Tryz.f189 0) (qdb l0 n1 n2 l3 n4) .ret (qgE false) :=
 h.lp [4] [] (by kernel_rfl)
theorem qvF (h : Oo [.b (decide (n4 < (↑l3.length : Int))) true, .p (0 ≤ n4), .p (n4 < (↑l3.length : Int)), .e l3 n4.toNat (ri n5 n6 n7 n8 n9), .r 164 [.agg (ri n5 n6 n7 n8 n9)] [cB b10], .b (!b10) false, .p (0 ≤ n4), .p (n4 < (↑l3.length : Int)), .e l3 n4.toNat (ri n11 n12 n13 n14 n15), .b (decide (n11 ≥ (↑l0.length : Int))) false, .p (inInt .i64 (n4 + 1))]) :
 Tp (qaa Tryz.f189 0) (qdb l0 n1 n2 l3 n4) .normal (qdb l0 n1 n2 l3 (n4 + 1)) :=
 h.lp [5, 1, 2] [2] (by kernel_rfl)
def qmh : St :=
 { env := envOf 29 [], boxes := [] }
theorem qvG (h : Oo [.b (decide (n4 < (↑l3.length : Int))) false]) :
 Tp (qaa Tryz.f189 0) (qdb l0 n1 n2 l3 n4) (.exit 0) qmh :=
 h.lp [] [] (by kernel_rfl)
theorem qvH (h : Oo [.l [] [5, 1, 2] [2] (qaa Tryz.f189 0) (qdb l0 n1 n2 l3 0) .ret (qgE b4)]) :
 Rt 189 [.agg (gr l0 n1 n2), cS 5 l3] [cB b4] :=
 h.of (by kernel_rfl)
theorem qvI (h : Oo [.l [] [5, 1, 2] [2] (qaa Tryz.f189 0) (qdb l0 n1 n2 l3 0) (.exit 0) qmh]) :
 Rt 189 [.agg (gr l0 n1 n2), cS 5 l3] [cB true] :=
 h.of (by kernel_rfl)
def qdc (l0 : LL) (n1 : Int) (l2 : LL) (n3 n4 : Int) : St :=
 { env := envOf 24 [(2, vP 2), (7, vF 5 l0), (8, vI (↑l0.length : Int)), (9, vI n1)], boxes := [(2, [.sl .free 4 l2, lI n3, lI n4])] }
def qgF (b0 : Bool) : St :=
 { env := envOf 24 [(4, .al (.one (.sb b0)))], boxes := [] }
theorem qvJ (h : Oo [.b (decide (n4 < (↑l3.length : Int))) true, .p (0 ≤ n4), .p (n4 < (↑l3.length : Int)), .e l3 n4.toNat (ri n8 n9 n10 n11 n12), .r 173 [.agg (ri n8 n9 n10 n11 n12)] [cB b13], .b (!b13) true]) :
 Tp (qaa Tryz.f125 0) (qdc l3 n4 l5 n6 n7) .ret (qgF false) :=
 h.lp [4] [] (by kernel_rfl)
theorem qvK (h : Oo [.b (decide (n4 < (↑l3.length : Int))) true, .p (0 ≤ n4), .p (n4 < (↑l3.length : Int)), .e l3 n4.toNat (ri n8 n9 n10 n11 n12), .r 173 [.agg (ri n8 n9 n10 n11 n12)] [cB b13], .b (!b13) false, .r 200 [.agg (gr l5 n6 n7), cI n8] [cB b14], .b (!b14) true]) :
 Tp (qaa Tryz.f125 0) (qdc l3 n4 l5 n6 n7) .ret (qgF false) :=
 h.lp [4] [] (by kernel_rfl)
theorem qvL (h : Oo [.b (decide (n4 < (↑l3.length : Int))) true, .p (0 ≤ n4), .p (n4 < (↑l3.length : Int)), .e l3 n4.toNat (ri n8 n9 n10 n11 n12), .r 173 [.agg (ri n8 n9 n10 n11 n12)] [cB b13], .b (!b13) false, .r 200 [.agg (gr l5 n6 n7), cI n8] [cB b14], .b (!b14) false, .p (inInt .i64 (n4 + 1))]) :
 Tp (qaa Tryz.f125 0) (qdc l3 n4 l5 n6 n7) .normal (qdc l3 (n4 + 1) l5 n6 n7) :=
 h.lp [9, 8, 7, 2] [2] (by kernel_rfl)
def qmi : St :=
 { env := envOf 24 [], boxes := [] }
theorem qvM (h : Oo [.b (decide (n4 < (↑l3.length : Int))) false]) :
 Tp (qaa Tryz.f125 0) (qdc l3 n4 l5 n6 n7) (.exit 0) qmi :=
 h.lp [] [] (by kernel_rfl)
theorem qvN (h : Oo [.l [] [9, 8, 7, 2] [2] (qaa Tryz.f125 0) (qdc l3 0 l0 n1 n2) .ret (qgF b4)]) :
 Rt 125 [.agg (gr l0 n1 n2), cS 5 l3] [cB b4] :=
 h.of (by kernel_rfl)
theorem qvO (h : Oo [.l [] [9, 8, 7, 2] [2] (qaa Tryz.f125 0) (qdc l3 0 l0 n1 n2) (.exit 0) qmi]) :
 Rt 125 [.agg (gr l0 n1 n2), cS 5 l3] [cB true] :=
 h.of (by kernel_rfl)
theorem qvP (h : Oo [.r 189 [.agg (gr l0 n1 n2), cS 5 l3] [cB b11], .b (!b11) true]) :
 Rt 187 [.agg (gr l0 n1 n2), .agg (wk l3 l4 l5 l6 l7 l8 l9 l10)] [cB false] :=
 h.of (by kernel_rfl)
theorem qvQ (h : Oo [.r 189 [.agg (gr l0 n1 n2), cS 5 l3] [cB b11], .b (!b11) false, .r 189 [.agg (gr l0 n1 n2), cS 5 l4] [cB b12], .b (!b12) true]) :
 Rt 187 [.agg (gr l0 n1 n2), .agg (wk l3 l4 l5 l6 l7 l8 l9 l10)] [cB false] :=
 h.of (by kernel_rfl)
theorem qvR (h : Oo [.r 189 [.agg (gr l0 n1 n2), cS 5 l3] [cB b11], .b (!b11) false, .r 189 [.agg (gr l0 n1 n2), cS 5 l4] [cB b12], .b (!b12) false, .r 189 [.agg (gr l0 n1 n2), cS 5 l5] [cB b13], .b (!b13) true]) :
 Rt 187 [.agg (gr l0 n1 n2), .agg (wk l3 l4 l5 l6 l7 l8 l9 l10)] [cB false] :=
 h.of (by kernel_rfl)
theorem qvS (h : Oo [.r 189 [.agg (gr l0 n1 n2), cS 5 l3] [cB b11], .b (!b11) false, .r 189 [.agg (gr l0 n1 n2), cS 5 l4] [cB b12], .b (!b12) false, .r 189 [.agg (gr l0 n1 n2), cS 5 l5] [cB b13], .b (!b13) false, .r 227 [cS 4 l6] [cB b14], .b (!b14) true]) :
 Rt 187 [.agg (gr l0 n1 n2), .agg (wk l3 l4 l5 l6 l7 l8 l9 l10)] [cB false] :=
 h.of (by kernel_rfl)
theorem qvT (h : Oo [.r 189 [.agg (gr l0 n1 n2), cS 5 l3] [cB b11], .b (!b11) false, .r 189 [.agg (gr l0 n1 n2), cS 5 l4] [cB b12], .b (!b12) false, .r 189 [.agg (gr l0 n1 n2), cS 5 l5] [cB b13], .b (!b13) false, .r 227 [cS 4 l6] [cB b14], .b (!b14) false, .b ((↑l7.length : Int) != 4) true]) :
 Rt 187 [.agg (gr l0 n1 n2), .agg (wk l3 l4 l5 l6 l7 l8 l9 l10)] [cB false] :=
 h.of (by kernel_rfl)
theorem qvU (h : Oo [.r 189 [.agg (gr l0 n1 n2), cS 5 l3] [cB b11], .b (!b11) false, .r 189 [.agg (gr l0 n1 n2), cS 5 l4] [cB b12], .b (!b12) false, .r 189 [.agg (gr l0 n1 n2), cS 5 l5] [cB b13], .b (!b13) false, .r 227 [cS 4 l6] [cB b14], .b (!b14) false, .b ((↑l7.length : Int) != 4) false, .b ((↑l8.length : Int) != 4) true]) :
 Rt 187 [.agg (gr l0 n1 n2), .agg (wk l3 l4 l5 l6 l7 l8 l9 l10)] [cB false] :=
 h.of (by kernel_rfl)
theorem qvV (h : Oo [.r 189 [.agg (gr l0 n1 n2), cS 5 l3] [cB b11], .b (!b11) false, .r 189 [.agg (gr l0 n1 n2), cS 5 l4] [cB b12], .b (!b12) false, .r 189 [.agg (gr l0 n1 n2), cS 5 l5] [cB b13], .b (!b13) false, .r 227 [cS 4 l6] [cB b14], .b (!b14) false, .b ((↑l7.length : Int) != 4) false, .b ((↑l8.length : Int) != 4) false, .b ((↑l9.length : Int) != 4) true]) :
 Rt 187 [.agg (gr l0 n1 n2), .agg (wk l3 l4 l5 l6 l7 l8 l9 l10)] [cB false] :=
 h.of (by kernel_rfl)
def qbl (l0 l1 l2 l3 l4 l5 l6 l7 : LL) (n8 : Int) : St :=
 { env := envOf 147 [(3, vP 3), (5, vI 4), (6, vI n8)], boxes := [(3, [.sl .free 5 l0, .sl .free 5 l1, .sl .free 5 l2, .sl .free 4 l3, .sl .free 1 l4, .sl .free 1 l5, .sl .free 1 l6, .sl .free 2 l7])] }
def qfw (b0 : Bool) : St :=
 { env := envOf 147 [(4, .al (.one (.sb b0)))], boxes := [] }
theorem qvW (h : Oo [.b (decide (n15 < (↑l5.length : Int))) true, .p (0 ≤ n15), .p (n15 < (↑l5.length : Int)), .e l5 n15.toNat (ri n16 n17 n18 n19 n20), .b (n16 != 0) true]) :
 Tp (qaa Tryz.f187 0) (qbl l3 l4 l5 l6 l7 l8 l9 l10 n15) .ret (qfw false) :=
 h.lp [4] [] (by kernel_rfl)
theorem qvX (h : Oo [.b (decide (n15 < (↑l5.length : Int))) true, .p (0 ≤ n15), .p (n15 < (↑l5.length : Int)), .e l5 n15.toNat (ri n16 n17 n18 n19 n20), .b (n16 != 0) false, .p (0 ≤ n15), .p (n15 < (↑l5.length : Int)), .e l5 n15.toNat (ri n21 n22 n23 n24 n25), .b (n23 != 0) true]) :
 Tp (qaa Tryz.f187 0) (qbl l3 l4 l5 l6 l7 l8 l9 l10 n15) .ret (qfw false) :=
 h.lp [4] [] (by kernel_rfl)
theorem qvY (h : Oo [.b (decide (n15 < (↑l5.length : Int))) true, .p (0 ≤ n15), .p (n15 < (↑l5.length : Int)), .e l5 n15.toNat (ri n16 n17 n18 n19 n20), .b (n16 != 0) false, .p (0 ≤ n15), .p (n15 < (↑l5.length : Int)), .e l5 n15.toNat (ri n21 n22 n23 n24 n25), .b (n23 != 0) false, .b (decide (n15 > 0)) true, .p (inInt .i64 (n15 - 1)), .p (0 ≤ n15 - 1), .p (n15 - 1 < (↑l5.length : Int)), .e l5 ((n15 - 1).toNat) (ri n26 n27 n28 n29 n30), .p (0 ≤ n15), .p (n15 < (↑l5.length : Int)), .e l5 n15.toNat (ri n31 n32 n33 n34 n35), .b (decide (n27 > n32)) true]) :
 Tp (qaa Tryz.f187 0) (qbl l3 l4 l5 l6 l7 l8 l9 l10 n15) .ret (qfw false) :=
 h.lp [4] [] (by kernel_rfl)
theorem qvZ (h : Oo [.b (decide (n15 < (↑l5.length : Int))) true, .p (0 ≤ n15), .p (n15 < (↑l5.length : Int)), .e l5 n15.toNat (ri n16 n17 n18 n19 n20), .b (n16 != 0) false, .p (0 ≤ n15), .p (n15 < (↑l5.length : Int)), .e l5 n15.toNat (ri n21 n22 n23 n24 n25), .b (n23 != 0) false, .b (decide (n15 > 0)) true, .p (inInt .i64 (n15 - 1)), .p (0 ≤ n15 - 1), .p (n15 - 1 < (↑l5.length : Int)), .e l5 ((n15 - 1).toNat) (ri n26 n27 n28 n29 n30), .p (0 ≤ n15), .p (n15 < (↑l5.length : Int)), .e l5 n15.toNat (ri n31 n32 n33 n34 n35), .b (decide (n27 > n32)) false, .p (inInt .i64 (n15 + 1))]) :
 Tp (qaa Tryz.f187 0) (qbl l3 l4 l5 l6 l7 l8 l9 l10 n15) .normal (qbl l3 l4 l5 l6 l7 l8 l9 l10 (n15 + 1)) :=
 h.lp [6, 3, 5] [3] (by kernel_rfl)
theorem qv0 (h : Oo [.b (decide (n15 < (↑l5.length : Int))) true, .p (0 ≤ n15), .p (n15 < (↑l5.length : Int)), .e l5 n15.toNat (ri n16 n17 n18 n19 n20), .b (n16 != 0) false, .p (0 ≤ n15), .p (n15 < (↑l5.length : Int)), .e l5 n15.toNat (ri n21 n22 n23 n24 n25), .b (n23 != 0) false, .b (decide (n15 > 0)) false, .p (inInt .i64 (n15 + 1))]) :
 Tp (qaa Tryz.f187 0) (qbl l3 l4 l5 l6 l7 l8 l9 l10 n15) .normal (qbl l3 l4 l5 l6 l7 l8 l9 l10 (n15 + 1)) :=
 h.lp [6, 3, 5] [3] (by kernel_rfl)
def qfx (l0 l1 l2 l3 l4 l5 l6 l7 : LL) : St :=
 { env := envOf 147 [(3, vP 3), (5, vI 4)], boxes := [(3, [.sl .free 5 l0, .sl .free 5 l1, .sl .free 5 l2, .sl .free 4 l3, .sl .free 1 l4, .sl .free 1 l5, .sl .free 1 l6, .sl .free 2 l7])] }
theorem qv1 (h : Oo [.b (decide (n15 < (↑l5.length : Int))) false]) :
 Tp (qaa Tryz.f187 0) (qbl l3 l4 l5 l6 l7 l8 l9 l10 n15) (.exit 0) (qfx l3 l4 l5 l6 l7 l8 l9 l10) :=
 h.lp [5, 3] [3] (by kernel_rfl)
theorem qv2 (h : Oo [.r 189 [.agg (gr l0 n1 n2), cS 5 l3] [cB b11], .b (!b11) false, .r 189 [.agg (gr l0 n1 n2), cS 5 l4] [cB b12], .b (!b12) false, .r 189 [.agg (gr l0 n1 n2), cS 5 l5] [cB b13], .b (!b13) false, .r 227 [cS 4 l6] [cB b14], .b (!b14) false, .b ((↑l7.length : Int) != 4) false, .b ((↑l8.length : Int) != 4) false, .b ((↑l9.length : Int) != 4) false, .l [] [6, 3, 5] [3] (qaa Tryz.f187 0) (qbl l3 l4 l5 l6 l7 l8 l9 l10 0) .ret (qfw b15)]) :
 Rt 187 [.agg (gr l0 n1 n2), .agg (wk l3 l4 l5 l6 l7 l8 l9 l10)] [cB b15] :=
 h.of (by kernel_rfl)
def qdd (l0 l1 l2 l3 l4 l5 l6 l7 : LL) (n8 : Int) : St :=
 { env := envOf 147 [(3, vP 3), (5, vI 4), (7, vI n8)], boxes := [(3, [.sl .free 5 l0, .sl .free 5 l1, .sl .free 5 l2, .sl .free 4 l3, .sl .free 1 l4, .sl .free 1 l5, .sl .free 1 l6, .sl .free 2 l7])] }
def qiL (b0 : Bool) : St :=
 { env := envOf 147 [(4, .al (.one (.sb b0)))], boxes := [] }
theorem qv3 (h : Oo [.b (decide (n15 < 4)) true, .p (0 ≤ n15), .p (n15 < (↑l7.length : Int)), .e l7 n15.toNat [I n16], .r 137 [cI n16, cI (-1000000), cI 1000000] [cB b17], .b (!b17) true]) :
 Tp (qaa Tryz.f187 1) (qdd l3 l4 l5 l6 l7 l8 l9 l10 n15) .ret (qiL false) :=
 h.lp [4] [] (by kernel_rfl)
theorem qv4 (h : Oo [.b (decide (n15 < 4)) true, .p (0 ≤ n15), .p (n15 < (↑l7.length : Int)), .e l7 n15.toNat [I n16], .r 137 [cI n16, cI (-1000000), cI 1000000] [cB b17], .b (!b17) false, .p (inInt .i64 (n15 + 1))]) :
 Tp (qaa Tryz.f187 1) (qdd l3 l4 l5 l6 l7 l8 l9 l10 n15) .normal (qdd l3 l4 l5 l6 l7 l8 l9 l10 (n15 + 1)) :=
 h.lp [7, 5, 3] [3] (by kernel_rfl)
def qiM (l0 l1 l2 l3 l4 l5 l6 l7 : LL) : St :=
 { env := envOf 147 [(3, vP 3)], boxes := [(3, [.sl .free 5 l0, .sl .free 5 l1, .sl .free 5 l2, .sl .free 4 l3, .sl .free 1 l4, .sl .free 1 l5, .sl .free 1 l6, .sl .free 2 l7])] }
theorem qv5 (h : Oo [.b (decide (n15 < 4)) false]) :
 Tp (qaa Tryz.f187 1) (qdd l3 l4 l5 l6 l7 l8 l9 l10 n15) (.exit 2) (qiM l3 l4 l5 l6 l7 l8 l9 l10) :=
 h.lp [3] [3] (by kernel_rfl)
theorem qv6 (h : Oo [.r 189 [.agg (gr l0 n1 n2), cS 5 l3] [cB b11], .b (!b11) false, .r 189 [.agg (gr l0 n1 n2), cS 5 l4] [cB b12], .b (!b12) false, .r 189 [.agg (gr l0 n1 n2), cS 5 l5] [cB b13], .b (!b13) false, .r 227 [cS 4 l6] [cB b14], .b (!b14) false, .b ((↑l7.length : Int) != 4) false, .b ((↑l8.length : Int) != 4) false, .b ((↑l9.length : Int) != 4) false, .l [] [6, 3, 5] [3] (qaa Tryz.f187 0) (qbl l3 l4 l5 l6 l7 l8 l9 l10 0) (.exit 0) (qfx l3 l4 l5 l6 l7 l8 l9 l10), .l [] [7, 5, 3] [3] (qaa Tryz.f187 1) (qdd l3 l4 l5 l6 l7 l8 l9 l10 0) .ret (qiL b15)]) :
 Rt 187 [.agg (gr l0 n1 n2), .agg (wk l3 l4 l5 l6 l7 l8 l9 l10)] [cB b15] :=
 h.of (by kernel_rfl)
def qcy (l0 l1 l2 l3 l4 l5 l6 l7 : LL) (n8 : Int) : St :=
 { env := envOf 147 [(3, vP 3), (8, vI n8)], boxes := [(3, [.sl .free 5 l0, .sl .free 5 l1, .sl .free 5 l2, .sl .free 4 l3, .sl .free 1 l4, .sl .free 1 l5, .sl .free 1 l6, .sl .free 2 l7])] }
def qgG (b0 : Bool) : St :=
 { env := envOf 147 [(4, .al (.one (.sb b0)))], boxes := [] }
theorem qv7 (h : Oo [.b (decide (n15 < (↑l10.length : Int))) true, .p (0 ≤ n15), .p (n15 < (↑l10.length : Int)), .e l10 n15.toNat [I n16, B b17], .r 137 [cI n16, cI 0, cI 3] [cB b18], .b (!b18) true]) :
 Tp (qaa Tryz.f187 2) (qcy l3 l4 l5 l6 l7 l8 l9 l10 n15) .ret (qgG false) :=
 h.lp [4] [] (by kernel_rfl)
def qcQ (l0 l1 l2 l3 l4 l5 l6 l7 : LL) (n8 n9 : Int) : St :=
 { env := envOf 147 [(3, vP 3), (8, vI n8), (9, vI n9)], boxes := [(3, [.sl .free 5 l0, .sl .free 5 l1, .sl .free 5 l2, .sl .free 4 l3, .sl .free 1 l4, .sl .free 1 l5, .sl .free 1 l6, .sl .free 2 l7])] }
def qgH (b0 : Bool) : St :=
 { env := envOf 147 [(4, .al (.one (.sb b0)))], boxes := [] }
theorem qv8 (h : Oo [.b (decide (n19 < n15)) true, .p (0 ≤ n19), .p (n19 < (↑l10.length : Int)), .e l10 n19.toNat [I n20, B b21], .p (0 ≤ n15), .p (n15 < (↑l10.length : Int)), .e l10 n15.toNat [I n22, B b23], .b (n20 == n22) true]) :
 Tp (qaa Tryz.f187 3) (qcQ l3 l4 l5 l6 l7 l8 l9 l10 n15 n19) .ret (qgH false) :=
 h.lp [4] [] (by kernel_rfl)
theorem qv9 (h : Oo [.b (decide (n19 < n15)) true, .p (0 ≤ n19), .p (n19 < (↑l10.length : Int)), .e l10 n19.toNat [I n20, B b21], .p (0 ≤ n15), .p (n15 < (↑l10.length : Int)), .e l10 n15.toNat [I n22, B b23], .b (n20 == n22) false, .p (inInt .i64 (n19 + 1))]) :
 Tp (qaa Tryz.f187 3) (qcQ l3 l4 l5 l6 l7 l8 l9 l10 n15 n19) .normal (qcQ l3 l4 l5 l6 l7 l8 l9 l10 n15 (n19 + 1)) :=
 h.lp [9, 8, 3] [3] (by kernel_rfl)
def qiN (l0 l1 l2 l3 l4 l5 l6 l7 : LL) (n8 : Int) : St :=
 { env := envOf 147 [(3, vP 3), (8, vI n8)], boxes := [(3, [.sl .free 5 l0, .sl .free 5 l1, .sl .free 5 l2, .sl .free 4 l3, .sl .free 1 l4, .sl .free 1 l5, .sl .free 1 l6, .sl .free 2 l7])] }
theorem qwa (h : Oo [.b (decide (n19 < n15)) false]) :
 Tp (qaa Tryz.f187 3) (qcQ l3 l4 l5 l6 l7 l8 l9 l10 n15 n19) (.exit 6) (qiN l3 l4 l5 l6 l7 l8 l9 l10 n15) :=
 h.lp [8, 3] [3] (by kernel_rfl)
theorem qwb (h : Oo [.b (decide (n15 < (↑l10.length : Int))) true, .p (0 ≤ n15), .p (n15 < (↑l10.length : Int)), .e l10 n15.toNat [I n16, B b17], .r 137 [cI n16, cI 0, cI 3] [cB b18], .b (!b18) false, .l [] [9, 8, 3] [3] (qaa Tryz.f187 3) (qcQ l3 l4 l5 l6 l7 l8 l9 l10 n15 0) .ret (qgH b19)]) :
 Tp (qaa Tryz.f187 2) (qcy l3 l4 l5 l6 l7 l8 l9 l10 n15) .ret (qgG b19) :=
 h.lp [4] [] (by kernel_rfl)
theorem qwc (h : Oo [.b (decide (n15 < (↑l10.length : Int))) true, .p (0 ≤ n15), .p (n15 < (↑l10.length : Int)), .e l10 n15.toNat [I n16, B b17], .r 137 [cI n16, cI 0, cI 3] [cB b18], .b (!b18) false, .l [] [9, 8, 3] [3] (qaa Tryz.f187 3) (qcQ l3 l4 l5 l6 l7 l8 l9 l10 n15 0) (.exit 6) (qiN l3 l4 l5 l6 l7 l8 l9 l10 n15), .p (inInt .i64 (n15 + 1))]) :
 Tp (qaa Tryz.f187 2) (qcy l3 l4 l5 l6 l7 l8 l9 l10 n15) .normal (qcy l3 l4 l5 l6 l7 l8 l9 l10 (n15 + 1)) :=
 h.lp [8, 3] [3] (by kernel_rfl)
def qiO : St :=
 { env := envOf 147 [], boxes := [] }
theorem qwd (h : Oo [.b (decide (n15 < (↑l10.length : Int))) false]) :
 Tp (qaa Tryz.f187 2) (qcy l3 l4 l5 l6 l7 l8 l9 l10 n15) (.exit 4) qiO :=
 h.lp [] [] (by kernel_rfl)
theorem qwe (h : Oo [.r 189 [.agg (gr l0 n1 n2), cS 5 l3] [cB b11], .b (!b11) false, .r 189 [.agg (gr l0 n1 n2), cS 5 l4] [cB b12], .b (!b12) false, .r 189 [.agg (gr l0 n1 n2), cS 5 l5] [cB b13], .b (!b13) false, .r 227 [cS 4 l6] [cB b14], .b (!b14) false, .b ((↑l7.length : Int) != 4) false, .b ((↑l8.length : Int) != 4) false, .b ((↑l9.length : Int) != 4) false, .l [] [6, 3, 5] [3] (qaa Tryz.f187 0) (qbl l3 l4 l5 l6 l7 l8 l9 l10 0) (.exit 0) (qfx l3 l4 l5 l6 l7 l8 l9 l10), .l [] [7, 5, 3] [3] (qaa Tryz.f187 1) (qdd l3 l4 l5 l6 l7 l8 l9 l10 0) (.exit 2) (qiM l3 l4 l5 l6 l7 l8 l9 l10), .l [] [8, 3] [3] (qaa Tryz.f187 2) (qcy l3 l4 l5 l6 l7 l8 l9 l10 0) .ret (qgG b15)]) :
 Rt 187 [.agg (gr l0 n1 n2), .agg (wk l3 l4 l5 l6 l7 l8 l9 l10)] [cB b15] :=
 h.of (by kernel_rfl)
theorem qwf (h : Oo [.r 189 [.agg (gr l0 n1 n2), cS 5 l3] [cB b11], .b (!b11) false, .r 189 [.agg (gr l0 n1 n2), cS 5 l4] [cB b12], .b (!b12) false, .r 189 [.agg (gr l0 n1 n2), cS 5 l5] [cB b13], .b (!b13) false, .r 227 [cS 4 l6] [cB b14], .b (!b14) false, .b ((↑l7.length : Int) != 4) false, .b ((↑l8.length : Int) != 4) false, .b ((↑l9.length : Int) != 4) false, .l [] [6, 3, 5] [3] (qaa Tryz.f187 0) (qbl l3 l4 l5 l6 l7 l8 l9 l10 0) (.exit 0) (qfx l3 l4 l5 l6 l7 l8 l9 l10), .l [] [7, 5, 3] [3] (qaa Tryz.f187 1) (qdd l3 l4 l5 l6 l7 l8 l9 l10 0) (.exit 2) (qiM l3 l4 l5 l6 l7 l8 l9 l10), .l [] [8, 3] [3] (qaa Tryz.f187 2) (qcy l3 l4 l5 l6 l7 l8 l9 l10 0) (.exit 4) qiO]) :
 Rt 187 [.agg (gr l0 n1 n2), .agg (wk l3 l4 l5 l6 l7 l8 l9 l10)] [cB true] :=
 h.of (by kernel_rfl)
theorem qwg (h : Oo [.r 125 [.agg (gr l0 n1 n2), cS 5 l3] [cB b11], .b (!b11) true]) :
 Rt 123 [.agg (gr l0 n1 n2), .agg (wk l3 l4 l5 l6 l7 l8 l9 l10)] [cB false] :=
 h.of (by kernel_rfl)
theorem qwh (h : Oo [.r 125 [.agg (gr l0 n1 n2), cS 5 l3] [cB b11], .b (!b11) false, .r 125 [.agg (gr l0 n1 n2), cS 5 l4] [cB b12], .b (!b12) true]) :
 Rt 123 [.agg (gr l0 n1 n2), .agg (wk l3 l4 l5 l6 l7 l8 l9 l10)] [cB false] :=
 h.of (by kernel_rfl)
theorem qwi (h : Oo [.r 125 [.agg (gr l0 n1 n2), cS 5 l3] [cB b11], .b (!b11) false, .r 125 [.agg (gr l0 n1 n2), cS 5 l4] [cB b12], .b (!b12) false, .r 125 [.agg (gr l0 n1 n2), cS 5 l5] [cB b13], .b (!b13) true]) :
 Rt 123 [.agg (gr l0 n1 n2), .agg (wk l3 l4 l5 l6 l7 l8 l9 l10)] [cB false] :=
 h.of (by kernel_rfl)
theorem qwj (h : Oo [.r 125 [.agg (gr l0 n1 n2), cS 5 l3] [cB b11], .b (!b11) false, .r 125 [.agg (gr l0 n1 n2), cS 5 l4] [cB b12], .b (!b12) false, .r 125 [.agg (gr l0 n1 n2), cS 5 l5] [cB b13], .b (!b13) false, .r 198 [cS 4 l6] [cB b14], .b (!b14) true]) :
 Rt 123 [.agg (gr l0 n1 n2), .agg (wk l3 l4 l5 l6 l7 l8 l9 l10)] [cB false] :=
 h.of (by kernel_rfl)
def qa7 (l0 : LL) (n1 : Int) (l2 l3 l4 l5 l6 l7 l8 l9 : LL) : St :=
 { env := envOf 121 [(3, vP 3), (37, vF 5 l0), (38, vI (↑l0.length : Int)), (39, vI n1)], boxes := [(3, [.sl .free 5 l2, .sl .free 5 l3, .sl .free 5 l4, .sl .free 4 l5, .sl .free 1 l6, .sl .free 1 l7, .sl .free 1 l8, .sl .free 2 l9])] }
def qfy (b0 : Bool) : St :=
 { env := envOf 121 [(4, .al (.one (.sb b0)))], boxes := [] }
theorem qwk (h : Oo [.b (decide (n15 < (↑l5.length : Int))) true, .p (0 ≤ n15), .p (n15 < (↑l5.length : Int)), .e l5 n15.toNat (ri n24 n25 n26 n27 n28), .b (n24 != 0) true]) :
 Tp (qaa Tryz.f123 0) (qa7 l5 n15 l16 l17 l18 l19 l20 l21 l22 l23) .ret (qfy false) :=
 h.lp [4] [] (by kernel_rfl)
theorem qwl (h : Oo [.b (decide (n15 < (↑l5.length : Int))) true, .p (0 ≤ n15), .p (n15 < (↑l5.length : Int)), .e l5 n15.toNat (ri n24 n25 n26 n27 n28), .b (n24 != 0) false, .b (n26 != 0) true]) :
 Tp (qaa Tryz.f123 0) (qa7 l5 n15 l16 l17 l18 l19 l20 l21 l22 l23) .ret (qfy false) :=
 h.lp [4] [] (by kernel_rfl)
theorem qwm (h : Oo [.b (decide (n15 < (↑l5.length : Int))) true, .p (0 ≤ n15), .p (n15 < (↑l5.length : Int)), .e l5 n15.toNat (ri n24 n25 n26 n27 n28), .b (n24 != 0) false, .b (n26 != 0) false, .b (decide (n15 > 0)) true, .p (inInt .i64 (n15 - 1)), .p (0 ≤ n15 - 1), .p (n15 - 1 < (↑l18.length : Int)), .e l18 ((n15 - 1).toNat) (ri n29 n30 n31 n32 n33), .b (decide (n30 > n25)) true]) :
 Tp (qaa Tryz.f123 0) (qa7 l5 n15 l16 l17 l18 l19 l20 l21 l22 l23) .ret (qfy false) :=
 h.lp [4] [] (by kernel_rfl)
theorem qwn (h : Oo [.b (decide (n15 < (↑l5.length : Int))) true, .p (0 ≤ n15), .p (n15 < (↑l5.length : Int)), .e l5 n15.toNat (ri n24 n25 n26 n27 n28), .b (n24 != 0) false, .b (n26 != 0) false, .b (decide (n15 > 0)) true, .p (inInt .i64 (n15 - 1)), .p (0 ≤ n15 - 1), .p (n15 - 1 < (↑l18.length : Int)), .e l18 ((n15 - 1).toNat) (ri n29 n30 n31 n32 n33), .b (decide (n30 > n25)) false, .p (inInt .i64 (n15 + 1))]) :
 Tp (qaa Tryz.f123 0) (qa7 l5 n15 l16 l17 l18 l19 l20 l21 l22 l23) .normal (qa7 l5 (n15 + 1) l16 l17 l18 l19 l20 l21 l22 l23) :=
 h.lp [39, 38, 37, 3] [3] (by kernel_rfl)
theorem qwo (h : Oo [.b (decide (n15 < (↑l5.length : Int))) true, .p (0 ≤ n15), .p (n15 < (↑l5.length : Int)), .e l5 n15.toNat (ri n24 n25 n26 n27 n28), .b (n24 != 0) false, .b (n26 != 0) false, .b (decide (n15 > 0)) false, .p (inInt .i64 (n15 + 1))]) :
 Tp (qaa Tryz.f123 0) (qa7 l5 n15 l16 l17 l18 l19 l20 l21 l22 l23) .normal (qa7 l5 (n15 + 1) l16 l17 l18 l19 l20 l21 l22 l23) :=
 h.lp [39, 38, 37, 3] [3] (by kernel_rfl)
def qde (l0 l1 l2 l3 l4 l5 l6 l7 : LL) : St :=
 { env := envOf 121 [(3, vP 3)], boxes := [(3, [.sl .free 5 l0, .sl .free 5 l1, .sl .free 5 l2, .sl .free 4 l3, .sl .free 1 l4, .sl .free 1 l5, .sl .free 1 l6, .sl .free 2 l7])] }
theorem qwp (h : Oo [.b (decide (n15 < (↑l5.length : Int))) false]) :
 Tp (qaa Tryz.f123 0) (qa7 l5 n15 l16 l17 l18 l19 l20 l21 l22 l23) (.exit 0) (qde l16 l17 l18 l19 l20 l21 l22 l23) :=
 h.lp [3] [3] (by kernel_rfl)
theorem qwq (h : Oo [.r 125 [.agg (gr l0 n1 n2), cS 5 l3] [cB b11], .b (!b11) false, .r 125 [.agg (gr l0 n1 n2), cS 5 l4] [cB b12], .b (!b12) false, .r 125 [.agg (gr l0 n1 n2), cS 5 l5] [cB b13], .b (!b13) false, .r 198 [cS 4 l6] [cB b14], .b (!b14) false, .l [] [39, 38, 37, 3] [3] (qaa Tryz.f123 0) (qa7 l5 0 l3 l4 l5 l6 l7 l8 l9 l10) .ret (qfy b15)]) :
 Rt 123 [.agg (gr l0 n1 n2), .agg (wk l3 l4 l5 l6 l7 l8 l9 l10)] [cB b15] :=
 h.of (by kernel_rfl)
theorem qwr (h : Oo [.r 125 [.agg (gr l0 n1 n2), cS 5 l3] [cB b11], .b (!b11) false, .r 125 [.agg (gr l0 n1 n2), cS 5 l4] [cB b12], .b (!b12) false, .r 125 [.agg (gr l0 n1 n2), cS 5 l5] [cB b13], .b (!b13) false, .r 198 [cS 4 l6] [cB b14], .b (!b14) false, .l [] [39, 38, 37, 3] [3] (qaa Tryz.f123 0) (qa7 l5 0 l3 l4 l5 l6 l7 l8 l9 l10) (.exit 0) (qde l15 l16 l17 l18 l19 l20 l21 l22), .b ((↑l19.length : Int) != 4) true]) :
 Rt 123 [.agg (gr l0 n1 n2), .agg (wk l3 l4 l5 l6 l7 l8 l9 l10)] [cB false] :=
 h.of (by kernel_rfl)
theorem qws (h : Oo [.r 125 [.agg (gr l0 n1 n2), cS 5 l3] [cB b11], .b (!b11) false, .r 125 [.agg (gr l0 n1 n2), cS 5 l4] [cB b12], .b (!b12) false, .r 125 [.agg (gr l0 n1 n2), cS 5 l5] [cB b13], .b (!b13) false, .r 198 [cS 4 l6] [cB b14], .b (!b14) false, .l [] [39, 38, 37, 3] [3] (qaa Tryz.f123 0) (qa7 l5 0 l3 l4 l5 l6 l7 l8 l9 l10) (.exit 0) (qde l15 l16 l17 l18 l19 l20 l21 l22), .b ((↑l19.length : Int) != 4) false, .b ((↑l20.length : Int) != 4) true]) :
 Rt 123 [.agg (gr l0 n1 n2), .agg (wk l3 l4 l5 l6 l7 l8 l9 l10)] [cB false] :=
 h.of (by kernel_rfl)
theorem qwt (h : Oo [.r 125 [.agg (gr l0 n1 n2), cS 5 l3] [cB b11], .b (!b11) false, .r 125 [.agg (gr l0 n1 n2), cS 5 l4] [cB b12], .b (!b12) false, .r 125 [.agg (gr l0 n1 n2), cS 5 l5] [cB b13], .b (!b13) false, .r 198 [cS 4 l6] [cB b14], .b (!b14) false, .l [] [39, 38, 37, 3] [3] (qaa Tryz.f123 0) (qa7 l5 0 l3 l4 l5 l6 l7 l8 l9 l10) (.exit 0) (qde l15 l16 l17 l18 l19 l20 l21 l22), .b ((↑l19.length : Int) != 4) false, .b ((↑l20.length : Int) != 4) false, .b ((↑l21.length : Int) != 4) true]) :
 Rt 123 [.agg (gr l0 n1 n2), .agg (wk l3 l4 l5 l6 l7 l8 l9 l10)] [cB false] :=
 h.of (by kernel_rfl)
def qdf (l0 l1 l2 l3 l4 l5 l6 l7 : LL) (n8 : Int) : St :=
 { env := envOf 121 [(3, vP 3), (89, vF 1 l4), (90, vI (↑l4.length : Int)), (91, vI n8)], boxes := [(3, [.sl .free 5 l0, .sl .free 5 l1, .sl .free 5 l2, .sl .free 4 l3, .sl .free 1 l4, .sl .free 1 l5, .sl .free 1 l6, .sl .free 2 l7])] }
def qiP (b0 : Bool) : St :=
 { env := envOf 121 [(4, .al (.one (.sb b0)))], boxes := [] }
theorem qwu (h : Oo [.b (decide (n23 < (↑l19.length : Int))) true, .p (0 ≤ n23), .p (n23 < (↑l19.length : Int)), .e l19 n23.toNat [I n24], .r 81 [cI n24, cI (-1000000), cI 1000000] [cB b25], .b (!b25) true]) :
 Tp (qaa Tryz.f123 1) (qdf l15 l16 l17 l18 l19 l20 l21 l22 n23) .ret (qiP false) :=
 h.lp [4] [] (by kernel_rfl)
theorem qwv (h : Oo [.b (decide (n23 < (↑l19.length : Int))) true, .p (0 ≤ n23), .p (n23 < (↑l19.length : Int)), .e l19 n23.toNat [I n24], .r 81 [cI n24, cI (-1000000), cI 1000000] [cB b25], .b (!b25) false, .p (inInt .i64 (n23 + 1))]) :
 Tp (qaa Tryz.f123 1) (qdf l15 l16 l17 l18 l19 l20 l21 l22 n23) .normal (qdf l15 l16 l17 l18 l19 l20 l21 l22 (n23 + 1)) :=
 h.lp [91, 90, 89, 3] [3] (by kernel_rfl)
def qiQ (l0 l1 l2 l3 l4 l5 l6 l7 : LL) : St :=
 { env := envOf 121 [(3, vP 3)], boxes := [(3, [.sl .free 5 l0, .sl .free 5 l1, .sl .free 5 l2, .sl .free 4 l3, .sl .free 1 l4, .sl .free 1 l5, .sl .free 1 l6, .sl .free 2 l7])] }
theorem qww (h : Oo [.b (decide (n23 < (↑l19.length : Int))) false]) :
 Tp (qaa Tryz.f123 1) (qdf l15 l16 l17 l18 l19 l20 l21 l22 n23) (.exit 2) (qiQ l15 l16 l17 l18 l19 l20 l21 l22) :=
 h.lp [3] [3] (by kernel_rfl)
theorem qwx (h : Oo [.r 125 [.agg (gr l0 n1 n2), cS 5 l3] [cB b11], .b (!b11) false, .r 125 [.agg (gr l0 n1 n2), cS 5 l4] [cB b12], .b (!b12) false, .r 125 [.agg (gr l0 n1 n2), cS 5 l5] [cB b13], .b (!b13) false, .r 198 [cS 4 l6] [cB b14], .b (!b14) false, .l [] [39, 38, 37, 3] [3] (qaa Tryz.f123 0) (qa7 l5 0 l3 l4 l5 l6 l7 l8 l9 l10) (.exit 0) (qde l15 l16 l17 l18 l19 l20 l21 l22), .b ((↑l19.length : Int) != 4) false, .b ((↑l20.length : Int) != 4) false, .b ((↑l21.length : Int) != 4) false, .l [] [91, 90, 89, 3] [3] (qaa Tryz.f123 1) (qdf l15 l16 l17 l18 l19 l20 l21 l22 0) .ret (qiP b23)]) :
 Rt 123 [.agg (gr l0 n1 n2), .agg (wk l3 l4 l5 l6 l7 l8 l9 l10)] [cB b23] :=
 h.of (by kernel_rfl)
def qcz (l0 : LL) (n1 : Int) (l2 l3 l4 l5 l6 l7 l8 l9 : LL) : St :=
 { env := envOf 121 [(3, vP 3), (100, vF 2 l0), (101, vI (↑l0.length : Int)), (102, vI n1)], boxes := [(3, [.sl .free 5 l2, .sl .free 5 l3, .sl .free 5 l4, .sl .free 4 l5, .sl .free 1 l6, .sl .free 1 l7, .sl .free 1 l8, .sl .free 2 l9])] }
def qgI (b0 : Bool) : St :=
 { env := envOf 121 [(4, .al (.one (.sb b0)))], boxes := [] }
theorem qwy (h : Oo [.b (decide (n23 < (↑l22.length : Int))) true, .p (0 ≤ n23), .p (n23 < (↑l22.length : Int)), .e l22 n23.toNat [I n32, B b33], .r 81 [cI n32, cI 0, cI 3] [cB b34], .b (!b34) true]) :
 Tp (qaa Tryz.f123 2) (qcz l22 n23 l24 l25 l26 l27 l28 l29 l30 l31) .ret (qgI false) :=
 h.lp [4] [] (by kernel_rfl)
theorem qwz (h : Oo [.b (decide (n23 < (↑l22.length : Int))) true, .p (0 ≤ n23), .p (n23 < (↑l22.length : Int)), .e l22 n23.toNat [I n32, B b33], .r 81 [cI n32, cI 0, cI 3] [cB b34], .b (!b34) false, .p ((0 : Int) ≤ none.getD 0), .p (none.getD 0 ≤ (some n23).getD (↑l31.length : Int)), .p ((some n23).getD (↑l31.length : Int) ≤ (↑l31.length : Int)), .r 126 [.one (.sl 2 (List.take (((some n23).getD (↑l31.length : Int)).toNat - 0) (List.drop 0 l31))), cI n32] [cB b35], .b b35 true]) :
 Tp (qaa Tryz.f123 2) (qcz l22 n23 l24 l25 l26 l27 l28 l29 l30 l31) .ret (qgI false) :=
 h.lp [4] [] (by kernel_rfl)
theorem qwA (h : Oo [.b (decide (n23 < (↑l22.length : Int))) true, .p (0 ≤ n23), .p (n23 < (↑l22.length : Int)), .e l22 n23.toNat [I n32, B b33], .r 81 [cI n32, cI 0, cI 3] [cB b34], .b (!b34) false, .p ((0 : Int) ≤ none.getD 0), .p (none.getD 0 ≤ (some n23).getD (↑l31.length : Int)), .p ((some n23).getD (↑l31.length : Int) ≤ (↑l31.length : Int)), .r 126 [.one (.sl 2 (List.take (((some n23).getD (↑l31.length : Int)).toNat - 0) (List.drop 0 l31))), cI n32] [cB b35], .b b35 false, .p (inInt .i64 (n23 + 1))]) :
 Tp (qaa Tryz.f123 2) (qcz l22 n23 l24 l25 l26 l27 l28 l29 l30 l31) .normal (qcz l22 (n23 + 1) l24 l25 l26 l27 l28 l29 l30 l31) :=
 h.lp [102, 101, 100, 3] [3] (by kernel_rfl)
def qiR : St :=
 { env := envOf 121 [], boxes := [] }
theorem qwB (h : Oo [.b (decide (n23 < (↑l22.length : Int))) false]) :
 Tp (qaa Tryz.f123 2) (qcz l22 n23 l24 l25 l26 l27 l28 l29 l30 l31) (.exit 4) qiR :=
 h.lp [] [] (by kernel_rfl)
theorem qwC (h : Oo [.r 125 [.agg (gr l0 n1 n2), cS 5 l3] [cB b11], .b (!b11) false, .r 125 [.agg (gr l0 n1 n2), cS 5 l4] [cB b12], .b (!b12) false, .r 125 [.agg (gr l0 n1 n2), cS 5 l5] [cB b13], .b (!b13) false, .r 198 [cS 4 l6] [cB b14], .b (!b14) false, .l [] [39, 38, 37, 3] [3] (qaa Tryz.f123 0) (qa7 l5 0 l3 l4 l5 l6 l7 l8 l9 l10) (.exit 0) (qde l15 l16 l17 l18 l19 l20 l21 l22), .b ((↑l19.length : Int) != 4) false, .b ((↑l20.length : Int) != 4) false, .b ((↑l21.length : Int) != 4) false, .l [] [91, 90, 89, 3] [3] (qaa Tryz.f123 1) (qdf l15 l16 l17 l18 l19 l20 l21 l22 0) (.exit 2) (qiQ l15 l16 l17 l18 l19 l20 l21 l22), .l [] [102, 101, 100, 3] [3] (qaa Tryz.f123 2) (qcz l22 0 l15 l16 l17 l18 l19 l20 l21 l22) .ret (qgI b23)]) :
 Rt 123 [.agg (gr l0 n1 n2), .agg (wk l3 l4 l5 l6 l7 l8 l9 l10)] [cB b23] :=
 h.of (by kernel_rfl)
theorem qwD (h : Oo [.r 125 [.agg (gr l0 n1 n2), cS 5 l3] [cB b11], .b (!b11) false, .r 125 [.agg (gr l0 n1 n2), cS 5 l4] [cB b12], .b (!b12) false, .r 125 [.agg (gr l0 n1 n2), cS 5 l5] [cB b13], .b (!b13) false, .r 198 [cS 4 l6] [cB b14], .b (!b14) false, .l [] [39, 38, 37, 3] [3] (qaa Tryz.f123 0) (qa7 l5 0 l3 l4 l5 l6 l7 l8 l9 l10) (.exit 0) (qde l15 l16 l17 l18 l19 l20 l21 l22), .b ((↑l19.length : Int) != 4) false, .b ((↑l20.length : Int) != 4) false, .b ((↑l21.length : Int) != 4) false, .l [] [91, 90, 89, 3] [3] (qaa Tryz.f123 1) (qdf l15 l16 l17 l18 l19 l20 l21 l22 0) (.exit 2) (qiQ l15 l16 l17 l18 l19 l20 l21 l22), .l [] [102, 101, 100, 3] [3] (qaa Tryz.f123 2) (qcz l22 0 l15 l16 l17 l18 l19 l20 l21 l22) (.exit 4) qiR]) :
 Rt 123 [.agg (gr l0 n1 n2), .agg (wk l3 l4 l5 l6 l7 l8 l9 l10)] [cB true] :=
 h.of (by kernel_rfl)
def qbF (n0 : Int) (l1 : LL) (n2 n3 n4 n5 n6 : Int) : St :=
 { env := envOf 70 [(1, vP 1), (3, vI n6)], boxes := [(1, [lI n0, .sl .free 5 l1, lI n2, lI n3, lI n4, lI n5])] }
def qiS (b0 : Bool) : St :=
 { env := envOf 70 [(2, .al (.one (.sb b0)))], boxes := [] }
theorem qwE (h : Oo [.b (decide (n6 < (↑l1.length : Int))) true, .p (0 ≤ n6), .p (n6 < (↑l1.length : Int)), .e l1 n6.toNat (ri n7 n8 n9 n10 n11), .r 164 [.agg (ri n7 n8 n9 n10 n11)] [cB b12], .b (!b12) true]) :
 Tp (qaa Tryz.f188 0) (qbF n0 l1 n2 n3 n4 n5 n6) .ret (qiS false) :=
 h.lp [2] [] (by kernel_rfl)
theorem qwF (h : Oo [.b (decide (n6 < (↑l1.length : Int))) true, .p (0 ≤ n6), .p (n6 < (↑l1.length : Int)), .e l1 n6.toNat (ri n7 n8 n9 n10 n11), .r 164 [.agg (ri n7 n8 n9 n10 n11)] [cB b12], .b (!b12) false, .p (inInt .i64 (n6 + 1))]) :
 Tp (qaa Tryz.f188 0) (qbF n0 l1 n2 n3 n4 n5 n6) .normal (qbF n0 l1 n2 n3 n4 n5 (n6 + 1)) :=
 h.lp [3, 1] [1] (by kernel_rfl)
def qdg (n0 : Int) (l1 : LL) (n2 n3 n4 n5 : Int) : St :=
 { env := envOf 70 [(1, vP 1)], boxes := [(1, [lI n0, .sl .free 5 l1, lI n2, lI n3, lI n4, lI n5])] }
theorem qwG (h : Oo [.b (decide (n6 < (↑l1.length : Int))) false]) :
 Tp (qaa Tryz.f188 0) (qbF n0 l1 n2 n3 n4 n5 n6) (.exit 0) (qdg n0 l1 n2 n3 n4 n5) :=
 h.lp [1] [1] (by kernel_rfl)
theorem qwH (h : Oo [.l [] [3, 1] [1] (qaa Tryz.f188 0) (qbF n0 l1 n2 n3 n4 n5 0) .ret (qiS b6)]) :
 Rt 188 [.agg (lk n0 l1 n2 n3 n4 n5)] [cB b6] :=
 h.of (by kernel_rfl)
theorem qwI (h : Oo [.l [] [3, 1] [1] (qaa Tryz.f188 0) (qbF n0 l1 n2 n3 n4 n5 0) (.exit 0) (qdg n0 l1 n2 n3 n4 n5), .r 137 [cI n0, cI 1, cI 4] [cB b6], .b b6 true, .r 137 [cI n2, cI 0, cI n0] [cB b7], .b b7 true, .r 137 [cI n3, cI 0, cI n0] [cB b8], .b b8 true, .p (inInt .i64 (n2 + n3)), .p (inInt .i64 (n2 + n3 + (↑l1.length : Int))), .b (n2 + n3 + (↑l1.length : Int) == n0) true, .r 137 [cI n4, cI 0, cI 1000000000] [cB b9], .b b9 true, .p (inInt .i64 (n4 - (↑l1.length : Int))), .b (n5 == n4 - (↑l1.length : Int)) true]) :
 Rt 188 [.agg (lk n0 l1 n2 n3 n4 n5)] [cB (decide (n5 ≥ 0))] :=
 h.of (by kernel_rfl)
theorem qwJ (h : Oo [.l [] [3, 1] [1] (qaa Tryz.f188 0) (qbF n0 l1 n2 n3 n4 n5 0) (.exit 0) (qdg n0 l1 n2 n3 n4 n5), .r 137 [cI n0, cI 1, cI 4] [cB b6], .b b6 true, .r 137 [cI n2, cI 0, cI n0] [cB b7], .b b7 true, .r 137 [cI n3, cI 0, cI n0] [cB b8], .b b8 true, .p (inInt .i64 (n2 + n3)), .p (inInt .i64 (n2 + n3 + (↑l1.length : Int))), .b (n2 + n3 + (↑l1.length : Int) == n0) true, .r 137 [cI n4, cI 0, cI 1000000000] [cB b9], .b b9 true, .p (inInt .i64 (n4 - (↑l1.length : Int))), .b (n5 == n4 - (↑l1.length : Int)) false]) :
 Rt 188 [.agg (lk n0 l1 n2 n3 n4 n5)] [cB false] :=
 h.of (by kernel_rfl)
theorem qwK (h : Oo [.l [] [3, 1] [1] (qaa Tryz.f188 0) (qbF n0 l1 n2 n3 n4 n5 0) (.exit 0) (qdg n0 l1 n2 n3 n4 n5), .r 137 [cI n0, cI 1, cI 4] [cB b6], .b b6 true, .r 137 [cI n2, cI 0, cI n0] [cB b7], .b b7 true, .r 137 [cI n3, cI 0, cI n0] [cB b8], .b b8 true, .p (inInt .i64 (n2 + n3)), .p (inInt .i64 (n2 + n3 + (↑l1.length : Int))), .b (n2 + n3 + (↑l1.length : Int) == n0) true, .r 137 [cI n4, cI 0, cI 1000000000] [cB b9], .b b9 false]) :
 Rt 188 [.agg (lk n0 l1 n2 n3 n4 n5)] [cB false] :=
 h.of (by kernel_rfl)
theorem qwL (h : Oo [.l [] [3, 1] [1] (qaa Tryz.f188 0) (qbF n0 l1 n2 n3 n4 n5 0) (.exit 0) (qdg n0 l1 n2 n3 n4 n5), .r 137 [cI n0, cI 1, cI 4] [cB b6], .b b6 true, .r 137 [cI n2, cI 0, cI n0] [cB b7], .b b7 true, .r 137 [cI n3, cI 0, cI n0] [cB b8], .b b8 true, .p (inInt .i64 (n2 + n3)), .p (inInt .i64 (n2 + n3 + (↑l1.length : Int))), .b (n2 + n3 + (↑l1.length : Int) == n0) false]) :
 Rt 188 [.agg (lk n0 l1 n2 n3 n4 n5)] [cB false] :=
 h.of (by kernel_rfl)
theorem qwM (h : Oo [.l [] [3, 1] [1] (qaa Tryz.f188 0) (qbF n0 l1 n2 n3 n4 n5 0) (.exit 0) (qdg n0 l1 n2 n3 n4 n5), .r 137 [cI n0, cI 1, cI 4] [cB b6], .b b6 true, .r 137 [cI n2, cI 0, cI n0] [cB b7], .b b7 true, .r 137 [cI n3, cI 0, cI n0] [cB b8], .b b8 false]) :
 Rt 188 [.agg (lk n0 l1 n2 n3 n4 n5)] [cB false] :=
 h.of (by kernel_rfl)
theorem qwN (h : Oo [.l [] [3, 1] [1] (qaa Tryz.f188 0) (qbF n0 l1 n2 n3 n4 n5 0) (.exit 0) (qdg n0 l1 n2 n3 n4 n5), .r 137 [cI n0, cI 1, cI 4] [cB b6], .b b6 true, .r 137 [cI n2, cI 0, cI n0] [cB b7], .b b7 false]) :
 Rt 188 [.agg (lk n0 l1 n2 n3 n4 n5)] [cB false] :=
 h.of (by kernel_rfl)
theorem qwO (h : Oo [.l [] [3, 1] [1] (qaa Tryz.f188 0) (qbF n0 l1 n2 n3 n4 n5 0) (.exit 0) (qdg n0 l1 n2 n3 n4 n5), .r 137 [cI n0, cI 1, cI 4] [cB b6], .b b6 false]) :
 Rt 188 [.agg (lk n0 l1 n2 n3 n4 n5)] [cB false] :=
 h.of (by kernel_rfl)
theorem qwP (h : Oo [.r 81 [cI n0, cI 1, cI 4] [cB b6], .b (!b6) true]) :
 Rt 124 [.agg (lk n0 l1 n2 n3 n4 n5)] [cB false] :=
 h.of (by kernel_rfl)
theorem qwQ (h : Oo [.r 81 [cI n0, cI 1, cI 4] [cB b6], .b (!b6) false, .r 81 [cI n2, cI 0, cI n0] [cB b7], .b (!b7) true]) :
 Rt 124 [.agg (lk n0 l1 n2 n3 n4 n5)] [cB false] :=
 h.of (by kernel_rfl)
theorem qwR (h : Oo [.r 81 [cI n0, cI 1, cI 4] [cB b6], .b (!b6) false, .r 81 [cI n2, cI 0, cI n0] [cB b7], .b (!b7) false, .r 81 [cI n3, cI 0, cI n0] [cB b8], .b (!b8) true]) :
 Rt 124 [.agg (lk n0 l1 n2 n3 n4 n5)] [cB false] :=
 h.of (by kernel_rfl)
theorem qwS (h : Oo [.r 81 [cI n0, cI 1, cI 4] [cB b6], .b (!b6) false, .r 81 [cI n2, cI 0, cI n0] [cB b7], .b (!b7) false, .r 81 [cI n3, cI 0, cI n0] [cB b8], .b (!b8) false, .p (inInt .i64 (n2 + n3)), .p (inInt .i64 (n2 + n3 + (↑l1.length : Int))), .b (n2 + n3 + (↑l1.length : Int) != n0) true]) :
 Rt 124 [.agg (lk n0 l1 n2 n3 n4 n5)] [cB false] :=
 h.of (by kernel_rfl)
theorem qwT (h : Oo [.r 81 [cI n0, cI 1, cI 4] [cB b6], .b (!b6) false, .r 81 [cI n2, cI 0, cI n0] [cB b7], .b (!b7) false, .r 81 [cI n3, cI 0, cI n0] [cB b8], .b (!b8) false, .p (inInt .i64 (n2 + n3)), .p (inInt .i64 (n2 + n3 + (↑l1.length : Int))), .b (n2 + n3 + (↑l1.length : Int) != n0) false, .r 81 [cI n4, cI 0, cI 1000000000] [cB b9], .b (!b9) true]) :
 Rt 124 [.agg (lk n0 l1 n2 n3 n4 n5)] [cB false] :=
 h.of (by kernel_rfl)
theorem qwU (h : Oo [.r 81 [cI n0, cI 1, cI 4] [cB b6], .b (!b6) false, .r 81 [cI n2, cI 0, cI n0] [cB b7], .b (!b7) false, .r 81 [cI n3, cI 0, cI n0] [cB b8], .b (!b8) false, .p (inInt .i64 (n2 + n3)), .p (inInt .i64 (n2 + n3 + (↑l1.length : Int))), .b (n2 + n3 + (↑l1.length : Int) != n0) false, .r 81 [cI n4, cI 0, cI 1000000000] [cB b9], .b (!b9) false, .b (decide (n5 < 0)) true]) :
 Rt 124 [.agg (lk n0 l1 n2 n3 n4 n5)] [cB false] :=
 h.of (by kernel_rfl)
theorem qwV (h : Oo [.r 81 [cI n0, cI 1, cI 4] [cB b6], .b (!b6) false, .r 81 [cI n2, cI 0, cI n0] [cB b7], .b (!b7) false, .r 81 [cI n3, cI 0, cI n0] [cB b8], .b (!b8) false, .p (inInt .i64 (n2 + n3)), .p (inInt .i64 (n2 + n3 + (↑l1.length : Int))), .b (n2 + n3 + (↑l1.length : Int) != n0) false, .r 81 [cI n4, cI 0, cI 1000000000] [cB b9], .b (!b9) false, .b (decide (n5 < 0)) false, .p (inInt .i64 (n4 - n5)), .b (n4 - n5 != (↑l1.length : Int)) true]) :
 Rt 124 [.agg (lk n0 l1 n2 n3 n4 n5)] [cB false] :=
 h.of (by kernel_rfl)
theorem qwW (h : Oo [.r 81 [cI n0, cI 1, cI 4] [cB b6], .b (!b6) false, .r 81 [cI n2, cI 0, cI n0] [cB b7], .b (!b7) false, .r 81 [cI n3, cI 0, cI n0] [cB b8], .b (!b8) false, .p (inInt .i64 (n2 + n3)), .p (inInt .i64 (n2 + n3 + (↑l1.length : Int))), .b (n2 + n3 + (↑l1.length : Int) != n0) false, .r 81 [cI n4, cI 0, cI 1000000000] [cB b9], .b (!b9) false, .b (decide (n5 < 0)) false, .p (inInt .i64 (n4 - n5)), .b (n4 - n5 != (↑l1.length : Int)) false, .r 199 [cS 5 l1] [cB b10]]) :
 Rt 124 [.agg (lk n0 l1 n2 n3 n4 n5)] [cB b10] :=
 h.of (by kernel_rfl)
def qdX (l0 : LL) (n1 : Int) : St :=
 { env := envOf 15 [(5, vF 5 l0), (6, vI (↑l0.length : Int)), (7, vI n1)], boxes := [] }
def qiT (b0 : Bool) : St :=
 { env := envOf 15 [(2, .al (.one (.sb b0)))], boxes := [] }
theorem qwX (h : Oo [.b (decide (n1 < (↑l0.length : Int))) true, .p (0 ≤ n1), .p (n1 < (↑l0.length : Int)), .e l0 n1.toNat (ri n2 n3 n4 n5 n6), .r 173 [.agg (ri n2 n3 n4 n5 n6)] [cB b7], .b (!b7) true]) :
 Tp (qaa Tryz.f199 0) (qdX l0 n1) .ret (qiT false) :=
 h.lp [2] [] (by kernel_rfl)
theorem qwY (h : Oo [.b (decide (n1 < (↑l0.length : Int))) true, .p (0 ≤ n1), .p (n1 < (↑l0.length : Int)), .e l0 n1.toNat (ri n2 n3 n4 n5 n6), .r 173 [.agg (ri n2 n3 n4 n5 n6)] [cB b7], .b (!b7) false, .p (inInt .i64 (n1 + 1))]) :
 Tp (qaa Tryz.f199 0) (qdX l0 n1) .normal (qdX l0 (n1 + 1)) :=
 h.lp [7, 6, 5] [] (by kernel_rfl)
def qmj : St :=
 { env := envOf 15 [], boxes := [] }
theorem qwZ (h : Oo [.b (decide (n1 < (↑l0.length : Int))) false]) :
 Tp (qaa Tryz.f199 0) (qdX l0 n1) (.exit 0) qmj :=
 h.lp [] [] (by kernel_rfl)
theorem qw0 (h : Oo [.l [] [7, 6, 5] [] (qaa Tryz.f199 0) (qdX l0 0) .ret (qiT b1)]) :
 Rt 199 [cS 5 l0] [cB b1] :=
 h.of (by kernel_rfl)
theorem qw1 (h : Oo [.l [] [7, 6, 5] [] (qaa Tryz.f199 0) (qdX l0 0) (.exit 0) qmj]) :
 Rt 199 [cS 5 l0] [cB true] :=
 h.of (by kernel_rfl)
theorem qw2 (h : Oo [.r 163 [.agg (gr l0 n1 n2)] [cB b7], .b (!b7) true]) :
 Rt 113 [.agg (cl l0 n1 n2 l3 l4 l5 l6)] [cB false] :=
 h.of (by kernel_rfl)
theorem qw3 (h : Oo [.r 163 [.agg (gr l0 n1 n2)] [cB b7], .b (!b7) false, .b ((↑l3.length : Int) != n1) true]) :
 Rt 113 [.agg (cl l0 n1 n2 l3 l4 l5 l6)] [cB false] :=
 h.of (by kernel_rfl)
theorem qw4 (h : Oo [.r 163 [.agg (gr l0 n1 n2)] [cB b7], .b (!b7) false, .b ((↑l3.length : Int) != n1) false, .p (inInt .i64 (n1 * n1)), .b ((↑l4.length : Int) != n1 * n1) true]) :
 Rt 113 [.agg (cl l0 n1 n2 l3 l4 l5 l6)] [cB false] :=
 h.of (by kernel_rfl)
theorem qw5 (h : Oo [.r 163 [.agg (gr l0 n1 n2)] [cB b7], .b (!b7) false, .b ((↑l3.length : Int) != n1) false, .p (inInt .i64 (n1 * n1)), .b ((↑l4.length : Int) != n1 * n1) false, .b ((↑l5.length : Int) != 4) true]) :
 Rt 113 [.agg (cl l0 n1 n2 l3 l4 l5 l6)] [cB false] :=
 h.of (by kernel_rfl)
def qbQ (l0 : LL) (n1 n2 : Int) (l3 l4 l5 l6 : LL) (n7 : Int) : St :=
 { env := envOf 170 [(1, vP 1), (3, vI n1), (4, vI n7)], boxes := [(1, [.sl .free 4 l0, lI n1, lI n2, .sl .free 8 l3, .sl .free 6 l4, .sl .free 5 l5, .sl .free 3 l6])] }
def qgJ (b0 : Bool) : St :=
 { env := envOf 170 [(2, .al (.one (.sb b0)))], boxes := [] }
theorem qw6 (h : Oo [.b (decide (n8 < n1)) true, .p (0 ≤ n8), .p (n8 < (↑l3.length : Int)), .e l3 n8.toNat (wk l9 l10 l11 l12 l13 l14 l15 l16), .r 187 [.agg (gr l0 n1 n2), .agg (wk l9 l10 l11 l12 l13 l14 l15 l16)] [cB b17], .b (!b17) true]) :
 Tp (qaa Tryz.f113 0) (qbQ l0 n1 n2 l3 l4 l5 l6 n8) .ret (qgJ false) :=
 h.lp [2] [] (by kernel_rfl)
theorem qw7 (h : Oo [.b (decide (n8 < n1)) true, .p (0 ≤ n8), .p (n8 < (↑l3.length : Int)), .e l3 n8.toNat (wk l9 l10 l11 l12 l13 l14 l15 l16), .r 187 [.agg (gr l0 n1 n2), .agg (wk l9 l10 l11 l12 l13 l14 l15 l16)] [cB b17], .b (!b17) false, .p (inInt .i64 (n8 + 1))]) :
 Tp (qaa Tryz.f113 0) (qbQ l0 n1 n2 l3 l4 l5 l6 n8) .normal (qbQ l0 n1 n2 l3 l4 l5 l6 (n8 + 1)) :=
 h.lp [4, 3, 1] [1] (by kernel_rfl)
def qeU (l0 : LL) (n1 n2 : Int) (l3 l4 l5 l6 : LL) : St :=
 { env := envOf 170 [(1, vP 1), (3, vI n1)], boxes := [(1, [.sl .free 4 l0, lI n1, lI n2, .sl .free 8 l3, .sl .free 6 l4, .sl .free 5 l5, .sl .free 3 l6])] }
theorem qw8 (h : Oo [.b (decide (n8 < n1)) false]) :
 Tp (qaa Tryz.f113 0) (qbQ l0 n1 n2 l3 l4 l5 l6 n8) (.exit 0) (qeU l0 n1 n2 l3 l4 l5 l6) :=
 h.lp [1, 3] [1] (by kernel_rfl)
theorem qw9 (h : Oo [.r 163 [.agg (gr l0 n1 n2)] [cB b7], .b (!b7) false, .b ((↑l3.length : Int) != n1) false, .p (inInt .i64 (n1 * n1)), .b ((↑l4.length : Int) != n1 * n1) false, .b ((↑l5.length : Int) != 4) false, .l [] [4, 3, 1] [1] (qaa Tryz.f113 0) (qbQ l0 n1 n2 l3 l4 l5 l6 0) .ret (qgJ b8)]) :
 Rt 113 [.agg (cl l0 n1 n2 l3 l4 l5 l6)] [cB b8] :=
 h.of (by kernel_rfl)
def qbd (n0 n1 : Int) (l2 : LL) (n3 n4 : Int) (l5 l6 l7 l8 : LL) : St :=
 { env := envOf 170 [(1, vP 1), (3, vI n0), (5, vI n1)], boxes := [(1, [.sl .free 4 l2, lI n3, lI n4, .sl .free 8 l5, .sl .free 6 l6, .sl .free 5 l7, .sl .free 3 l8])] }
def qeV (b0 : Bool) : St :=
 { env := envOf 170 [(2, .al (.one (.sb b0)))], boxes := [] }
theorem qxa (h : Oo [.b (decide (n8 < (↑l13.length : Int))) true, .p (0 ≤ n8), .p (n8 < (↑l13.length : Int)), .e l13 n8.toNat (lk n16 l17 n18 n19 n20 n21), .r 188 [.agg (lk n16 l17 n18 n19 n20 n21)] [cB b22], .b (!b22) true]) :
 Tp (qaa Tryz.f113 1) (qbd n1 n8 l9 n10 n11 l12 l13 l14 l15) .ret (qeV false) :=
 h.lp [2] [] (by kernel_rfl)
theorem qxb (h : Oo [.b (decide (n8 < (↑l13.length : Int))) true, .p (0 ≤ n8), .p (n8 < (↑l13.length : Int)), .e l13 n8.toNat (lk n16 l17 n18 n19 n20 n21), .r 188 [.agg (lk n16 l17 n18 n19 n20 n21)] [cB b22], .b (!b22) false, .b (n16 != n11) true]) :
 Tp (qaa Tryz.f113 1) (qbd n1 n8 l9 n10 n11 l12 l13 l14 l15) .ret (qeV false) :=
 h.lp [2] [] (by kernel_rfl)
theorem qxc (h : Oo [.b (decide (n8 < (↑l13.length : Int))) true, .p (0 ≤ n8), .p (n8 < (↑l13.length : Int)), .e l13 n8.toNat (lk n16 l17 n18 n19 n20 n21), .r 188 [.agg (lk n16 l17 n18 n19 n20 n21)] [cB b22], .b (!b22) false, .b (n16 != n11) false, .r 189 [.agg (gr l9 n10 n11), cS 5 l17] [cB b23], .b (!b23) true]) :
 Tp (qaa Tryz.f113 1) (qbd n1 n8 l9 n10 n11 l12 l13 l14 l15) .ret (qeV false) :=
 h.lp [2] [] (by kernel_rfl)
theorem qxd (h : Oo [.b (decide (n8 < (↑l13.length : Int))) true, .p (0 ≤ n8), .p (n8 < (↑l13.length : Int)), .e l13 n8.toNat (lk n16 l17 n18 n19 n20 n21), .r 188 [.agg (lk n16 l17 n18 n19 n20 n21)] [cB b22], .b (!b22) false, .b (n16 != n11) false, .r 189 [.agg (gr l9 n10 n11), cS 5 l17] [cB b23], .b (!b23) false, .p (n1 ≠ 0), .p (inInt .i64 (n8.tdiv n1)), .p (n1 ≠ 0), .b (n8.tdiv n1 == n8.tmod n1) true, .b (decide ((↑l17.length : Int) > 0)) true]) :
 Tp (qaa Tryz.f113 1) (qbd n1 n8 l9 n10 n11 l12 l13 l14 l15) .ret (qeV false) :=
 h.lp [2] [] (by kernel_rfl)
theorem qxe (h : Oo [.b (decide (n8 < (↑l13.length : Int))) true, .p (0 ≤ n8), .p (n8 < (↑l13.length : Int)), .e l13 n8.toNat (lk n16 l17 n18 n19 n20 n21), .r 188 [.agg (lk n16 l17 n18 n19 n20 n21)] [cB b22], .b (!b22) false, .b (n16 != n11) false, .r 189 [.agg (gr l9 n10 n11), cS 5 l17] [cB b23], .b (!b23) false, .p (n1 ≠ 0), .p (inInt .i64 (n8.tdiv n1)), .p (n1 ≠ 0), .b (n8.tdiv n1 == n8.tmod n1) true, .b (decide ((↑l17.length : Int) > 0)) false, .p (inInt .i64 (n8 + 1))]) :
 Tp (qaa Tryz.f113 1) (qbd n1 n8 l9 n10 n11 l12 l13 l14 l15) .normal (qbd n1 (n8 + 1) l9 n10 n11 l12 l13 l14 l15) :=
 h.lp [5, 1, 3] [1] (by kernel_rfl)
theorem qxf (h : Oo [.b (decide (n8 < (↑l13.length : Int))) true, .p (0 ≤ n8), .p (n8 < (↑l13.length : Int)), .e l13 n8.toNat (lk n16 l17 n18 n19 n20 n21), .r 188 [.agg (lk n16 l17 n18 n19 n20 n21)] [cB b22], .b (!b22) false, .b (n16 != n11) false, .r 189 [.agg (gr l9 n10 n11), cS 5 l17] [cB b23], .b (!b23) false, .p (n1 ≠ 0), .p (inInt .i64 (n8.tdiv n1)), .p (n1 ≠ 0), .b (n8.tdiv n1 == n8.tmod n1) false, .p (inInt .i64 (n8 + 1))]) :
 Tp (qaa Tryz.f113 1) (qbd n1 n8 l9 n10 n11 l12 l13 l14 l15) .normal (qbd n1 (n8 + 1) l9 n10 n11 l12 l13 l14 l15) :=
 h.lp [5, 1, 3] [1] (by kernel_rfl)
def qfz (n0 : Int) (l1 : LL) (n2 n3 : Int) (l4 l5 l6 l7 : LL) : St :=
 { env := envOf 170 [(1, vP 1), (3, vI n0)], boxes := [(1, [.sl .free 4 l1, lI n2, lI n3, .sl .free 8 l4, .sl .free 6 l5, .sl .free 5 l6, .sl .free 3 l7])] }
theorem qxg (h : Oo [.b (decide (n8 < (↑l13.length : Int))) false]) :
 Tp (qaa Tryz.f113 1) (qbd n1 n8 l9 n10 n11 l12 l13 l14 l15) (.exit 2) (qfz n1 l9 n10 n11 l12 l13 l14 l15) :=
 h.lp [1, 3] [1] (by kernel_rfl)
theorem qxh (h : Oo [.r 163 [.agg (gr l0 n1 n2)] [cB b7], .b (!b7) false, .b ((↑l3.length : Int) != n1) false, .p (inInt .i64 (n1 * n1)), .b ((↑l4.length : Int) != n1 * n1) false, .b ((↑l5.length : Int) != 4) false, .l [] [4, 3, 1] [1] (qaa Tryz.f113 0) (qbQ l0 n1 n2 l3 l4 l5 l6 0) (.exit 0) (qeU l0 n1 n2 l3 l4 l5 l6), .l [] [5, 1, 3] [1] (qaa Tryz.f113 1) (qbd n1 0 l0 n1 n2 l3 l4 l5 l6) .ret (qeV b8)]) :
 Rt 113 [.agg (cl l0 n1 n2 l3 l4 l5 l6)] [cB b8] :=
 h.of (by kernel_rfl)
def qbm (n0 : Int) (l1 : LL) (n2 n3 : Int) (l4 l5 l6 l7 : LL) (n8 : Int) : St :=
 { env := envOf 170 [(1, vP 1), (3, vI n0), (7, vI n8)], boxes := [(1, [.sl .free 4 l1, lI n2, lI n3, .sl .free 8 l4, .sl .free 6 l5, .sl .free 5 l6, .sl .free 3 l7])] }
def qdY (b0 : Bool) : St :=
 { env := envOf 170 [(2, .al (.one (.sb b0)))], boxes := [] }
theorem qxi (h : Oo [.b (decide (n15 < (↑l13.length : Int))) true, .p (0 ≤ n15), .p (n15 < (↑l13.length : Int)), .e l13 n15.toNat [B b16, I n17, I n18, B b19, B b20], .p (inInt .i64 (n1 - 1)), .r 137 [cI n17, cI 0, cI (n1 - 1)] [cB b21], .b (!b21) true]) :
 Tp (qaa Tryz.f113 2) (qbm n1 l8 n9 n10 l11 l12 l13 l14 n15) .ret (qdY false) :=
 h.lp [2] [] (by kernel_rfl)
theorem qxj (h : Oo [.b (decide (n15 < (↑l13.length : Int))) true, .p (0 ≤ n15), .p (n15 < (↑l13.length : Int)), .e l13 n15.toNat [B b16, I n17, I n18, B b19, B b20], .p (inInt .i64 (n1 - 1)), .r 137 [cI n17, cI 0, cI (n1 - 1)] [cB b21], .b (!b21) false, .p (0 ≤ n15), .p (n15 < (↑l13.length : Int)), .e l13 n15.toNat [B b22, I n23, I n24, B b25, B b26], .b (!b22) true, .p (0 ≤ n15), .p (n15 < (↑l13.length : Int)), .e l13 n15.toNat [B b27, I n28, I n29, B b30, B b31], .b (n28 != 0) true]) :
 Tp (qaa Tryz.f113 2) (qbm n1 l8 n9 n10 l11 l12 l13 l14 n15) .ret (qdY false) :=
 h.lp [2] [] (by kernel_rfl)
theorem qxk (h : Oo [.b (decide (n15 < (↑l13.length : Int))) true, .p (0 ≤ n15), .p (n15 < (↑l13.length : Int)), .e l13 n15.toNat [B b16, I n17, I n18, B b19, B b20], .p (inInt .i64 (n1 - 1)), .r 137 [cI n17, cI 0, cI (n1 - 1)] [cB b21], .b (!b21) false, .p (0 ≤ n15), .p (n15 < (↑l13.length : Int)), .e l13 n15.toNat [B b22, I n23, I n24, B b25, B b26], .b (!b22) true, .p (0 ≤ n15), .p (n15 < (↑l13.length : Int)), .e l13 n15.toNat [B b27, I n28, I n29, B b30, B b31], .b (n28 != 0) false, .p (0 ≤ n15), .p (n15 < (↑l13.length : Int)), .e l13 n15.toNat [B b32, I n33, I n34, B b35, B b36], .r 137 [cI n34, cI (-1000000), cI 1000000] [cB b37], .b (!b37) true]) :
 Tp (qaa Tryz.f113 2) (qbm n1 l8 n9 n10 l11 l12 l13 l14 n15) .ret (qdY false) :=
 h.lp [2] [] (by kernel_rfl)
theorem qxl (h : Oo [.b (decide (n15 < (↑l13.length : Int))) true, .p (0 ≤ n15), .p (n15 < (↑l13.length : Int)), .e l13 n15.toNat [B b16, I n17, I n18, B b19, B b20], .p (inInt .i64 (n1 - 1)), .r 137 [cI n17, cI 0, cI (n1 - 1)] [cB b21], .b (!b21) false, .p (0 ≤ n15), .p (n15 < (↑l13.length : Int)), .e l13 n15.toNat [B b22, I n23, I n24, B b25, B b26], .b (!b22) true, .p (0 ≤ n15), .p (n15 < (↑l13.length : Int)), .e l13 n15.toNat [B b27, I n28, I n29, B b30, B b31], .b (n28 != 0) false, .p (0 ≤ n15), .p (n15 < (↑l13.length : Int)), .e l13 n15.toNat [B b32, I n33, I n34, B b35, B b36], .r 137 [cI n34, cI (-1000000), cI 1000000] [cB b37], .b (!b37) false, .p (inInt .i64 (n15 + 1))]) :
 Tp (qaa Tryz.f113 2) (qbm n1 l8 n9 n10 l11 l12 l13 l14 n15) .normal (qbm n1 l8 n9 n10 l11 l12 l13 l14 (n15 + 1)) :=
 h.lp [7, 1, 3] [1] (by kernel_rfl)
theorem qxm (h : Oo [.b (decide (n15 < (↑l13.length : Int))) true, .p (0 ≤ n15), .p (n15 < (↑l13.length : Int)), .e l13 n15.toNat [B b16, I n17, I n18, B b19, B b20], .p (inInt .i64 (n1 - 1)), .r 137 [cI n17, cI 0, cI (n1 - 1)] [cB b21], .b (!b21) false, .p (0 ≤ n15), .p (n15 < (↑l13.length : Int)), .e l13 n15.toNat [B b22, I n23, I n24, B b25, B b26], .b (!b22) false, .p (0 ≤ n15), .p (n15 < (↑l13.length : Int)), .e l13 n15.toNat [B b27, I n28, I n29, B b30, B b31], .r 137 [cI n29, cI (-1000000), cI 1000000] [cB b32], .b (!b32) true]) :
 Tp (qaa Tryz.f113 2) (qbm n1 l8 n9 n10 l11 l12 l13 l14 n15) .ret (qdY false) :=
 h.lp [2] [] (by kernel_rfl)
theorem qxn (h : Oo [.b (decide (n15 < (↑l13.length : Int))) true, .p (0 ≤ n15), .p (n15 < (↑l13.length : Int)), .e l13 n15.toNat [B b16, I n17, I n18, B b19, B b20], .p (inInt .i64 (n1 - 1)), .r 137 [cI n17, cI 0, cI (n1 - 1)] [cB b21], .b (!b21) false, .p (0 ≤ n15), .p (n15 < (↑l13.length : Int)), .e l13 n15.toNat [B b22, I n23, I n24, B b25, B b26], .b (!b22) false, .p (0 ≤ n15), .p (n15 < (↑l13.length : Int)), .e l13 n15.toNat [B b27, I n28, I n29, B b30, B b31], .r 137 [cI n29, cI (-1000000), cI 1000000] [cB b32], .b (!b32) false, .p (inInt .i64 (n15 + 1))]) :
 Tp (qaa Tryz.f113 2) (qbm n1 l8 n9 n10 l11 l12 l13 l14 n15) .normal (qbm n1 l8 n9 n10 l11 l12 l13 l14 (n15 + 1)) :=
 h.lp [7, 1, 3] [1] (by kernel_rfl)
def qgK (n0 : Int) (l1 : LL) (n2 n3 : Int) (l4 l5 l6 l7 : LL) : St :=
 { env := envOf 170 [(1, vP 1), (3, vI n0)], boxes := [(1, [.sl .free 4 l1, lI n2, lI n3, .sl .free 8 l4, .sl .free 6 l5, .sl .free 5 l6, .sl .free 3 l7])] }
theorem qxo (h : Oo [.b (decide (n15 < (↑l13.length : Int))) false]) :
 Tp (qaa Tryz.f113 2) (qbm n1 l8 n9 n10 l11 l12 l13 l14 n15) (.exit 4) (qgK n1 l8 n9 n10 l11 l12 l13 l14) :=
 h.lp [1, 3] [1] (by kernel_rfl)
theorem qxp (h : Oo [.r 163 [.agg (gr l0 n1 n2)] [cB b7], .b (!b7) false, .b ((↑l3.length : Int) != n1) false, .p (inInt .i64 (n1 * n1)), .b ((↑l4.length : Int) != n1 * n1) false, .b ((↑l5.length : Int) != 4) false, .l [] [4, 3, 1] [1] (qaa Tryz.f113 0) (qbQ l0 n1 n2 l3 l4 l5 l6 0) (.exit 0) (qeU l0 n1 n2 l3 l4 l5 l6), .l [] [5, 1, 3] [1] (qaa Tryz.f113 1) (qbd n1 0 l0 n1 n2 l3 l4 l5 l6) (.exit 2) (qfz n1 l8 n9 n10 l11 l12 l13 l14), .l [] [7, 1, 3] [1] (qaa Tryz.f113 2) (qbm n1 l8 n9 n10 l11 l12 l13 l14 0) .ret (qdY b15)]) :
 Rt 113 [.agg (cl l0 n1 n2 l3 l4 l5 l6)] [cB b15] :=
 h.of (by kernel_rfl)
def qcA (n0 : Int) (l1 : LL) (n2 n3 : Int) (l4 l5 l6 l7 : LL) (n8 : Int) : St :=
 { env := envOf 170 [(1, vP 1), (3, vI n0), (8, vI n8)], boxes := [(1, [.sl .free 4 l1, lI n2, lI n3, .sl .free 8 l4, .sl .free 6 l5, .sl .free 5 l6, .sl .free 3 l7])] }
def qfA (b0 : Bool) : St :=
 { env := envOf 170 [(2, .al (.one (.sb b0)))], boxes := [] }
theorem qxq (h : Oo [.b (decide (n15 < (↑l14.length : Int))) true, .p (0 ≤ n15), .p (n15 < (↑l14.length : Int)), .e l14 n15.toNat [I n16, I n17, B b18], .p (inInt .i64 (n1 - 1)), .r 137 [cI n16, cI 0, cI (n1 - 1)] [cB b19], .b (!b19) true]) :
 Tp (qaa Tryz.f113 3) (qcA n1 l8 n9 n10 l11 l12 l13 l14 n15) .ret (qfA false) :=
 h.lp [2] [] (by kernel_rfl)
theorem qxr (h : Oo [.b (decide (n15 < (↑l14.length : Int))) true, .p (0 ≤ n15), .p (n15 < (↑l14.length : Int)), .e l14 n15.toNat [I n16, I n17, B b18], .p (inInt .i64 (n1 - 1)), .r 137 [cI n16, cI 0, cI (n1 - 1)] [cB b19], .b (!b19) false, .p (0 ≤ n15), .p (n15 < (↑l14.length : Int)), .e l14 n15.toNat [I n20, I n21, B b22], .r 137 [cI n21, cI 0, cI 3] [cB b23], .b (!b23) true]) :
 Tp (qaa Tryz.f113 3) (qcA n1 l8 n9 n10 l11 l12 l13 l14 n15) .ret (qfA false) :=
 h.lp [2] [] (by kernel_rfl)
theorem qxs (h : Oo [.b (decide (n15 < (↑l14.length : Int))) true, .p (0 ≤ n15), .p (n15 < (↑l14.length : Int)), .e l14 n15.toNat [I n16, I n17, B b18], .p (inInt .i64 (n1 - 1)), .r 137 [cI n16, cI 0, cI (n1 - 1)] [cB b19], .b (!b19) false, .p (0 ≤ n15), .p (n15 < (↑l14.length : Int)), .e l14 n15.toNat [I n20, I n21, B b22], .r 137 [cI n21, cI 0, cI 3] [cB b23], .b (!b23) false, .p (inInt .i64 (n15 + 1))]) :
 Tp (qaa Tryz.f113 3) (qcA n1 l8 n9 n10 l11 l12 l13 l14 n15) .normal (qcA n1 l8 n9 n10 l11 l12 l13 l14 (n15 + 1)) :=
 h.lp [8, 1, 3] [1] (by kernel_rfl)
def qiU : St :=
 { env := envOf 170 [], boxes := [] }
theorem qxt (h : Oo [.b (decide (n15 < (↑l14.length : Int))) false]) :
 Tp (qaa Tryz.f113 3) (qcA n1 l8 n9 n10 l11 l12 l13 l14 n15) (.exit 6) qiU :=
 h.lp [] [] (by kernel_rfl)
theorem qxu (h : Oo [.r 163 [.agg (gr l0 n1 n2)] [cB b7], .b (!b7) false, .b ((↑l3.length : Int) != n1) false, .p (inInt .i64 (n1 * n1)), .b ((↑l4.length : Int) != n1 * n1) false, .b ((↑l5.length : Int) != 4) false, .l [] [4, 3, 1] [1] (qaa Tryz.f113 0) (qbQ l0 n1 n2 l3 l4 l5 l6 0) (.exit 0) (qeU l0 n1 n2 l3 l4 l5 l6), .l [] [5, 1, 3] [1] (qaa Tryz.f113 1) (qbd n1 0 l0 n1 n2 l3 l4 l5 l6) (.exit 2) (qfz n1 l8 n9 n10 l11 l12 l13 l14), .l [] [7, 1, 3] [1] (qaa Tryz.f113 2) (qbm n1 l8 n9 n10 l11 l12 l13 l14 0) (.exit 4) (qgK n1 l8 n9 n10 l11 l12 l13 l14), .l [] [8, 1, 3] [1] (qaa Tryz.f113 3) (qcA n1 l8 n9 n10 l11 l12 l13 l14 0) .ret (qfA b15)]) :
 Rt 113 [.agg (cl l0 n1 n2 l3 l4 l5 l6)] [cB b15] :=
 h.of (by kernel_rfl)
theorem qxv (h : Oo [.r 163 [.agg (gr l0 n1 n2)] [cB b7], .b (!b7) false, .b ((↑l3.length : Int) != n1) false, .p (inInt .i64 (n1 * n1)), .b ((↑l4.length : Int) != n1 * n1) false, .b ((↑l5.length : Int) != 4) false, .l [] [4, 3, 1] [1] (qaa Tryz.f113 0) (qbQ l0 n1 n2 l3 l4 l5 l6 0) (.exit 0) (qeU l0 n1 n2 l3 l4 l5 l6), .l [] [5, 1, 3] [1] (qaa Tryz.f113 1) (qbd n1 0 l0 n1 n2 l3 l4 l5 l6) (.exit 2) (qfz n1 l8 n9 n10 l11 l12 l13 l14), .l [] [7, 1, 3] [1] (qaa Tryz.f113 2) (qbm n1 l8 n9 n10 l11 l12 l13 l14 0) (.exit 4) (qgK n1 l8 n9 n10 l11 l12 l13 l14), .l [] [8, 1, 3] [1] (qaa Tryz.f113 3) (qcA n1 l8 n9 n10 l11 l12 l13 l14 0) (.exit 6) qiU]) :
 Rt 113 [.agg (cl l0 n1 n2 l3 l4 l5 l6)] [cB true] :=
 h.of (by kernel_rfl)
theorem qxw (h : Oo [.r 122 [.agg (gr l0 n1 n2)] [cB b7], .b (!b7) true]) :
 Rt 64 [.agg (cl l0 n1 n2 l3 l4 l5 l6)] [cB false] :=
 h.of (by kernel_rfl)
theorem qxx (h : Oo [.r 122 [.agg (gr l0 n1 n2)] [cB b7], .b (!b7) false, .b ((↑l3.length : Int) != n1) true]) :
 Rt 64 [.agg (cl l0 n1 n2 l3 l4 l5 l6)] [cB false] :=
 h.of (by kernel_rfl)
theorem qxy (h : Oo [.r 122 [.agg (gr l0 n1 n2)] [cB b7], .b (!b7) false, .b ((↑l3.length : Int) != n1) false, .p (inInt .i64 (n1 * n1)), .b ((↑l4.length : Int) != n1 * n1) true]) :
 Rt 64 [.agg (cl l0 n1 n2 l3 l4 l5 l6)] [cB false] :=
 h.of (by kernel_rfl)
theorem qxz (h : Oo [.r 122 [.agg (gr l0 n1 n2)] [cB b7], .b (!b7) false, .b ((↑l3.length : Int) != n1) false, .p (inInt .i64 (n1 * n1)), .b ((↑l4.length : Int) != n1 * n1) false, .b ((↑l5.length : Int) != 4) true]) :
 Rt 64 [.agg (cl l0 n1 n2 l3 l4 l5 l6)] [cB false] :=
 h.of (by kernel_rfl)
def qbR (n0 : Int) (l1 : LL) (n2 : Int) (l3 : LL) (n4 n5 : Int) (l6 l7 l8 l9 : LL) : St :=
 { env := envOf 147 [(1, vP 1), (3, vI n0), (42, vF 8 l1), (43, vI (↑l1.length : Int)), (44, vI n2)], boxes := [(1, [.sl .free 4 l3, lI n4, lI n5, .sl .free 8 l6, .sl .free 6 l7, .sl .free 5 l8, .sl .free 3 l9])] }
def qgL (b0 : Bool) : St :=
 { env := envOf 147 [(2, .al (.one (.sb b0)))], boxes := [] }
theorem qxA (h : Oo [.b (decide (n8 < (↑l3.length : Int))) true, .p (0 ≤ n8), .p (n8 < (↑l3.length : Int)), .e l3 n8.toNat (wk l16 l17 l18 l19 l20 l21 l22 l23), .r 123 [.agg (gr l9 n10 n11), .agg (wk l16 l17 l18 l19 l20 l21 l22 l23)] [cB b24], .b (!b24) true]) :
 Tp (qaa Tryz.f64 0) (qbR n1 l3 n8 l9 n10 n11 l12 l13 l14 l15) .ret (qgL false) :=
 h.lp [2] [] (by kernel_rfl)
theorem qxB (h : Oo [.b (decide (n8 < (↑l3.length : Int))) true, .p (0 ≤ n8), .p (n8 < (↑l3.length : Int)), .e l3 n8.toNat (wk l16 l17 l18 l19 l20 l21 l22 l23), .r 123 [.agg (gr l9 n10 n11), .agg (wk l16 l17 l18 l19 l20 l21 l22 l23)] [cB b24], .b (!b24) false, .p (inInt .i64 (n8 + 1))]) :
 Tp (qaa Tryz.f64 0) (qbR n1 l3 n8 l9 n10 n11 l12 l13 l14 l15) .normal (qbR n1 l3 (n8 + 1) l9 n10 n11 l12 l13 l14 l15) :=
 h.lp [44, 43, 42, 1, 3] [1] (by kernel_rfl)
def qeW (n0 : Int) (l1 : LL) (n2 n3 : Int) (l4 l5 l6 l7 : LL) : St :=
 { env := envOf 147 [(1, vP 1), (3, vI n0)], boxes := [(1, [.sl .free 4 l1, lI n2, lI n3, .sl .free 8 l4, .sl .free 6 l5, .sl .free 5 l6, .sl .free 3 l7])] }
theorem qxC (h : Oo [.b (decide (n8 < (↑l3.length : Int))) false]) :
 Tp (qaa Tryz.f64 0) (qbR n1 l3 n8 l9 n10 n11 l12 l13 l14 l15) (.exit 0) (qeW n1 l9 n10 n11 l12 l13 l14 l15) :=
 h.lp [1, 3] [1] (by kernel_rfl)
theorem qxD (h : Oo [.r 122 [.agg (gr l0 n1 n2)] [cB b7], .b (!b7) false, .b ((↑l3.length : Int) != n1) false, .p (inInt .i64 (n1 * n1)), .b ((↑l4.length : Int) != n1 * n1) false, .b ((↑l5.length : Int) != 4) false, .l [] [44, 43, 42, 1, 3] [1] (qaa Tryz.f64 0) (qbR n1 l3 0 l0 n1 n2 l3 l4 l5 l6) .ret (qgL b8)]) :
 Rt 64 [.agg (cl l0 n1 n2 l3 l4 l5 l6)] [cB b8] :=
 h.of (by kernel_rfl)
def qbe (n0 : Int) (l1 : LL) (n2 : Int) (l3 : LL) (n4 n5 : Int) (l6 l7 l8 l9 : LL) : St :=
 { env := envOf 147 [(1, vP 1), (3, vI n0), (55, vF 6 l1), (56, vI (↑l1.length : Int)), (57, vI n2)], boxes := [(1, [.sl .free 4 l3, lI n4, lI n5, .sl .free 8 l6, .sl .free 6 l7, .sl .free 5 l8, .sl .free 3 l9])] }
def qeX (b0 : Bool) : St :=
 { env := envOf 147 [(2, .al (.one (.sb b0)))], boxes := [] }
theorem qxE (h : Oo [.b (decide (n15 < (↑l12.length : Int))) true, .p (0 ≤ n15), .p (n15 < (↑l12.length : Int)), .e l12 n15.toNat (lk n23 l24 n25 n26 n27 n28), .r 124 [.agg (lk n23 l24 n25 n26 n27 n28)] [cB b29], .b (!b29) true]) :
 Tp (qaa Tryz.f64 1) (qbe n1 l12 n15 l16 n17 n18 l19 l20 l21 l22) .ret (qeX false) :=
 h.lp [2] [] (by kernel_rfl)
theorem qxF (h : Oo [.b (decide (n15 < (↑l12.length : Int))) true, .p (0 ≤ n15), .p (n15 < (↑l12.length : Int)), .e l12 n15.toNat (lk n23 l24 n25 n26 n27 n28), .r 124 [.agg (lk n23 l24 n25 n26 n27 n28)] [cB b29], .b (!b29) false, .b (n23 != n18) true]) :
 Tp (qaa Tryz.f64 1) (qbe n1 l12 n15 l16 n17 n18 l19 l20 l21 l22) .ret (qeX false) :=
 h.lp [2] [] (by kernel_rfl)
theorem qxG (h : Oo [.b (decide (n15 < (↑l12.length : Int))) true, .p (0 ≤ n15), .p (n15 < (↑l12.length : Int)), .e l12 n15.toNat (lk n23 l24 n25 n26 n27 n28), .r 124 [.agg (lk n23 l24 n25 n26 n27 n28)] [cB b29], .b (!b29) false, .b (n23 != n18) false, .r 125 [.agg (gr l16 n17 n18), cS 5 l24] [cB b30], .b (!b30) true]) :
 Tp (qaa Tryz.f64 1) (qbe n1 l12 n15 l16 n17 n18 l19 l20 l21 l22) .ret (qeX false) :=
 h.lp [2] [] (by kernel_rfl)
theorem qxH (h : Oo [.b (decide (n15 < (↑l12.length : Int))) true, .p (0 ≤ n15), .p (n15 < (↑l12.length : Int)), .e l12 n15.toNat (lk n23 l24 n25 n26 n27 n28), .r 124 [.agg (lk n23 l24 n25 n26 n27 n28)] [cB b29], .b (!b29) false, .b (n23 != n18) false, .r 125 [.agg (gr l16 n17 n18), cS 5 l24] [cB b30], .b (!b30) false, .p (n1 ≠ 0), .p (inInt .i64 (n15.tdiv n1)), .p (n1 ≠ 0), .b (n15.tdiv n1 == n15.tmod n1) true, .b (decide ((↑l24.length : Int) > 0)) true]) :
 Tp (qaa Tryz.f64 1) (qbe n1 l12 n15 l16 n17 n18 l19 l20 l21 l22) .ret (qeX false) :=
 h.lp [2] [] (by kernel_rfl)
theorem qxI (h : Oo [.b (decide (n15 < (↑l12.length : Int))) true, .p (0 ≤ n15), .p (n15 < (↑l12.length : Int)), .e l12 n15.toNat (lk n23 l24 n25 n26 n27 n28), .r 124 [.agg (lk n23 l24 n25 n26 n27 n28)] [cB b29], .b (!b29) false, .b (n23 != n18) false, .r 125 [.agg (gr l16 n17 n18), cS 5 l24] [cB b30], .b (!b30) false, .p (n1 ≠ 0), .p (inInt .i64 (n15.tdiv n1)), .p (n1 ≠ 0), .b (n15.tdiv n1 == n15.tmod n1) true, .b (decide ((↑l24.length : Int) > 0)) false, .p (inInt .i64 (n15 + 1))]) :
 Tp (qaa Tryz.f64 1) (qbe n1 l12 n15 l16 n17 n18 l19 l20 l21 l22) .normal (qbe n1 l12 (n15 + 1) l16 n17 n18 l19 l20 l21 l22) :=
 h.lp [57, 56, 55, 1, 3] [1] (by kernel_rfl)
theorem qxJ (h : Oo [.b (decide (n15 < (↑l12.length : Int))) true, .p (0 ≤ n15), .p (n15 < (↑l12.length : Int)), .e l12 n15.toNat (lk n23 l24 n25 n26 n27 n28), .r 124 [.agg (lk n23 l24 n25 n26 n27 n28)] [cB b29], .b (!b29) false, .b (n23 != n18) false, .r 125 [.agg (gr l16 n17 n18), cS 5 l24] [cB b30], .b (!b30) false, .p (n1 ≠ 0), .p (inInt .i64 (n15.tdiv n1)), .p (n1 ≠ 0), .b (n15.tdiv n1 == n15.tmod n1) false, .p (inInt .i64 (n15 + 1))]) :
 Tp (qaa Tryz.f64 1) (qbe n1 l12 n15 l16 n17 n18 l19 l20 l21 l22) .normal (qbe n1 l12 (n15 + 1) l16 n17 n18 l19 l20 l21 l22) :=
 h.lp [57, 56, 55, 1, 3] [1] (by kernel_rfl)
def qfB (n0 : Int) (l1 : LL) (n2 n3 : Int) (l4 l5 l6 l7 : LL) : St :=
 { env := envOf 147 [(1, vP 1), (3, vI n0)], boxes := [(1, [.sl .free 4 l1, lI n2, lI n3, .sl .free 8 l4, .sl .free 6 l5, .sl .free 5 l6, .sl .free 3 l7])] }
theorem qxK (h : Oo [.b (decide (n15 < (↑l12.length : Int))) false]) :
 Tp (qaa Tryz.f64 1) (qbe n1 l12 n15 l16 n17 n18 l19 l20 l21 l22) (.exit 2) (qfB n1 l16 n17 n18 l19 l20 l21 l22) :=
 h.lp [1, 3] [1] (by kernel_rfl)
theorem qxL (h : Oo [.r 122 [.agg (gr l0 n1 n2)] [cB b7], .b (!b7) false, .b ((↑l3.length : Int) != n1) false, .p (inInt .i64 (n1 * n1)), .b ((↑l4.length : Int) != n1 * n1) false, .b ((↑l5.length : Int) != 4) false, .l [] [44, 43, 42, 1, 3] [1] (qaa Tryz.f64 0) (qbR n1 l3 0 l0 n1 n2 l3 l4 l5 l6) (.exit 0) (qeW n1 l8 n9 n10 l11 l12 l13 l14), .l [] [57, 56, 55, 1, 3] [1] (qaa Tryz.f64 1) (qbe n1 l12 0 l8 n9 n10 l11 l12 l13 l14) .ret (qeX b15)]) :
 Rt 64 [.agg (cl l0 n1 n2 l3 l4 l5 l6)] [cB b15] :=
 h.of (by kernel_rfl)
def qbn (n0 : Int) (l1 : LL) (n2 : Int) (l3 : LL) (n4 n5 : Int) (l6 l7 l8 l9 : LL) : St :=
 { env := envOf 147 [(1, vP 1), (3, vI n0), (98, vF 5 l1), (99, vI (↑l1.length : Int)), (100, vI n2)], boxes := [(1, [.sl .free 4 l3, lI n4, lI n5, .sl .free 8 l6, .sl .free 6 l7, .sl .free 5 l8, .sl .free 3 l9])] }
def qdZ (b0 : Bool) : St :=
 { env := envOf 147 [(2, .al (.one (.sb b0)))], boxes := [] }
theorem qxM (h : Oo [.b (decide (n22 < (↑l20.length : Int))) true, .p (0 ≤ n22), .p (n22 < (↑l20.length : Int)), .e l20 n22.toNat [B b30, I n31, I n32, B b33, B b34], .p (inInt .i64 (n1 - 1)), .r 81 [cI n31, cI 0, cI (n1 - 1)] [cB b35], .b (!b35) true]) :
 Tp (qaa Tryz.f64 2) (qbn n1 l20 n22 l23 n24 n25 l26 l27 l28 l29) .ret (qdZ false) :=
 h.lp [2] [] (by kernel_rfl)
theorem qxN (h : Oo [.b (decide (n22 < (↑l20.length : Int))) true, .p (0 ≤ n22), .p (n22 < (↑l20.length : Int)), .e l20 n22.toNat [B b30, I n31, I n32, B b33, B b34], .p (inInt .i64 (n1 - 1)), .r 81 [cI n31, cI 0, cI (n1 - 1)] [cB b35], .b (!b35) false, .b (!b30) true, .b (n31 != 0) true]) :
 Tp (qaa Tryz.f64 2) (qbn n1 l20 n22 l23 n24 n25 l26 l27 l28 l29) .ret (qdZ false) :=
 h.lp [2] [] (by kernel_rfl)
theorem qxO (h : Oo [.b (decide (n22 < (↑l20.length : Int))) true, .p (0 ≤ n22), .p (n22 < (↑l20.length : Int)), .e l20 n22.toNat [B b30, I n31, I n32, B b33, B b34], .p (inInt .i64 (n1 - 1)), .r 81 [cI n31, cI 0, cI (n1 - 1)] [cB b35], .b (!b35) false, .b (!b30) true, .b (n31 != 0) false, .r 81 [cI n32, cI (-1000000), cI 1000000] [cB b36], .b (!b36) true]) :
 Tp (qaa Tryz.f64 2) (qbn n1 l20 n22 l23 n24 n25 l26 l27 l28 l29) .ret (qdZ false) :=
 h.lp [2] [] (by kernel_rfl)
theorem qxP (h : Oo [.b (decide (n22 < (↑l20.length : Int))) true, .p (0 ≤ n22), .p (n22 < (↑l20.length : Int)), .e l20 n22.toNat [B b30, I n31, I n32, B b33, B b34], .p (inInt .i64 (n1 - 1)), .r 81 [cI n31, cI 0, cI (n1 - 1)] [cB b35], .b (!b35) false, .b (!b30) true, .b (n31 != 0) false, .r 81 [cI n32, cI (-1000000), cI 1000000] [cB b36], .b (!b36) false, .p (inInt .i64 (n22 + 1))]) :
 Tp (qaa Tryz.f64 2) (qbn n1 l20 n22 l23 n24 n25 l26 l27 l28 l29) .normal (qbn n1 l20 (n22 + 1) l23 n24 n25 l26 l27 l28 l29) :=
 h.lp [100, 99, 98, 3, 1] [1] (by kernel_rfl)
theorem qxQ (h : Oo [.b (decide (n22 < (↑l20.length : Int))) true, .p (0 ≤ n22), .p (n22 < (↑l20.length : Int)), .e l20 n22.toNat [B b30, I n31, I n32, B b33, B b34], .p (inInt .i64 (n1 - 1)), .r 81 [cI n31, cI 0, cI (n1 - 1)] [cB b35], .b (!b35) false, .b (!b30) false, .r 81 [cI n32, cI (-1000000), cI 1000000] [cB b36], .b (!b36) true]) :
 Tp (qaa Tryz.f64 2) (qbn n1 l20 n22 l23 n24 n25 l26 l27 l28 l29) .ret (qdZ false) :=
 h.lp [2] [] (by kernel_rfl)
theorem qxR (h : Oo [.b (decide (n22 < (↑l20.length : Int))) true, .p (0 ≤ n22), .p (n22 < (↑l20.length : Int)), .e l20 n22.toNat [B b30, I n31, I n32, B b33, B b34], .p (inInt .i64 (n1 - 1)), .r 81 [cI n31, cI 0, cI (n1 - 1)] [cB b35], .b (!b35) false, .b (!b30) false, .r 81 [cI n32, cI (-1000000), cI 1000000] [cB b36], .b (!b36) false, .p (inInt .i64 (n22 + 1))]) :
 Tp (qaa Tryz.f64 2) (qbn n1 l20 n22 l23 n24 n25 l26 l27 l28 l29) .normal (qbn n1 l20 (n22 + 1) l23 n24 n25 l26 l27 l28 l29) :=
 h.lp [100, 99, 98, 3, 1] [1] (by kernel_rfl)
def qgM (n0 : Int) (l1 : LL) (n2 n3 : Int) (l4 l5 l6 l7 : LL) : St :=
 { env := envOf 147 [(1, vP 1), (3, vI n0)], boxes := [(1, [.sl .free 4 l1, lI n2, lI n3, .sl .free 8 l4, .sl .free 6 l5, .sl .free 5 l6, .sl .free 3 l7])] }
theorem qxS (h : Oo [.b (decide (n22 < (↑l20.length : Int))) false]) :
 Tp (qaa Tryz.f64 2) (qbn n1 l20 n22 l23 n24 n25 l26 l27 l28 l29) (.exit 4) (qgM n1 l23 n24 n25 l26 l27 l28 l29) :=
 h.lp [1, 3] [1] (by kernel_rfl)
theorem qxT (h : Oo [.r 122 [.agg (gr l0 n1 n2)] [cB b7], .b (!b7) false, .b ((↑l3.length : Int) != n1) false, .p (inInt .i64 (n1 * n1)), .b ((↑l4.length : Int) != n1 * n1) false, .b ((↑l5.length : Int) != 4) false, .l [] [44, 43, 42, 1, 3] [1] (qaa Tryz.f64 0) (qbR n1 l3 0 l0 n1 n2 l3 l4 l5 l6) (.exit 0) (qeW n1 l8 n9 n10 l11 l12 l13 l14), .l [] [57, 56, 55, 1, 3] [1] (qaa Tryz.f64 1) (qbe n1 l12 0 l8 n9 n10 l11 l12 l13 l14) (.exit 2) (qfB n1 l15 n16 n17 l18 l19 l20 l21), .l [] [100, 99, 98, 3, 1] [1] (qaa Tryz.f64 2) (qbn n1 l20 0 l15 n16 n17 l18 l19 l20 l21) .ret (qdZ b22)]) :
 Rt 64 [.agg (cl l0 n1 n2 l3 l4 l5 l6)] [cB b22] :=
 h.of (by kernel_rfl)
def qcB (n0 : Int) (l1 : LL) (n2 : Int) : St :=
 { env := envOf 147 [(3, vI n0), (128, vF 3 l1), (129, vI (↑l1.length : Int)), (130, vI n2)], boxes := [] }
def qfC (b0 : Bool) : St :=
 { env := envOf 147 [(2, .al (.one (.sb b0)))], boxes := [] }
theorem qxU (h : Oo [.b (decide (n29 < (↑l28.length : Int))) true, .p (0 ≤ n29), .p (n29 < (↑l28.length : Int)), .e l28 n29.toNat [I n30, I n31, B b32], .p (inInt .i64 (n1 - 1)), .r 81 [cI n30, cI 0, cI (n1 - 1)] [cB b33], .b (!b33) true]) :
 Tp (qaa Tryz.f64 3) (qcB n1 l28 n29) .ret (qfC false) :=
 h.lp [2] [] (by kernel_rfl)
theorem qxV (h : Oo [.b (decide (n29 < (↑l28.length : Int))) true, .p (0 ≤ n29), .p (n29 < (↑l28.length : Int)), .e l28 n29.toNat [I n30, I n31, B b32], .p (inInt .i64 (n1 - 1)), .r 81 [cI n30, cI 0, cI (n1 - 1)] [cB b33], .b (!b33) false, .r 81 [cI n31, cI 0, cI 3] [cB b34], .b (!b34) true]) :
 Tp (qaa Tryz.f64 3) (qcB n1 l28 n29) .ret (qfC false) :=
 h.lp [2] [] (by kernel_rfl)
theorem qxW (h : Oo [.b (decide (n29 < (↑l28.length : Int))) true, .p (0 ≤ n29), .p (n29 < (↑l28.length : Int)), .e l28 n29.toNat [I n30, I n31, B b32], .p (inInt .i64 (n1 - 1)), .r 81 [cI n30, cI 0, cI (n1 - 1)] [cB b33], .b (!b33) false, .r 81 [cI n31, cI 0, cI 3] [cB b34], .b (!b34) false, .p (inInt .i64 (n29 + 1))]) :
 Tp (qaa Tryz.f64 3) (qcB n1 l28 n29) .normal (qcB n1 l28 (n29 + 1)) :=
 h.lp [130, 129, 128, 3] [] (by kernel_rfl)
def qiV : St :=
 { env := envOf 147 [], boxes := [] }
theorem qxX (h : Oo [.b (decide (n29 < (↑l28.length : Int))) false]) :
 Tp (qaa Tryz.f64 3) (qcB n1 l28 n29) (.exit 6) qiV :=
 h.lp [] [] (by kernel_rfl)
theorem qxY (h : Oo [.r 122 [.agg (gr l0 n1 n2)] [cB b7], .b (!b7) false, .b ((↑l3.length : Int) != n1) false, .p (inInt .i64 (n1 * n1)), .b ((↑l4.length : Int) != n1 * n1) false, .b ((↑l5.length : Int) != 4) false, .l [] [44, 43, 42, 1, 3] [1] (qaa Tryz.f64 0) (qbR n1 l3 0 l0 n1 n2 l3 l4 l5 l6) (.exit 0) (qeW n1 l8 n9 n10 l11 l12 l13 l14), .l [] [57, 56, 55, 1, 3] [1] (qaa Tryz.f64 1) (qbe n1 l12 0 l8 n9 n10 l11 l12 l13 l14) (.exit 2) (qfB n1 l15 n16 n17 l18 l19 l20 l21), .l [] [100, 99, 98, 3, 1] [1] (qaa Tryz.f64 2) (qbn n1 l20 0 l15 n16 n17 l18 l19 l20 l21) (.exit 4) (qgM n1 l22 n23 n24 l25 l26 l27 l28), .l [] [130, 129, 128, 3] [] (qaa Tryz.f64 3) (qcB n1 l28 0) .ret (qfC b29)]) :
 Rt 64 [.agg (cl l0 n1 n2 l3 l4 l5 l6)] [cB b29] :=
 h.of (by kernel_rfl)
theorem qxZ (h : Oo [.r 122 [.agg (gr l0 n1 n2)] [cB b7], .b (!b7) false, .b ((↑l3.length : Int) != n1) false, .p (inInt .i64 (n1 * n1)), .b ((↑l4.length : Int) != n1 * n1) false, .b ((↑l5.length : Int) != 4) false, .l [] [44, 43, 42, 1, 3] [1] (qaa Tryz.f64 0) (qbR n1 l3 0 l0 n1 n2 l3 l4 l5 l6) (.exit 0) (qeW n1 l8 n9 n10 l11 l12 l13 l14), .l [] [57, 56, 55, 1, 3] [1] (qaa Tryz.f64 1) (qbe n1 l12 0 l8 n9 n10 l11 l12 l13 l14) (.exit 2) (qfB n1 l15 n16 n17 l18 l19 l20 l21), .l [] [100, 99, 98, 3, 1] [1] (qaa Tryz.f64 2) (qbn n1 l20 0 l15 n16 n17 l18 l19 l20 l21) (.exit 4) (qgM n1 l22 n23 n24 l25 l26 l27 l28), .l [] [130, 129, 128, 3] [] (qaa Tryz.f64 3) (qcB n1 l28 0) (.exit 6) qiV]) :
 Rt 64 [.agg (cl l0 n1 n2 l3 l4 l5 l6)] [cB true] :=
 h.of (by kernel_rfl)
end Go.Proofs.YtdanpadojemjeaaGreat
