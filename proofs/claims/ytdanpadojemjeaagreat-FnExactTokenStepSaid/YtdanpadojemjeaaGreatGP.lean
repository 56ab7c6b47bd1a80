import Derived.Test.YtdanpadojemjeaaGreatRows
import Derived.Test.YtdanpadojemjeaaGreatGE
namespace Go.Proofs.YtdanpadojemjeaaGreat
open Go.Sx Go.RowKit
variable {l0 l1 l3 l4 l5 l6 l7 l8 l9 l10 l11 l12 l13 l14 l15 l16 l17 l18 l19 l20 l21 l22 l23 l24 l25 l26 l31 : LL} {n0 n1 n2 n3 n4 n5 n6 n7 n8 n9 n10 n11 n12 n13 n14 n15 n16 n17 n18 n19 n20 n21 n22 n23 n24 n25 n27 n28 n29 n30 : Int} {b4 b5 b6 b7 b8 b11 b13 b17 : Bool}
theorem qtS (h : Oo [.p ((([] : LL).length + l0.length) * 32 ≤ 140737488355328), .p (([] : LL).length + l0.length ≤ 9223372036854775807), .p (Flat l0)]) :
 Rt 196 [cS 4 l0] [cS 4 ([] ++ l0)] :=
 h.of (by kernel_rfl)
theorem qtT (h : Oo [.r 246 [.one (.sl 1 [[I n1], [I n0], [I n2], [I n3]]), .one (.sl 1 [[I n5], [I n4], [I n6], [I n7]])] [cI n8]]) :
 Rt 230 [.agg [I n0, I n1, I n2, I n3], .agg [I n4, I n5, I n6, I n7]] [cI n8] :=
 h.of (by kernel_rfl)
theorem qlY (h : Oo [.p (inInt .i64 ((↑l0.length : Int) - 1)), .r 81 [cI n3, cI 0, cI ((↑l0.length : Int) - 1)] [cB b4]]) :
 Rt 200 [.agg (gr l0 n1 n2), cI n3] [cB b4] :=
 h.of (by kernel_rfl)
def qdV (n0 n1 n2 n3 n4 : Int) : St :=
 { env := envOf 41 [(5, .al (.one (.sl (.own 27) 1 [[I n0], [I n1], [I n2], [I n3]]))), (6, vI n4)], boxes := [] }
def qiH (n0 : Int) : St :=
 { env := envOf 41 [(4, vI n0)], boxes := [] }
theorem qtU (h : Oo [.b (decide (n12 < 4)) true, .p (0 ≤ n12), .p (n12 < (↑[[I n8], [I n9], [I n10], [I n11]].length : Int)), .e [[I n8], [I n9], [I n10], [I n11]] n12.toNat [I n13], .b (n13 != 0) true, .p (0 ≤ n12), .p (n12 < (↑[[I n8], [I n9], [I n10], [I n11]].length : Int)), .e [[I n8], [I n9], [I n10], [I n11]] n12.toNat [I n14]]) :
 Tp (qaa Tryz.f243 0) (qdV n8 n9 n10 n11 n12) .ret (qiH n14) :=
 h.lp [4] [] (by kernel_rfl)
theorem qtV (h : Oo [.b (decide (n12 < 4)) true, .p (0 ≤ n12), .p (n12 < (↑[[I n8], [I n9], [I n10], [I n11]].length : Int)), .e [[I n8], [I n9], [I n10], [I n11]] n12.toNat [I n13], .b (n13 != 0) false, .p (inInt .i64 (n12 + 1))]) :
 Tp (qaa Tryz.f243 0) (qdV n8 n9 n10 n11 n12) .normal (qdV n8 n9 n10 n11 (n12 + 1)) :=
 h.lp [6, 5] [] (by kernel_rfl)
def qlZ : St :=
 { env := envOf 41 [], boxes := [] }
theorem qtW (h : Oo [.b (decide (n12 < 4)) false]) :
 Tp (qaa Tryz.f243 0) (qdV n8 n9 n10 n11 n12) (.exit 0) qlZ :=
 h.lp [] [] (by kernel_rfl)
theorem qtX (h : Oo [.r 250 [cI n1, cI n5] [cI n8], .r 250 [cI n0, cI n4] [cI n9], .r 250 [cI n2, cI n6] [cI n10], .r 250 [cI n3, cI n7] [cI n11], .l [] [6, 5] [] (qaa Tryz.f243 0) (qdV n8 n9 n10 n11 0) .ret (qiH n12)]) :
 Rt 243 [.agg [I n0, I n1, I n2, I n3], .agg [I n4, I n5, I n6, I n7]] [cI n12] :=
 h.of (by kernel_rfl)
theorem qtY (h : Oo [.r 250 [cI n1, cI n5] [cI n8], .r 250 [cI n0, cI n4] [cI n9], .r 250 [cI n2, cI n6] [cI n10], .r 250 [cI n3, cI n7] [cI n11], .l [] [6, 5] [] (qaa Tryz.f243 0) (qdV n8 n9 n10 n11 0) (.exit 0) qlZ]) :
 Rt 243 [.agg [I n0, I n1, I n2, I n3], .agg [I n4, I n5, I n6, I n7]] [cI 0] :=
 h.of (by kernel_rfl)
end Go.Proofs.YtdanpadojemjeaaGreat
