import Derived.Test.YtdanpadojemjeaaGreatRows
import Derived.Test.YtdanpadojemjeaaGreatGE
namespace Go.Proofs.YtdanpadojemjeaaGreat
open Go.Sx Go.RowKit
variable {l0 l1 l2 l3 l4 l5 l6 l7 l8 l9 l10 l11 : LL} {n0 n1 n2 n3 n4 n5 n6 n7 n8 n9 n10 n11 n12 n13 n14 n15 n16 : Int}
theorem qoR (h : Oo [.p (inInt .i64 (n1 - (↑l0.length : Int))), .b (decide (n1 - (↑l0.length : Int) < 0)) true]) :
 Rt 39 [cS 5 l0, cI n1] [cI (-1)] :=
 h.of (by kernel_rfl)
theorem qoS (h : Oo [.p (inInt .i64 (n1 - (↑l0.length : Int))), .b (decide (n1 - (↑l0.length : Int) < 0)) false]) :
 Rt 39 [cS 5 l0, cI n1] [cI (n1 - (↑l0.length : Int))] :=
 h.of (by kernel_rfl)
theorem qoT (h : Oo [.p (inInt .i64 (n1 - (↑l0.length : Int))), .b (decide (n1 - (↑l0.length : Int) < 0)) true]) :
 Rt 181 [cS 4 l0, cI n1] [cI (-1)] :=
 h.of (by kernel_rfl)
theorem qoU (h : Oo [.p (inInt .i64 (n1 - (↑l0.length : Int))), .b (decide (n1 - (↑l0.length : Int) < 0)) false]) :
 Rt 181 [cS 4 l0, cI n1] [cI (n1 - (↑l0.length : Int))] :=
 h.of (by kernel_rfl)
theorem qoV (h : Oo [.p (inInt .i64 (n1 - (↑l0.length : Int))), .b (decide (n1 - (↑l0.length : Int) < 0)) true]) :
 Rt 182 [cS 1 l0, cI n1] [cI (-1)] :=
 h.of (by kernel_rfl)
theorem qoW (h : Oo [.p (inInt .i64 (n1 - (↑l0.length : Int))), .b (decide (n1 - (↑l0.length : Int) < 0)) false]) :
 Rt 182 [cS 1 l0, cI n1] [cI (n1 - (↑l0.length : Int))] :=
 h.of (by kernel_rfl)
theorem qoX (h : Oo [.p (inInt .i64 (n1 - (↑l0.length : Int))), .b (decide (n1 - (↑l0.length : Int) < 0)) true]) :
 Rt 183 [cS 1 l0, cI n1] [cI (-1)] :=
 h.of (by kernel_rfl)
theorem qoY (h : Oo [.p (inInt .i64 (n1 - (↑l0.length : Int))), .b (decide (n1 - (↑l0.length : Int) < 0)) false]) :
 Rt 183 [cS 1 l0, cI n1] [cI (n1 - (↑l0.length : Int))] :=
 h.of (by kernel_rfl)
theorem qoZ (h : Oo [.p (inInt .i64 (n1 - (↑l0.length : Int))), .b (decide (n1 - (↑l0.length : Int) < 0)) true]) :
 Rt 184 [cS 2 l0, cI n1] [cI (-1)] :=
 h.of (by kernel_rfl)
theorem qo0 (h : Oo [.p (inInt .i64 (n1 - (↑l0.length : Int))), .b (decide (n1 - (↑l0.length : Int) < 0)) false]) :
 Rt 184 [cS 2 l0, cI n1] [cI (n1 - (↑l0.length : Int))] :=
 h.of (by kernel_rfl)
theorem qo1 (h : Oo [.p (inInt .i64 (n1 - (↑l0.length : Int))), .b (decide (n1 - (↑l0.length : Int) < 0)) true]) :
 Rt 53 [cS 5 l0, cI n1] [cI (-1)] :=
 h.of (by kernel_rfl)
theorem qo2 (h : Oo [.p (inInt .i64 (n1 - (↑l0.length : Int))), .b (decide (n1 - (↑l0.length : Int) < 0)) false]) :
 Rt 53 [cS 5 l0, cI n1] [cI (n1 - (↑l0.length : Int))] :=
 h.of (by kernel_rfl)
theorem qo3 (h : Oo [.p (inInt .i64 (n1 - (↑l0.length : Int))), .b (decide (n1 - (↑l0.length : Int) < 0)) true]) :
 Rt 54 [cS 3 l0, cI n1] [cI (-1)] :=
 h.of (by kernel_rfl)
theorem qo4 (h : Oo [.p (inInt .i64 (n1 - (↑l0.length : Int))), .b (decide (n1 - (↑l0.length : Int) < 0)) false]) :
 Rt 54 [cS 3 l0, cI n1] [cI (n1 - (↑l0.length : Int))] :=
 h.of (by kernel_rfl)
theorem qo5 (h : Oo [.r 182 [cS 1 l3, cI n4] [cI n5], .b (decide (n5 < 0)) true]) :
 Rt 162 [.agg (nd n0 n1 n2 l3), cI n4] [cI (-1)] :=
 h.of (by kernel_rfl)
theorem qo6 (h : Oo [.r 182 [cS 1 l3, cI n4] [cI n5], .b (decide (n5 < 0)) false]) :
 Rt 162 [.agg (nd n0 n1 n2 l3), cI n4] [cI n5] :=
 h.of (by kernel_rfl)
theorem qo7 (h : Oo [.p (inInt .i64 (n1 - (↑l0.length : Int))), .b (decide (n1 - (↑l0.length : Int) < 0)) true]) :
 Rt 97 [cS 4 l0, cI n1] [cI (-1)] :=
 h.of (by kernel_rfl)
def qcl (l0 : LL) (n1 n2 : Int) : St :=
 { env := envOf 27 [(0, vF 4 l0), (1, vI n2), (5, vI n1)], boxes := [] }
def qk1 (n0 : Int) : St :=
 { env := envOf 27 [(4, vI n0)], boxes := [] }
theorem qo8 (h : Oo [.b (decide (n2 < (↑l0.length : Int))) true, .p (0 ≤ n2), .p (n2 < (↑l0.length : Int)), .e l0 n2.toNat (nd n4 n5 n6 l7), .r 162 [.agg (nd n4 n5 n6 l7), cI n3] [cI n8], .b (decide (n8 < 0)) true]) :
 Tp (qaa Tryz.f97 0) (qcl l0 n2 n3) .ret (qk1 (-1)) :=
 h.lp [4] [] (by kernel_rfl)
theorem qo9 (h : Oo [.b (decide (n2 < (↑l0.length : Int))) true, .p (0 ≤ n2), .p (n2 < (↑l0.length : Int)), .e l0 n2.toNat (nd n4 n5 n6 l7), .r 162 [.agg (nd n4 n5 n6 l7), cI n3] [cI n8], .b (decide (n8 < 0)) false, .p (inInt .i64 (n2 + 1))]) :
 Tp (qaa Tryz.f97 0) (qcl l0 n2 n3) .normal (qcl l0 (n2 + 1) n8) :=
 h.lp [5, 0, 1] [] (by kernel_rfl)
def qk2 (n0 : Int) : St :=
 { env := envOf 27 [(1, vI n0)], boxes := [] }
theorem qpa (h : Oo [.b (decide (n2 < (↑l0.length : Int))) false]) :
 Tp (qaa Tryz.f97 0) (qcl l0 n2 n3) (.exit 0) (qk2 n3) :=
 h.lp [1] [] (by kernel_rfl)
theorem qpb (h : Oo [.p (inInt .i64 (n1 - (↑l0.length : Int))), .b (decide (n1 - (↑l0.length : Int) < 0)) false, .l [] [5, 0, 1] [] (qaa Tryz.f97 0) (qcl l0 0 (n1 - (↑l0.length : Int))) .ret (qk1 n2)]) :
 Rt 97 [cS 4 l0, cI n1] [cI n2] :=
 h.of (by kernel_rfl)
theorem qpc (h : Oo [.p (inInt .i64 (n1 - (↑l0.length : Int))), .b (decide (n1 - (↑l0.length : Int) < 0)) false, .l [] [5, 0, 1] [] (qaa Tryz.f97 0) (qcl l0 0 (n1 - (↑l0.length : Int))) (.exit 0) (qk2 n2)]) :
 Rt 97 [cS 4 l0, cI n1] [cI n2] :=
 h.of (by kernel_rfl)
theorem qpd (h : Oo [.r 39 [cS 5 l1, cI n6] [cI n7], .b (decide (n7 < 0)) true]) :
 Rt 111 [.agg (lk n0 l1 n2 n3 n4 n5), cI n6] [cI (-1)] :=
 h.of (by kernel_rfl)
theorem qpe (h : Oo [.r 39 [cS 5 l1, cI n6] [cI n7], .b (decide (n7 < 0)) false]) :
 Rt 111 [.agg (lk n0 l1 n2 n3 n4 n5), cI n6] [cI n7] :=
 h.of (by kernel_rfl)
theorem qpf (h : Oo [.p (inInt .i64 (n1 - (↑l0.length : Int))), .b (decide (n1 - (↑l0.length : Int) < 0)) true]) :
 Rt 52 [cS 6 l0, cI n1] [cI (-1)] :=
 h.of (by kernel_rfl)
def qcm (l0 : LL) (n1 n2 : Int) : St :=
 { env := envOf 27 [(0, vF 6 l0), (1, vI n2), (5, vI n1)], boxes := [] }
def qk3 (n0 : Int) : St :=
 { env := envOf 27 [(4, vI n0)], boxes := [] }
theorem qpg (h : Oo [.b (decide (n2 < (↑l0.length : Int))) true, .p (0 ≤ n2), .p (n2 < (↑l0.length : Int)), .e l0 n2.toNat (lk n4 l5 n6 n7 n8 n9), .r 111 [.agg (lk n4 l5 n6 n7 n8 n9), cI n3] [cI n10], .b (decide (n10 < 0)) true]) :
 Tp (qaa Tryz.f52 0) (qcm l0 n2 n3) .ret (qk3 (-1)) :=
 h.lp [4] [] (by kernel_rfl)
theorem qph (h : Oo [.b (decide (n2 < (↑l0.length : Int))) true, .p (0 ≤ n2), .p (n2 < (↑l0.length : Int)), .e l0 n2.toNat (lk n4 l5 n6 n7 n8 n9), .r 111 [.agg (lk n4 l5 n6 n7 n8 n9), cI n3] [cI n10], .b (decide (n10 < 0)) false, .p (inInt .i64 (n2 + 1))]) :
 Tp (qaa Tryz.f52 0) (qcm l0 n2 n3) .normal (qcm l0 (n2 + 1) n10) :=
 h.lp [5, 0, 1] [] (by kernel_rfl)
def qk4 (n0 : Int) : St :=
 { env := envOf 27 [(1, vI n0)], boxes := [] }
theorem qpi (h : Oo [.b (decide (n2 < (↑l0.length : Int))) false]) :
 Tp (qaa Tryz.f52 0) (qcm l0 n2 n3) (.exit 0) (qk4 n3) :=
 h.lp [1] [] (by kernel_rfl)
theorem qpj (h : Oo [.p (inInt .i64 (n1 - (↑l0.length : Int))), .b (decide (n1 - (↑l0.length : Int) < 0)) false, .l [] [5, 0, 1] [] (qaa Tryz.f52 0) (qcm l0 0 (n1 - (↑l0.length : Int))) .ret (qk3 n2)]) :
 Rt 52 [cS 6 l0, cI n1] [cI n2] :=
 h.of (by kernel_rfl)
theorem qpk (h : Oo [.p (inInt .i64 (n1 - (↑l0.length : Int))), .b (decide (n1 - (↑l0.length : Int) < 0)) false, .l [] [5, 0, 1] [] (qaa Tryz.f52 0) (qcm l0 0 (n1 - (↑l0.length : Int))) (.exit 0) (qk4 n2)]) :
 Rt 52 [cS 6 l0, cI n1] [cI n2] :=
 h.of (by kernel_rfl)
theorem qpl (h : Oo [.r 97 [cS 4 l0, cI n3] [cI n4], .b (decide (n4 < 0)) true]) :
 Rt 38 [.agg (gr l0 n1 n2), cI n3] [cI (-1)] :=
 h.of (by kernel_rfl)
theorem qpm (h : Oo [.r 97 [cS 4 l0, cI n3] [cI n4], .b (decide (n4 < 0)) false]) :
 Rt 38 [.agg (gr l0 n1 n2), cI n3] [cI n4] :=
 h.of (by kernel_rfl)
theorem qpn (h : Oo [.r 39 [cS 5 l0, cI n8] [cI n9], .b (decide (n9 < 0)) true]) :
 Rt 110 [.agg (wk l0 l1 l2 l3 l4 l5 l6 l7), cI n8] [cI (-1)] :=
 h.of (by kernel_rfl)
theorem qpo (h : Oo [.r 39 [cS 5 l0, cI n8] [cI n9], .b (decide (n9 < 0)) false, .r 39 [cS 5 l1, cI n9] [cI n10], .b (decide (n10 < 0)) true]) :
 Rt 110 [.agg (wk l0 l1 l2 l3 l4 l5 l6 l7), cI n8] [cI (-1)] :=
 h.of (by kernel_rfl)
theorem qpp (h : Oo [.r 39 [cS 5 l0, cI n8] [cI n9], .b (decide (n9 < 0)) false, .r 39 [cS 5 l1, cI n9] [cI n10], .b (decide (n10 < 0)) false, .r 39 [cS 5 l2, cI n10] [cI n11], .b (decide (n11 < 0)) true]) :
 Rt 110 [.agg (wk l0 l1 l2 l3 l4 l5 l6 l7), cI n8] [cI (-1)] :=
 h.of (by kernel_rfl)
theorem qpq (h : Oo [.r 39 [cS 5 l0, cI n8] [cI n9], .b (decide (n9 < 0)) false, .r 39 [cS 5 l1, cI n9] [cI n10], .b (decide (n10 < 0)) false, .r 39 [cS 5 l2, cI n10] [cI n11], .b (decide (n11 < 0)) false, .r 181 [cS 4 l3, cI n11] [cI n12], .b (decide (n12 < 0)) true]) :
 Rt 110 [.agg (wk l0 l1 l2 l3 l4 l5 l6 l7), cI n8] [cI (-1)] :=
 h.of (by kernel_rfl)
theorem qpr (h : Oo [.r 39 [cS 5 l0, cI n8] [cI n9], .b (decide (n9 < 0)) false, .r 39 [cS 5 l1, cI n9] [cI n10], .b (decide (n10 < 0)) false, .r 39 [cS 5 l2, cI n10] [cI n11], .b (decide (n11 < 0)) false, .r 181 [cS 4 l3, cI n11] [cI n12], .b (decide (n12 < 0)) false, .r 182 [cS 1 l4, cI n12] [cI n13], .b (decide (n13 < 0)) true]) :
 Rt 110 [.agg (wk l0 l1 l2 l3 l4 l5 l6 l7), cI n8] [cI (-1)] :=
 h.of (by kernel_rfl)
theorem qps (h : Oo [.r 39 [cS 5 l0, cI n8] [cI n9], .b (decide (n9 < 0)) false, .r 39 [cS 5 l1, cI n9] [cI n10], .b (decide (n10 < 0)) false, .r 39 [cS 5 l2, cI n10] [cI n11], .b (decide (n11 < 0)) false, .r 181 [cS 4 l3, cI n11] [cI n12], .b (decide (n12 < 0)) false, .r 182 [cS 1 l4, cI n12] [cI n13], .b (decide (n13 < 0)) false, .r 183 [cS 1 l5, cI n13] [cI n14], .b (decide (n14 < 0)) true]) :
 Rt 110 [.agg (wk l0 l1 l2 l3 l4 l5 l6 l7), cI n8] [cI (-1)] :=
 h.of (by kernel_rfl)
theorem qpt (h : Oo [.r 39 [cS 5 l0, cI n8] [cI n9], .b (decide (n9 < 0)) false, .r 39 [cS 5 l1, cI n9] [cI n10], .b (decide (n10 < 0)) false, .r 39 [cS 5 l2, cI n10] [cI n11], .b (decide (n11 < 0)) false, .r 181 [cS 4 l3, cI n11] [cI n12], .b (decide (n12 < 0)) false, .r 182 [cS 1 l4, cI n12] [cI n13], .b (decide (n13 < 0)) false, .r 183 [cS 1 l5, cI n13] [cI n14], .b (decide (n14 < 0)) false, .r 183 [cS 1 l6, cI n14] [cI n15], .b (decide (n15 < 0)) true]) :
 Rt 110 [.agg (wk l0 l1 l2 l3 l4 l5 l6 l7), cI n8] [cI (-1)] :=
 h.of (by kernel_rfl)
theorem qpu (h : Oo [.r 39 [cS 5 l0, cI n8] [cI n9], .b (decide (n9 < 0)) false, .r 39 [cS 5 l1, cI n9] [cI n10], .b (decide (n10 < 0)) false, .r 39 [cS 5 l2, cI n10] [cI n11], .b (decide (n11 < 0)) false, .r 181 [cS 4 l3, cI n11] [cI n12], .b (decide (n12 < 0)) false, .r 182 [cS 1 l4, cI n12] [cI n13], .b (decide (n13 < 0)) false, .r 183 [cS 1 l5, cI n13] [cI n14], .b (decide (n14 < 0)) false, .r 183 [cS 1 l6, cI n14] [cI n15], .b (decide (n15 < 0)) false, .r 184 [cS 2 l7, cI n15] [cI n16], .b (decide (n16 < 0)) true]) :
 Rt 110 [.agg (wk l0 l1 l2 l3 l4 l5 l6 l7), cI n8] [cI (-1)] :=
 h.of (by kernel_rfl)
theorem qpv (h : Oo [.r 39 [cS 5 l0, cI n8] [cI n9], .b (decide (n9 < 0)) false, .r 39 [cS 5 l1, cI n9] [cI n10], .b (decide (n10 < 0)) false, .r 39 [cS 5 l2, cI n10] [cI n11], .b (decide (n11 < 0)) false, .r 181 [cS 4 l3, cI n11] [cI n12], .b (decide (n12 < 0)) false, .r 182 [cS 1 l4, cI n12] [cI n13], .b (decide (n13 < 0)) false, .r 183 [cS 1 l5, cI n13] [cI n14], .b (decide (n14 < 0)) false, .r 183 [cS 1 l6, cI n14] [cI n15], .b (decide (n15 < 0)) false, .r 184 [cS 2 l7, cI n15] [cI n16], .b (decide (n16 < 0)) false]) :
 Rt 110 [.agg (wk l0 l1 l2 l3 l4 l5 l6 l7), cI n8] [cI n16] :=
 h.of (by kernel_rfl)
theorem qpw (h : Oo [.p (inInt .i64 (n1 - (↑l0.length : Int))), .b (decide (n1 - (↑l0.length : Int) < 0)) true]) :
 Rt 51 [cS 8 l0, cI n1] [cI (-1)] :=
 h.of (by kernel_rfl)
def qcn (l0 : LL) (n1 n2 : Int) : St :=
 { env := envOf 27 [(0, vF 8 l0), (1, vI n2), (5, vI n1)], boxes := [] }
def qk5 (n0 : Int) : St :=
 { env := envOf 27 [(4, vI n0)], boxes := [] }
theorem qpx (h : Oo [.b (decide (n2 < (↑l0.length : Int))) true, .p (0 ≤ n2), .p (n2 < (↑l0.length : Int)), .e l0 n2.toNat (wk l4 l5 l6 l7 l8 l9 l10 l11), .r 110 [.agg (wk l4 l5 l6 l7 l8 l9 l10 l11), cI n3] [cI n12], .b (decide (n12 < 0)) true]) :
 Tp (qaa Tryz.f51 0) (qcn l0 n2 n3) .ret (qk5 (-1)) :=
 h.lp [4] [] (by kernel_rfl)
theorem qpy (h : Oo [.b (decide (n2 < (↑l0.length : Int))) true, .p (0 ≤ n2), .p (n2 < (↑l0.length : Int)), .e l0 n2.toNat (wk l4 l5 l6 l7 l8 l9 l10 l11), .r 110 [.agg (wk l4 l5 l6 l7 l8 l9 l10 l11), cI n3] [cI n12], .b (decide (n12 < 0)) false, .p (inInt .i64 (n2 + 1))]) :
 Tp (qaa Tryz.f51 0) (qcn l0 n2 n3) .normal (qcn l0 (n2 + 1) n12) :=
 h.lp [5, 0, 1] [] (by kernel_rfl)
def qk6 (n0 : Int) : St :=
 { env := envOf 27 [(1, vI n0)], boxes := [] }
theorem qpz (h : Oo [.b (decide (n2 < (↑l0.length : Int))) false]) :
 Tp (qaa Tryz.f51 0) (qcn l0 n2 n3) (.exit 0) (qk6 n3) :=
 h.lp [1] [] (by kernel_rfl)
theorem qpA (h : Oo [.p (inInt .i64 (n1 - (↑l0.length : Int))), .b (decide (n1 - (↑l0.length : Int) < 0)) false, .l [] [5, 0, 1] [] (qaa Tryz.f51 0) (qcn l0 0 (n1 - (↑l0.length : Int))) .ret (qk5 n2)]) :
 Rt 51 [cS 8 l0, cI n1] [cI n2] :=
 h.of (by kernel_rfl)
theorem qpB (h : Oo [.p (inInt .i64 (n1 - (↑l0.length : Int))), .b (decide (n1 - (↑l0.length : Int) < 0)) false, .l [] [5, 0, 1] [] (qaa Tryz.f51 0) (qcn l0 0 (n1 - (↑l0.length : Int))) (.exit 0) (qk6 n2)]) :
 Rt 51 [cS 8 l0, cI n1] [cI n2] :=
 h.of (by kernel_rfl)
theorem qpC (h : Oo [.r 38 [.agg (gr l0 n1 n2), cI n7] [cI n8], .b (decide (n8 < 0)) true]) :
 Rt 11 [.agg (cl l0 n1 n2 l3 l4 l5 l6), cI n7] [cI (-1)] :=
 h.of (by kernel_rfl)
theorem qpD (h : Oo [.r 38 [.agg (gr l0 n1 n2), cI n7] [cI n8], .b (decide (n8 < 0)) false, .r 51 [cS 8 l3, cI n8] [cI n9], .b (decide (n9 < 0)) true]) :
 Rt 11 [.agg (cl l0 n1 n2 l3 l4 l5 l6), cI n7] [cI (-1)] :=
 h.of (by kernel_rfl)
theorem qpE (h : Oo [.r 38 [.agg (gr l0 n1 n2), cI n7] [cI n8], .b (decide (n8 < 0)) false, .r 51 [cS 8 l3, cI n8] [cI n9], .b (decide (n9 < 0)) false, .r 52 [cS 6 l4, cI n9] [cI n10], .b (decide (n10 < 0)) true]) :
 Rt 11 [.agg (cl l0 n1 n2 l3 l4 l5 l6), cI n7] [cI (-1)] :=
 h.of (by kernel_rfl)
theorem qpF (h : Oo [.r 38 [.agg (gr l0 n1 n2), cI n7] [cI n8], .b (decide (n8 < 0)) false, .r 51 [cS 8 l3, cI n8] [cI n9], .b (decide (n9 < 0)) false, .r 52 [cS 6 l4, cI n9] [cI n10], .b (decide (n10 < 0)) false, .r 53 [cS 5 l5, cI n10] [cI n11], .b (decide (n11 < 0)) true]) :
 Rt 11 [.agg (cl l0 n1 n2 l3 l4 l5 l6), cI n7] [cI (-1)] :=
 h.of (by kernel_rfl)
theorem qpG (h : Oo [.r 38 [.agg (gr l0 n1 n2), cI n7] [cI n8], .b (decide (n8 < 0)) false, .r 51 [cS 8 l3, cI n8] [cI n9], .b (decide (n9 < 0)) false, .r 52 [cS 6 l4, cI n9] [cI n10], .b (decide (n10 < 0)) false, .r 53 [cS 5 l5, cI n10] [cI n11], .b (decide (n11 < 0)) false, .r 54 [cS 3 l6, cI n11] [cI n12], .b (decide (n12 < 0)) true]) :
 Rt 11 [.agg (cl l0 n1 n2 l3 l4 l5 l6), cI n7] [cI (-1)] :=
 h.of (by kernel_rfl)
theorem qpH (h : Oo [.r 38 [.agg (gr l0 n1 n2), cI n7] [cI n8], .b (decide (n8 < 0)) false, .r 51 [cS 8 l3, cI n8] [cI n9], .b (decide (n9 < 0)) false, .r 52 [cS 6 l4, cI n9] [cI n10], .b (decide (n10 < 0)) false, .r 53 [cS 5 l5, cI n10] [cI n11], .b (decide (n11 < 0)) false, .r 54 [cS 3 l6, cI n11] [cI n12], .b (decide (n12 < 0)) false]) :
 Rt 11 [.agg (cl l0 n1 n2 l3 l4 l5 l6), cI n7] [cI n12] :=
 h.of (by kernel_rfl)
end Go.Proofs.YtdanpadojemjeaaGreat
