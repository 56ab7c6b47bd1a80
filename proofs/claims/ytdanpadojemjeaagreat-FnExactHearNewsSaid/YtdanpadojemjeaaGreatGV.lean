import Derived.Test.YtdanpadojemjeaaGreatRows
import Derived.Test.YtdanpadojemjeaaGreatGE
namespace Go.Proofs.YtdanpadojemjeaaGreat
open Go.Sx Go.RowKit
variable {n0 n1 n2 n3 n4 n5 n6 n7 n8 n9 n10 n11 n12 n13 n14 n15 n16 n17 n18 n19 n20 n21 n25 n26 n27 n28 n29 n30 n31 n32 n33 n34 n35 n36 n37 n38 n39 n40 n41 n42 n43 n44 n45 n46 n47 n48 n50 n51 n52 n53 n55 n56 n57 n58 n59 n62 n63 n64 n65 n66 n68 n69 n70 n72 n73 n74 n75 n76 n79 n80 n81 n82 n83 n84 n85 n86 n87 n90 n91 n92 n93 n95 n96 n97 n98 : Int} {l0 l1 l2 l3 l4 l5 l6 l7 l8 l9 l10 l11 l12 l13 l14 l15 l16 l17 l18 l19 l20 l21 l22 l23 l24 l25 l26 l27 l28 l29 l30 l31 l32 l33 l34 l35 l36 l37 l38 l39 l40 l41 l42 l43 l49 l72 l73 l74 l75 l76 l77 l78 l79 l80 l82 l83 l85 l86 l87 l88 l89 : LL} {b2 b7 b9 b10 b11 b14 b15 b16 b17 b19 b20 b23 b24 b25 b26 b27 b28 b29 b30 b31 b32 b33 b34 b39 b40 b43 b44 b45 b46 b48 b49 b50 b51 b53 b54 b55 b56 b57 b58 b59 b60 b61 b63 b64 b65 b66 b67 b68 b70 b71 b72 b73 b74 b76 b77 b78 b79 b81 b82 b83 b84 b85 b86 b87 b88 b89 b90 b91 b92 b93 b94 b95 b96 b97 b98 b99 b100 : Bool}
theorem qtz (h : Oo [.p ((([] : LL).length + l3.length) * 8 ≤ 140737488355328), .p (([] : LL).length + l3.length ≤ 9223372036854775807), .p (Flat l3)]) :
 Rt 194 [.agg (nd n0 n1 n2 l3)] [.agg (nd n0 n1 n2 ([] ++ l3))] :=
 h.of (by kernel_rfl)
def qfd (l0 : LL) (n1 : Int) (l2 : LL) (n3 n4 n5 n6 : Int) : St :=
 { env := envOf 27 [(2, vP 2), (3, vP 3), (12, vF 4 l0), (13, vI (↑l0.length : Int)), (14, vI n1)], boxes := [(3, [lO 23 4 l2, lI n3, lI n4]), (2, [.v (Value.slice none 0 0), lI n5, lI n6])] }
theorem qtA (h : Oo [.b (decide (n3 < (↑l0.length : Int))) true, .p (0 ≤ n3), .p (n3 < (↑l0.length : Int)), .e l0 n3.toNat (nd n9 n10 n11 l12), .r 194 [.agg (nd n9 n10 n11 l12)] [.agg (nd n13 n14 n15 l16)], .a .wr, .p ((l4.length + [(nd n13 n14 n15 l16)].length) * 48 ≤ 140737488355328), .p (l4.length + [(nd n13 n14 n15 l16)].length ≤ 9223372036854775807), .p (inInt .i64 (n3 + 1))]) :
 Tp (qaa Tryz.f119 0) (qfd l0 n3 l4 n5 n6 n7 n8) .normal (qfd l0 (n3 + 1) (l4 ++ [(nd n13 n14 n15 l16)]) n5 n6 n7 n8) :=
 h.lp [14, 13, 12, 3, 2] [3, 2] (by kernel_rfl)
def qlP (l0 : LL) (n1 n2 n3 n4 : Int) : St :=
 { env := envOf 27 [(2, vP 2), (3, vP 3)], boxes := [(3, [lO 23 4 l0, lI n1, lI n2]), (2, [.v (Value.slice none 0 0), lI n3, lI n4])] }
theorem qtB (h : Oo [.b (decide (n3 < (↑l0.length : Int))) false]) :
 Tp (qaa Tryz.f119 0) (qfd l0 n3 l4 n5 n6 n7 n8) (.exit 0) (qlP l4 n5 n6 n7 n8) :=
 h.lp [3, 2] [3, 2] (by kernel_rfl)
theorem qtC (h : Oo [.l [(4000000, 23, 4)] [14, 13, 12, 3, 2] [3, 2] (qaa Tryz.f119 0) (qfd l0 0 [] n1 n2 0 0) (.exit 0) (qlP l3 n4 n5 n6 n7)]) :
 Rt 119 [.agg (gr l0 n1 n2)] [.agg (gr l3 n4 n5)] :=
 h.of (by kernel_rfl)
theorem qtD (h : Oo [.r 195 [cS 5 l1] [cS 5 l6]]) :
 Rt 121 [.agg (lk n0 l1 n2 n3 n4 n5)] [.agg (lk n0 l6 n2 n3 n4 n5)] :=
 h.of (by kernel_rfl)
theorem qtE (h : Oo [.r 195 [cS 5 l0] [cS 5 l8], .r 195 [cS 5 l1] [cS 5 l9], .r 195 [cS 5 l2] [cS 5 l10], .r 196 [cS 4 l3] [cS 4 l11], .p ((([] : LL).length + l4.length) * 8 ≤ 140737488355328), .p (([] : LL).length + l4.length ≤ 9223372036854775807), .p (Flat l4), .p ((([] : LL).length + l5.length) * 1 ≤ 140737488355328), .p (([] : LL).length + l5.length ≤ 9223372036854775807), .p (Flat l5), .p ((([] : LL).length + l6.length) * 1 ≤ 140737488355328), .p (([] : LL).length + l6.length ≤ 9223372036854775807), .p (Flat l6), .p ((([] : LL).length + l7.length) * 16 ≤ 140737488355328), .p (([] : LL).length + l7.length ≤ 9223372036854775807), .p (Flat l7)]) :
 Rt 120 [.agg (wk l0 l1 l2 l3 l4 l5 l6 l7)] [.agg (wk l8 l9 l10 l11 ([] ++ l4) ([] ++ l5) ([] ++ l6) ([] ++ l7))] :=
 h.of (by kernel_rfl)
def qfe (l0 : LL) (n1 : Int) (l2 : LL) (n3 n4 : Int) (l5 l6 l7 : LL) (n8 n9 : Int) (l10 : LL) (n11 n12 : Int) (l13 l14 l15 l16 : LL) : St :=
 { env := envOf 49 [(1, vP 1), (2, vP 2), (3, vP 3), (19, vF 8 l0), (20, vI (↑l0.length : Int)), (21, vI n1)], boxes := [(3, [lO 110000 4 l2, lI n3, lI n4, lO 30 8 l5, .v (Value.slice none 0 0), lO 13 5 l6, lO 16 3 l7]), (2, [.v (Value.slice none 0 0), lI n8, lI n9, .v (Value.slice none 0 0), .v (Value.slice none 0 0), .v (Value.slice none 0 0), .v (Value.slice none 0 0)]), (1, [.sl .free 4 l10, lI n11, lI n12, .sl .free 8 l13, .sl .free 6 l14, .sl .free 5 l15, .sl .free 3 l16])] }
theorem qtF (h : Oo [.b (decide (n10 < (↑l3.length : Int))) true, .p (0 ≤ n10), .p (n10 < (↑l3.length : Int)), .e l3 n10.toNat (wk l26 l27 l28 l29 l30 l31 l32 l33), .r 120 [.agg (wk l26 l27 l28 l29 l30 l31 l32 l33)] [.agg (wk l34 l35 l36 l37 l38 l39 l40 l41)], .a .wr, .p ((l14.length + [(wk l34 l35 l36 l37 l38 l39 l40 l41)].length) * 192 ≤ 140737488355328), .p (l14.length + [(wk l34 l35 l36 l37 l38 l39 l40 l41)].length ≤ 9223372036854775807), .p (inInt .i64 (n10 + 1))]) :
 Tp (qaa Tryz.f61 0) (qfe l3 n10 l11 n12 n13 l14 l15 l16 n17 n18 l19 n20 n21 l22 l23 l24 l25) .normal (qfe l3 (n10 + 1) l11 n12 n13 (l14 ++ [(wk l34 l35 l36 l37 l38 l39 l40 l41)]) l15 l16 n17 n18 l19 n20 n21 l22 l23 l24 l25) :=
 h.lp [21, 20, 19, 3, 1, 2] [3, 2, 1] (by kernel_rfl)
def qlQ (l0 : LL) (n1 n2 : Int) (l3 l4 l5 : LL) (n6 n7 : Int) (l8 : LL) (n9 n10 : Int) (l11 l12 l13 l14 : LL) : St :=
 { env := envOf 49 [(1, vP 1), (2, vP 2), (3, vP 3)], boxes := [(3, [lO 110000 4 l0, lI n1, lI n2, lO 30 8 l3, .v (Value.slice none 0 0), lO 13 5 l4, lO 16 3 l5]), (2, [.v (Value.slice none 0 0), lI n6, lI n7, .v (Value.slice none 0 0), .v (Value.slice none 0 0), .v (Value.slice none 0 0), .v (Value.slice none 0 0)]), (1, [.sl .free 4 l8, lI n9, lI n10, .sl .free 8 l11, .sl .free 6 l12, .sl .free 5 l13, .sl .free 3 l14])] }
theorem qtG (h : Oo [.b (decide (n10 < (↑l3.length : Int))) false]) :
 Tp (qaa Tryz.f61 0) (qfe l3 n10 l11 n12 n13 l14 l15 l16 n17 n18 l19 n20 n21 l22 l23 l24 l25) (.exit 0) (qlQ l11 n12 n13 l14 l15 l16 n17 n18 l19 n20 n21 l22 l23 l24 l25) :=
 h.lp [1, 3, 2] [3, 2, 1] (by kernel_rfl)
def qff (l0 : LL) (n1 : Int) (l2 : LL) (n3 n4 : Int) (l5 l6 l7 l8 : LL) (n9 n10 : Int) : St :=
 { env := envOf 49 [(2, vP 2), (3, vP 3), (34, vF 6 l0), (35, vI (↑l0.length : Int)), (36, vI n1)], boxes := [(3, [lO 110000 4 l2, lI n3, lI n4, lO 30 8 l5, lO 45 6 l6, lO 13 5 l7, lO 16 3 l8]), (2, [.v (Value.slice none 0 0), lI n9, lI n10, .v (Value.slice none 0 0), .v (Value.slice none 0 0), .v (Value.slice none 0 0), .v (Value.slice none 0 0)])] }
theorem qtH (h : Oo [.b (decide (n25 < (↑l22.length : Int))) true, .p (0 ≤ n25), .p (n25 < (↑l22.length : Int)), .e l22 n25.toNat (lk n35 l36 n37 n38 n39 n40), .r 121 [.agg (lk n35 l36 n37 n38 n39 n40)] [.agg (lk n41 l42 n43 n44 n45 n46)], .a .wr, .p ((l30.length + [(lk n41 l42 n43 n44 n45 n46)].length) * 64 ≤ 140737488355328), .p (l30.length + [(lk n41 l42 n43 n44 n45 n46)].length ≤ 9223372036854775807), .p (inInt .i64 (n25 + 1))]) :
 Tp (qaa Tryz.f61 1) (qff l22 n25 l26 n27 n28 l29 l30 l31 l32 n33 n34) .normal (qff l22 (n25 + 1) l26 n27 n28 l29 (l30 ++ [(lk n41 l42 n43 n44 n45 n46)]) l31 l32 n33 n34) :=
 h.lp [36, 35, 34, 3, 2] [3, 2] (by kernel_rfl)
def qlR (l0 : LL) (n1 n2 : Int) (l3 l4 l5 l6 : LL) (n7 n8 : Int) : St :=
 { env := envOf 49 [(2, vP 2), (3, vP 3)], boxes := [(3, [lO 110000 4 l0, lI n1, lI n2, lO 30 8 l3, lO 45 6 l4, lO 13 5 l5, lO 16 3 l6]), (2, [.v (Value.slice none 0 0), lI n7, lI n8, .v (Value.slice none 0 0), .v (Value.slice none 0 0), .v (Value.slice none 0 0), .v (Value.slice none 0 0)])] }
theorem qtI (h : Oo [.b (decide (n25 < (↑l22.length : Int))) false]) :
 Tp (qaa Tryz.f61 1) (qff l22 n25 l26 n27 n28 l29 l30 l31 l32 n33 n34) (.exit 2) (qlR l26 n27 n28 l29 l30 l31 l32 n33 n34) :=
 h.lp [3, 2] [3, 2] (by kernel_rfl)
theorem qtJ (h : Oo [.r 119 [.agg (gr l0 n1 n2)] [.agg (gr l7 n8 n9)], .p ((([] : LL).length + l5.length) * 32 ≤ 140737488355328), .p (([] : LL).length + l5.length ≤ 9223372036854775807), .p (Flat l5), .p ((([] : LL).length + l6.length) * 24 ≤ 140737488355328), .p (([] : LL).length + l6.length ≤ 9223372036854775807), .p (Flat l6), .l [(4000003, 30, 8)] [21, 20, 19, 3, 1, 2] [3, 2, 1] (qaa Tryz.f61 0) (qfe l3 0 l7 n8 n9 [] ([] ++ l5) ([] ++ l6) 0 0 l0 n1 n2 l3 l4 l5 l6) (.exit 0) (qlQ l10 n11 n12 l13 l14 l15 n16 n17 l18 n19 n20 l21 l22 l23 l24), .l [(4000004, 45, 6)] [36, 35, 34, 3, 2] [3, 2] (qaa Tryz.f61 1) (qff l22 0 l10 n11 n12 l13 [] l14 l15 n16 n17) (.exit 2) (qlR l25 n26 n27 l28 l29 l30 l31 n32 n33)]) :
 Rt 61 [.agg (cl l0 n1 n2 l3 l4 l5 l6)] [.agg (cl l25 n26 n27 l28 l29 l30 l31)] :=
 h.of (by kernel_rfl)
theorem qtK (h : Oo [.p ((([] : LL).length + l1.length) * 40 ≤ 140737488355328), .p (([] : LL).length + l1.length ≤ 9223372036854775807), .p (Flat l1)]) :
 Rt 186 [.agg (lk n0 l1 n2 n3 n4 n5)] [.agg (lk n0 ([] ++ l1) n2 n3 n4 n5)] :=
 h.of (by kernel_rfl)
def qfg (n0 : Int) (l1 : LL) (n2 n3 n4 n5 : Int) (l6 : LL) (n7 n8 : Int) : St :=
 { env := envOf 33 [(1, vP 1), (2, vP 2), (3, vP 3), (4, vI n0)], boxes := [(3, [lO 7 4 l1, lI n2, lI n3]), (2, [.v (Value.slice none 0 0), lI n4, lI n5]), (1, [.sl .free 4 l6, lI n7, lI n8])] }
theorem qtL (h : Oo [.b (decide (n3 < (↑l9.length : Int))) true, .p (0 ≤ n3), .p (n3 < (↑l9.length : Int)), .e l9 n3.toNat (nd n12 n13 n14 l15), .a .wr, .p ((([] : LL).length + l15.length) * 8 ≤ 140737488355328), .p (([] : LL).length + l15.length ≤ 9223372036854775807), .p (Flat l15), .p ((l4.length + [(nd n12 n13 n14 ([] ++ l15))].length) * 48 ≤ 140737488355328), .p (l4.length + [(nd n12 n13 n14 ([] ++ l15))].length ≤ 9223372036854775807), .p (inInt .i64 (n3 + 1))]) :
 Tp (qaa Tryz.f165 0) (qfg n3 l4 n5 n6 n7 n8 l9 n10 n11) .normal (qfg (n3 + 1) (l4 ++ [(nd n12 n13 n14 ([] ++ l15))]) n5 n6 n7 n8 l9 n10 n11) :=
 h.lp [4, 1, 3, 2] [3, 2, 1] (by kernel_rfl)
def qlS (l0 : LL) (n1 n2 n3 n4 : Int) : St :=
 { env := envOf 33 [(2, vP 2), (3, vP 3)], boxes := [(3, [lO 7 4 l0, lI n1, lI n2]), (2, [.v (Value.slice none 0 0), lI n3, lI n4])] }
theorem qtM (h : Oo [.b (decide (n3 < (↑l9.length : Int))) false]) :
 Tp (qaa Tryz.f165 0) (qfg n3 l4 n5 n6 n7 n8 l9 n10 n11) (.exit 0) (qlS l4 n5 n6 n7 n8) :=
 h.lp [3, 2] [3, 2] (by kernel_rfl)
theorem qtN (h : Oo [.l [] [4, 1, 3, 2] [3, 2, 1] (qaa Tryz.f165 0) (qfg 0 [] n1 n2 0 0 l0 n1 n2) (.exit 0) (qlS l3 n4 n5 n6 n7)]) :
 Rt 165 [.agg (gr l0 n1 n2)] [.agg (gr l3 n4 n5)] :=
 h.of (by kernel_rfl)
theorem qtO (h : Oo [.p ((([] : LL).length + l0.length) * 40 ≤ 140737488355328), .p (([] : LL).length + l0.length ≤ 9223372036854775807), .p (Flat l0), .p ((([] : LL).length + l1.length) * 40 ≤ 140737488355328), .p (([] : LL).length + l1.length ≤ 9223372036854775807), .p (Flat l1), .p ((([] : LL).length + l2.length) * 40 ≤ 140737488355328), .p (([] : LL).length + l2.length ≤ 9223372036854775807), .p (Flat l2), .p ((([] : LL).length + l3.length) * 32 ≤ 140737488355328), .p (([] : LL).length + l3.length ≤ 9223372036854775807), .p (Flat l3), .p ((([] : LL).length + l4.length) * 8 ≤ 140737488355328), .p (([] : LL).length + l4.length ≤ 9223372036854775807), .p (Flat l4), .p ((([] : LL).length + l5.length) * 1 ≤ 140737488355328), .p (([] : LL).length + l5.length ≤ 9223372036854775807), .p (Flat l5), .p ((([] : LL).length + l6.length) * 1 ≤ 140737488355328), .p (([] : LL).length + l6.length ≤ 9223372036854775807), .p (Flat l6), .p ((([] : LL).length + l7.length) * 16 ≤ 140737488355328), .p (([] : LL).length + l7.length ≤ 9223372036854775807), .p (Flat l7)]) :
 Rt 185 [.agg (wk l0 l1 l2 l3 l4 l5 l6 l7)] [.agg (wk ([] ++ l0) ([] ++ l1) ([] ++ l2) ([] ++ l3) ([] ++ l4) ([] ++ l5) ([] ++ l6) ([] ++ l7))] :=
 h.of (by kernel_rfl)
def qfh (n0 : Int) (l1 : LL) (n2 n3 : Int) (l4 l5 l6 : LL) (n7 n8 : Int) (l9 : LL) (n10 n11 : Int) (l12 l13 l14 l15 : LL) : St :=
 { env := envOf 55 [(1, vP 1), (2, vP 2), (3, vP 3), (4, vI n0)], boxes := [(3, [lO 90000 4 l1, lI n2, lI n3, lO 34 8 l4, .v (Value.slice none 0 0), lO 9 5 l5, lO 13 3 l6]), (2, [.v (Value.slice none 0 0), lI n7, lI n8, .v (Value.slice none 0 0), .v (Value.slice none 0 0), .v (Value.slice none 0 0), .v (Value.slice none 0 0)]), (1, [.sl .free 4 l9, lI n10, lI n11, .sl .free 8 l12, .sl .free 6 l13, .sl .free 5 l14, .sl .free 3 l15])] }
theorem qtP (h : Oo [.b (decide (n10 < (↑l22.length : Int))) true, .p (0 ≤ n10), .p (n10 < (↑l22.length : Int)), .e l22 n10.toNat (wk l26 l27 l28 l29 l30 l31 l32 l33), .r 185 [.agg (wk l26 l27 l28 l29 l30 l31 l32 l33)] [.agg (wk l34 l35 l36 l37 l38 l39 l40 l41)], .a .wr, .p ((l14.length + [(wk l34 l35 l36 l37 l38 l39 l40 l41)].length) * 192 ≤ 140737488355328), .p (l14.length + [(wk l34 l35 l36 l37 l38 l39 l40 l41)].length ≤ 9223372036854775807), .p (inInt .i64 (n10 + 1))]) :
 Tp (qaa Tryz.f112 0) (qfh n10 l11 n12 n13 l14 l15 l16 n17 n18 l19 n20 n21 l22 l23 l24 l25) .normal (qfh (n10 + 1) l11 n12 n13 (l14 ++ [(wk l34 l35 l36 l37 l38 l39 l40 l41)]) l15 l16 n17 n18 l19 n20 n21 l22 l23 l24 l25) :=
 h.lp [4, 1, 3, 2] [3, 2, 1] (by kernel_rfl)
def qlT (l0 : LL) (n1 n2 : Int) (l3 l4 l5 : LL) (n6 n7 : Int) (l8 : LL) (n9 n10 : Int) (l11 l12 l13 l14 : LL) : St :=
 { env := envOf 55 [(1, vP 1), (2, vP 2), (3, vP 3)], boxes := [(3, [lO 90000 4 l0, lI n1, lI n2, lO 34 8 l3, .v (Value.slice none 0 0), lO 9 5 l4, lO 13 3 l5]), (2, [.v (Value.slice none 0 0), lI n6, lI n7, .v (Value.slice none 0 0), .v (Value.slice none 0 0), .v (Value.slice none 0 0), .v (Value.slice none 0 0)]), (1, [.sl .free 4 l8, lI n9, lI n10, .sl .free 8 l11, .sl .free 6 l12, .sl .free 5 l13, .sl .free 3 l14])] }
theorem qtQ (h : Oo [.b (decide (n10 < (↑l22.length : Int))) false]) :
 Tp (qaa Tryz.f112 0) (qfh n10 l11 n12 n13 l14 l15 l16 n17 n18 l19 n20 n21 l22 l23 l24 l25) (.exit 0) (qlT l11 n12 n13 l14 l15 l16 n17 n18 l19 n20 n21 l22 l23 l24 l25) :=
 h.lp [1, 3, 2] [3, 2, 1] (by kernel_rfl)
def qfi (n0 : Int) (l1 : LL) (n2 n3 : Int) (l4 l5 l6 l7 : LL) (n8 n9 : Int) (l10 : LL) (n11 n12 : Int) (l13 l14 l15 l16 : LL) : St :=
 { env := envOf 55 [(1, vP 1), (2, vP 2), (3, vP 3), (5, vI n0)], boxes := [(3, [lO 90000 4 l1, lI n2, lI n3, lO 34 8 l4, lO 52 6 l5, lO 9 5 l6, lO 13 3 l7]), (2, [.v (Value.slice none 0 0), lI n8, lI n9, .v (Value.slice none 0 0), .v (Value.slice none 0 0), .v (Value.slice none 0 0), .v (Value.slice none 0 0)]), (1, [.sl .free 4 l10, lI n11, lI n12, .sl .free 8 l13, .sl .free 6 l14, .sl .free 5 l15, .sl .free 3 l16])] }
theorem qtR (h : Oo [.b (decide (n25 < (↑l39.length : Int))) true, .p (0 ≤ n25), .p (n25 < (↑l39.length : Int)), .e l39 n25.toNat (lk n42 l43 n44 n45 n46 n47), .r 186 [.agg (lk n42 l43 n44 n45 n46 n47)] [.agg (lk n48 l49 n50 n51 n52 n53)], .a .wr, .p ((l30.length + [(lk n48 l49 n50 n51 n52 n53)].length) * 64 ≤ 140737488355328), .p (l30.length + [(lk n48 l49 n50 n51 n52 n53)].length ≤ 9223372036854775807), .p (inInt .i64 (n25 + 1))]) :
 Tp (qaa Tryz.f112 1) (qfi n25 l26 n27 n28 l29 l30 l31 l32 n33 n34 l35 n36 n37 l38 l39 l40 l41) .normal (qfi (n25 + 1) l26 n27 n28 l29 (l30 ++ [(lk n48 l49 n50 n51 n52 n53)]) l31 l32 n33 n34 l35 n36 n37 l38 l39 l40 l41) :=
 h.lp [5, 1, 3, 2] [3, 2, 1] (by kernel_rfl)
def qlU (l0 : LL) (n1 n2 : Int) (l3 l4 l5 l6 : LL) (n7 n8 : Int) : St :=
 { env := envOf 55 [(2, vP 2), (3, vP 3)], boxes := [(3, [lO 90000 4 l0, lI n1, lI n2, lO 34 8 l3, lO 52 6 l4, lO 9 5 l5, lO 13 3 l6]), (2, [.v (Value.slice none 0 0), lI n7, lI n8, .v (Value.slice none 0 0), .v (Value.slice none 0 0), .v (Value.slice none 0 0), .v (Value.slice none 0 0)])] }
theorem qtS (h : Oo [.b (decide (n25 < (↑l39.length : Int))) false]) :
 Tp (qaa Tryz.f112 1) (qfi n25 l26 n27 n28 l29 l30 l31 l32 n33 n34 l35 n36 n37 l38 l39 l40 l41) (.exit 2) (qlU l26 n27 n28 l29 l30 l31 l32 n33 n34) :=
 h.lp [3, 2] [3, 2] (by kernel_rfl)
theorem qtT (h : Oo [.r 165 [.agg (gr l0 n1 n2)] [.agg (gr l7 n8 n9)], .p ((([] : LL).length + l5.length) * 32 ≤ 140737488355328), .p (([] : LL).length + l5.length ≤ 9223372036854775807), .p (Flat l5), .p ((([] : LL).length + l6.length) * 24 ≤ 140737488355328), .p (([] : LL).length + l6.length ≤ 9223372036854775807), .p (Flat l6), .l [(4000003, 34, 8)] [4, 1, 3, 2] [3, 2, 1] (qaa Tryz.f112 0) (qfh 0 l7 n8 n9 [] ([] ++ l5) ([] ++ l6) 0 0 l0 n1 n2 l3 l4 l5 l6) (.exit 0) (qlT l10 n11 n12 l13 l14 l15 n16 n17 l18 n19 n20 l21 l22 l23 l24), .l [(4000004, 52, 6)] [5, 1, 3, 2] [3, 2, 1] (qaa Tryz.f112 1) (qfi 0 l10 n11 n12 l13 [] l14 l15 n16 n17 l18 n19 n20 l21 l22 l23 l24) (.exit 2) (qlU l25 n26 n27 l28 l29 l30 l31 n32 n33)]) :
 Rt 112 [.agg (cl l0 n1 n2 l3 l4 l5 l6)] [.agg (cl l25 n26 n27 l28 l29 l30 l31)] :=
 h.of (by kernel_rfl)
theorem qtU (h : Oo [.r 112 [.agg (cl l0 n1 n2 l3 l4 l5 l6)] [.agg (cl l7 n8 n9 l10 l11 l12 l13)], .r 113 [.agg (cl l0 n1 n2 l3 l4 l5 l6)] [cB b14]]) :
 Rr 55 [RA.ro (.agg (cl l0 n1 n2 l3 l4 l5 l6))] (RR.new [D.sl 4 l7, I n8, I n9, D.sl 8 l10, D.sl 6 l11, D.sl 5 l12, D.sl 3 l13, B b14]) :=
 h.ofR (by kernel_rfl)
def qb2 (n0 n1 : Int) (l2 : LL) (n3 n4 : Int) (l5 l6 l7 l8 : LL) (b9 : Bool) : St :=
 { env := envOf 93 [(0, vP 1000000000), (1, vI n0), (5, vI n1)], boxes := [(1000000000, [lO 900000000 4 l2, lI n3, lI n4, lO 900000003 8 l5, lO 900000004 6 l6, lO 900000005 5 l7, lO 900000006 3 l8, .sb b9])] }
theorem qtV (h : Oo [.b (decide (n9 < (↑l16.length : Int))) true, .b b17 true, .p (0 ≤ n9), .p (n9 < (↑l16.length : Int)), .e l16 n9.toNat [I n18, I n19, B b20], .b (n18 != n8) true, .p (inInt .i64 (n9 + 1))]) :
 Tp (qaa Tryz.f56 0) (qb2 n8 n9 l10 n11 n12 l13 l14 l15 l16 b17) .normal (qb2 n8 (n9 + 1) l10 n11 n12 l13 l14 l15 l16 b17) :=
 h.lp [5, 0, 1] [1000000000] (by kernel_rfl)
def qgo (b0 : Bool) (l1 : LL) (n2 n3 : Int) (l4 l5 l6 l7 : LL) (b8 : Bool) : St :=
 { env := envOf 93 [(0, vP 1000000000), (4, .al (.one (.sb b0)))], boxes := [(1000000000, [lO 900000000 4 l1, lI n2, lI n3, lO 900000003 8 l4, lO 900000004 6 l5, lO 900000005 5 l6, lO 36 3 l7, .sb b8])] }
theorem qtW (h : Oo [.b (decide (n9 < (↑l16.length : Int))) true, .b b17 true, .p (0 ≤ n9), .p (n9 < (↑l16.length : Int)), .e l16 n9.toNat [I n18, I n19, B b20], .b (n18 != n8) false, .a .sub, .p ((0 : Int) ≤ none.getD 0), .p (none.getD 0 ≤ (some n9).getD (↑l16.length : Int)), .p ((some n9).getD (↑l16.length : Int) ≤ (↑l16.length : Int)), .p ((([] : LL).length + (List.take (((some n9).getD (↑l16.length : Int)).toNat - 0) (List.drop 0 l16)).length) * 24 ≤ 140737488355328), .p (([] : LL).length + (List.take (((some n9).getD (↑l16.length : Int)).toNat - 0) (List.drop 0 l16)).length ≤ 9223372036854775807), .p (Flat (List.take (((some n9).getD (↑l16.length : Int)).toNat - 0) (List.drop 0 l16))), .p (inInt .i64 (n9 + 1)), .p (0 ≤ (some (n9 + 1)).getD 0), .p ((some (n9 + 1)).getD 0 ≤ none.getD (↑l16.length : Int)), .p (none.getD (↑l16.length : Int) ≤ (↑l16.length : Int)), .p ((([] ++ List.take (((some n9).getD (↑l16.length : Int)).toNat - 0) (List.drop 0 l16)).length + (List.take (l16.length - ((some (n9 + 1)).getD 0).toNat) (List.drop ((some (n9 + 1)).getD 0).toNat l16)).length) * 24 ≤ 140737488355328), .p (([] ++ List.take (((some n9).getD (↑l16.length : Int)).toNat - 0) (List.drop 0 l16)).length + (List.take (l16.length - ((some (n9 + 1)).getD 0).toNat) (List.drop ((some (n9 + 1)).getD 0).toNat l16)).length ≤ 9223372036854775807), .p (Flat (List.take (l16.length - ((some (n9 + 1)).getD 0).toNat) (List.drop ((some (n9 + 1)).getD 0).toNat l16))), .p (0 ≤ n8), .p (n8 < (↑l13.length : Int)), .e l13 n8.toNat (wk l21 l22 l23 l24 l25 l26 l27 l28), .r 114 [.agg (wk l21 l22 l23 l24 l25 l26 l27 l28), cI n19] [cB b29], .b (!b29) true, .a .sub, .p (0 ≤ n8), .p (n8 < (↑l13.length : Int)), .e l13 n8.toNat (wk l21 l22 l23 l24 l25 l26 l27 l28), .p ((l28.length + [[I n19, B b20]].length) * 16 ≤ 140737488355328), .p (l28.length + [[I n19, B b20]].length ≤ 9223372036854775807), .e l13 n8.toNat (wk l21 l22 l23 l24 l25 l26 l27 l28), .p ((wk l21 l22 l23 l24 l25 l26 l27 l28)[7]? = some (D.sl 2 l28)), .p (Flat [[I n19, B b20]]), .p (l13 = l13), .p (l13 = l13), .p (n8.toNat = n8.toNat), .p (l28 = l28), .p (l13 = l13), .p (l13 = l13), .p (l13 = l13), .p (l13 = l13), .p (l13 = l13), .p (n8.toNat = n8.toNat), .p (l28 = l28), .p (0 ≤ n8), .p (n8 < (↑l13.length : Int)), .e l13 n8.toNat (wk l21 l22 l23 l24 l25 l26 l27 l28), .p (n8.toNat = n8.toNat)]) :
 Tp (qaa Tryz.f56 0) (qb2 n8 n9 l10 n11 n12 l13 l14 l15 l16 b17) .ret (qgo true l10 n11 n12 (l13.set n8.toNat (wk l21 l22 l23 l24 l25 l26 l27 (l28 ++ [[I n19, B b20]]))) l14 l15 ([] ++ List.take (((some n9).getD (↑l16.length : Int)).toNat - 0) (List.drop 0 l16) ++ List.take (l16.length - ((some (n9 + 1)).getD 0).toNat) (List.drop ((some (n9 + 1)).getD 0).toNat l16)) b17) :=
 h.lp [4, 0] [1000000000] (by kernel_rfl)
theorem qtX (h : Oo [.b (decide (n9 < (↑l16.length : Int))) true, .b b17 true, .p (0 ≤ n9), .p (n9 < (↑l16.length : Int)), .e l16 n9.toNat [I n18, I n19, B b20], .b (n18 != n8) false, .a .sub, .p ((0 : Int) ≤ none.getD 0), .p (none.getD 0 ≤ (some n9).getD (↑l16.length : Int)), .p ((some n9).getD (↑l16.length : Int) ≤ (↑l16.length : Int)), .p ((([] : LL).length + (List.take (((some n9).getD (↑l16.length : Int)).toNat - 0) (List.drop 0 l16)).length) * 24 ≤ 140737488355328), .p (([] : LL).length + (List.take (((some n9).getD (↑l16.length : Int)).toNat - 0) (List.drop 0 l16)).length ≤ 9223372036854775807), .p (Flat (List.take (((some n9).getD (↑l16.length : Int)).toNat - 0) (List.drop 0 l16))), .p (inInt .i64 (n9 + 1)), .p (0 ≤ (some (n9 + 1)).getD 0), .p ((some (n9 + 1)).getD 0 ≤ none.getD (↑l16.length : Int)), .p (none.getD (↑l16.length : Int) ≤ (↑l16.length : Int)), .p ((([] ++ List.take (((some n9).getD (↑l16.length : Int)).toNat - 0) (List.drop 0 l16)).length + (List.take (l16.length - ((some (n9 + 1)).getD 0).toNat) (List.drop ((some (n9 + 1)).getD 0).toNat l16)).length) * 24 ≤ 140737488355328), .p (([] ++ List.take (((some n9).getD (↑l16.length : Int)).toNat - 0) (List.drop 0 l16)).length + (List.take (l16.length - ((some (n9 + 1)).getD 0).toNat) (List.drop ((some (n9 + 1)).getD 0).toNat l16)).length ≤ 9223372036854775807), .p (Flat (List.take (l16.length - ((some (n9 + 1)).getD 0).toNat) (List.drop ((some (n9 + 1)).getD 0).toNat l16))), .p (0 ≤ n8), .p (n8 < (↑l13.length : Int)), .e l13 n8.toNat (wk l21 l22 l23 l24 l25 l26 l27 l28), .r 114 [.agg (wk l21 l22 l23 l24 l25 l26 l27 l28), cI n19] [cB b29], .b (!b29) false]) :
 Tp (qaa Tryz.f56 0) (qb2 n8 n9 l10 n11 n12 l13 l14 l15 l16 b17) .ret (qgo true l10 n11 n12 l13 l14 l15 ([] ++ List.take (((some n9).getD (↑l16.length : Int)).toNat - 0) (List.drop 0 l16) ++ List.take (l16.length - ((some (n9 + 1)).getD 0).toNat) (List.drop ((some (n9 + 1)).getD 0).toNat l16)) b17) :=
 h.lp [4, 0] [1000000000] (by kernel_rfl)
def qiu (l0 : LL) (n1 n2 : Int) (l3 l4 l5 l6 : LL) (b7 : Bool) : St :=
 { env := envOf 93 [(0, vP 1000000000)], boxes := [(1000000000, [lO 900000000 4 l0, lI n1, lI n2, lO 900000003 8 l3, lO 900000004 6 l4, lO 900000005 5 l5, lO 900000006 3 l6, .sb b7])] }
theorem qtY (h : Oo [.b (decide (n9 < (↑l16.length : Int))) true, .b b17 false]) :
 Tp (qaa Tryz.f56 0) (qb2 n8 n9 l10 n11 n12 l13 l14 l15 l16 b17) (.exit 0) (qiu l10 n11 n12 l13 l14 l15 l16 b17) :=
 h.lp [0] [1000000000] (by kernel_rfl)
theorem qlV (h : Oo [.b (decide (n9 < (↑l16.length : Int))) false]) :
 Tp (qaa Tryz.f56 0) (qb2 n8 n9 l10 n11 n12 l13 l14 l15 l16 b17) (.exit 0) (qiu l10 n11 n12 l13 l14 l15 l16 b17) :=
 h.lp [0] [1000000000] (by kernel_rfl)
theorem qtZ (h : Oo [.l [] [5, 0, 1] [1000000000] (qaa Tryz.f56 0) (qb2 n8 0 l0 n1 n2 l3 l4 l5 l6 b7) .ret (qgo b9 l10 n11 n12 l13 l14 l15 l16 b17)]) :
 Rr 56 [RA.ref [D.sl 4 l0, I n1, I n2, D.sl 8 l3, D.sl 6 l4, D.sl 5 l5, D.sl 3 l6, B b7] [D.sl 4 l10, I n11, I n12, D.sl 8 l13, D.sl 6 l14, D.sl 5 l15, D.sl 3 l16, B b17], RA.ro (cI n8)] (RR.vals [cB b9]) :=
 h.ofR (by kernel_rfl)
theorem qiv (h : Oo [.l [] [5, 0, 1] [1000000000] (qaa Tryz.f56 0) (qb2 n8 0 l0 n1 n2 l3 l4 l5 l6 b7) (.exit 0) (qiu l9 n10 n11 l12 l13 l14 l15 b16)]) :
 Rr 56 [RA.ref [D.sl 4 l0, I n1, I n2, D.sl 8 l3, D.sl 6 l4, D.sl 5 l5, D.sl 3 l6, B b7] [D.sl 4 l9, I n10, I n11, D.sl 8 l12, D.sl 6 l13, D.sl 5 l14, D.sl 3 l15, B b16], RA.ro (cI n8)] (RR.vals [cB false]) :=
 h.ofR (by kernel_rfl)
theorem qt0 (h : Oo [.a (.resR [none] (RR.new [D.sl 4 l8, I n9, I n10, D.sl 8 l11, D.sl 6 l12, D.sl 5 l13, D.sl 3 l14, B b15])), .a (.resR [some [D.sl 4 l16, I n17, I n18, D.sl 8 l19, D.sl 6 l20, D.sl 5 l21, D.sl 3 l22, B b23], none] (RR.vals [cB b24])), .p (RetR Tryz.prog 55 [RA.ro (.agg (cl l0 n1 n2 l3 l4 l5 l6))] (RR.new [D.sl 4 l8, I n9, I n10, D.sl 8 l11, D.sl 6 l12, D.sl 5 l13, D.sl 3 l14, B b15])), .p (RetR Tryz.prog 56 [RA.ref [D.sl 4 l8, I n9, I n10, D.sl 8 l11, D.sl 6 l12, D.sl 5 l13, D.sl 3 l14, B b15] [D.sl 4 l16, I n17, I n18, D.sl 8 l19, D.sl 6 l20, D.sl 5 l21, D.sl 3 l22, B b23], RA.ro (cI n7)] (RR.vals [cB b24]))]) :
 Rt 12 [.agg (cl l0 n1 n2 l3 l4 l5 l6), cI n7] [.agg (cl l16 n17 n18 l19 l20 l21 l22), cB b24] :=
 h.of (by kernel_rfl)
theorem qt1 (h : Oo []) :
 Rt 63 [.agg [I n0, I n1, B b2], .one (.ptr [I n3])] [cB (n0 == n3)] :=
 h.of (by kernel_rfl)
theorem qt2 (h : Oo [.r 61 [.agg (cl l0 n1 n2 l3 l4 l5 l6)] [.agg (cl l8 n9 n10 l11 l12 l13 l14)], .r 62 [cS 3 l6, .one (.cl 63 [D.ptr [I n7]])] [cI n15], .b (decide (n15 < 0)) true]) :
 Rt 14 [.agg (cl l0 n1 n2 l3 l4 l5 l6), cI n7] [.agg (cl l8 n9 n10 l11 l12 l13 l14), cB false] :=
 h.of (by kernel_rfl)
theorem qt3 (h : Oo [.r 61 [.agg (cl l0 n1 n2 l3 l4 l5 l6)] [.agg (cl l8 n9 n10 l11 l12 l13 l14)], .r 62 [cS 3 l6, .one (.cl 63 [D.ptr [I n7]])] [cI n15], .b (decide (n15 < 0)) false, .r 64 [.agg (cl l0 n1 n2 l3 l4 l5 l6)] [cB b16], .b (!b16) true]) :
 Rt 14 [.agg (cl l0 n1 n2 l3 l4 l5 l6), cI n7] [.agg (cl l8 n9 n10 l11 l12 l13 l14), cB false] :=
 h.of (by kernel_rfl)
theorem qt4 (h : Oo [.r 61 [.agg (cl l0 n1 n2 l3 l4 l5 l6)] [.agg (cl l8 n9 n10 l11 l12 l13 l14)], .r 62 [cS 3 l6, .one (.cl 63 [D.ptr [I n7]])] [cI n15], .b (decide (n15 < 0)) false, .r 64 [.agg (cl l0 n1 n2 l3 l4 l5 l6)] [cB b16], .b (!b16) false, .p (0 ≤ n15), .p (n15 < (↑l6.length : Int)), .e l6 n15.toNat [I n17, I n18, B b19], .a (.resG [[some none], [none], [none]] 0 [] [cS 3 l21]), .p (inInt .i64 (n15 + 1)), .p (RetG Tryz.prog 65 [GA.one (GC.gv 3 l14 none), GA.one (GC.ro (I n15)), GA.one (GC.ro (I (n15 + 1)))] [cS 3 l21]), .p (0 ≤ n7), .p (n7 < (↑l3.length : Int)), .e l3 n7.toNat (wk l22 l23 l24 l25 l26 l27 l28 l29), .r 66 [.agg (wk l22 l23 l24 l25 l26 l27 l28 l29), cI n18] [cB b30], .b (!b30) true, .a .sub, .p (0 ≤ n7), .p (n7 < (↑l11.length : Int)), .e l11 n7.toNat (wk l31 l32 l33 l34 l35 l36 l37 l38), .p ((l38.length + [[I n18, B b19]].length) * 16 ≤ 140737488355328), .p (l38.length + [[I n18, B b19]].length ≤ 9223372036854775807), .e l11 n7.toNat (wk l31 l32 l33 l34 l35 l36 l37 l38), .p ((wk l31 l32 l33 l34 l35 l36 l37 l38)[7]? = some (D.sl 2 l38)), .p (Flat [[I n18, B b19]]), .p (l11 = l11), .p (l11 = l11), .p (l11 = l11), .p (l11 = l11), .p (l11 = l11), .p (l11 = l11), .p (n7.toNat = n7.toNat), .p (l38 = l38), .p (0 ≤ n7), .p (n7 < (↑l11.length : Int)), .e l11 n7.toNat (wk l31 l32 l33 l34 l35 l36 l37 l38), .p (n7.toNat = n7.toNat)]) :
 Rt 14 [.agg (cl l0 n1 n2 l3 l4 l5 l6), cI n7] [.agg (cl l8 n9 n10 (l11.set n7.toNat (wk l31 l32 l33 l34 l35 l36 l37 (l38 ++ [[I n18, B b19]]))) l12 l13 l21), cB true] :=
 h.of (by kernel_rfl)
theorem qt5 (h : Oo [.r 61 [.agg (cl l0 n1 n2 l3 l4 l5 l6)] [.agg (cl l8 n9 n10 l11 l12 l13 l14)], .r 62 [cS 3 l6, .one (.cl 63 [D.ptr [I n7]])] [cI n15], .b (decide (n15 < 0)) false, .r 64 [.agg (cl l0 n1 n2 l3 l4 l5 l6)] [cB b16], .b (!b16) false, .p (0 ≤ n15), .p (n15 < (↑l6.length : Int)), .e l6 n15.toNat [I n17, I n18, B b19], .a (.resG [[some none], [none], [none]] 0 [] [cS 3 l21]), .p (inInt .i64 (n15 + 1)), .p (RetG Tryz.prog 65 [GA.one (GC.gv 3 l14 none), GA.one (GC.ro (I n15)), GA.one (GC.ro (I (n15 + 1)))] [cS 3 l21]), .p (0 ≤ n7), .p (n7 < (↑l3.length : Int)), .e l3 n7.toNat (wk l22 l23 l24 l25 l26 l27 l28 l29), .r 66 [.agg (wk l22 l23 l24 l25 l26 l27 l28 l29), cI n18] [cB b30], .b (!b30) false]) :
 Rt 14 [.agg (cl l0 n1 n2 l3 l4 l5 l6), cI n7] [.agg (cl l8 n9 n10 l11 l12 l13 l21), cB true] :=
 h.of (by kernel_rfl)
end Go.Proofs.YtdanpadojemjeaaGreat
