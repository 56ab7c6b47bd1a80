import Derived.Test.YtdanpadojemjeaaGreatRows
import Derived.Test.YtdanpadojemjeaaGreatGE
namespace Go.Proofs.YtdanpadojemjeaaGreat
open Go.Sx Go.RowKit
variable {l0 l3 l4 l5 l6 l7 l8 l9 l10 l11 l12 l13 l14 l15 l16 l17 l18 l19 l20 l22 l23 l24 l25 l26 l27 l28 l29 l30 l31 l32 l33 l34 l35 l36 l37 l38 l40 l41 l42 l43 l44 l45 l46 l47 l49 l50 l51 l52 l53 l54 l55 l56 l58 l59 l60 l61 l62 l63 l64 l65 l67 l68 l69 l70 l71 l72 l73 l74 : LL} {n1 n2 n3 n4 n5 n6 n7 n8 n9 n10 n11 n12 n13 n14 n15 n16 n17 n18 n19 n20 n21 n22 n23 n24 n25 n26 n27 n28 n29 n30 n31 n32 n33 n34 n35 n37 n38 n39 n40 n48 n57 n66 n75 : Int} {b4 b5 b6 b7 b8 b9 b12 b13 b14 b17 b18 b19 b22 b23 b24 b27 b28 : Bool}
def qd6 (n0 n1 : Int) (l2 : LL) : St :=
 { env := envOf 50 [(0, PV.al (AL.one (lO 1000000000 5 l2))), (1, vI n1), (5, vI n0)], boxes := [] }
theorem qCG (n2 n3 : Int) (l4 : LL) (d5 d6 d7 d8 d9 d10 d11 d12 d13 d14 d15 d16 d17 d18 d19 d20 d21 d22 d23 d24 d25 d26 d27 d28 d29 : D) (h : Oo [.b (decide (n2 < (↑l4.length : Int))) true, .p (0 ≤ n2), .p (n2 < (↑l4.length : Int)), .e l4 n2.toNat [d5, d6, d7, d8, d9], .p (inInt .i64 (n3 + 1)), .p (0 ≤ n2), .p (n2 < (↑(l4.set n2.toNat [I n3, d6, d7, d8, d9]).length : Int)), .e (l4.set n2.toNat [I n3, d6, d7, d8, d9]) n2.toNat [d10, d11, d12, d13, d14], .p (inInt .i64 (n3 + 1 + 1)), .p (0 ≤ n2), .p (n2 < (↑((l4.set n2.toNat [I n3, d6, d7, d8, d9]).set n2.toNat [d10, I (n3 + 1), d12, d13, d14]).length : Int)), .e ((l4.set n2.toNat [I n3, d6, d7, d8, d9]).set n2.toNat [d10, I (n3 + 1), d12, d13, d14]) n2.toNat [d15, d16, d17, d18, d19], .p (inInt .i64 (n3 + 1 + 1 + 1)), .p (0 ≤ n2), .p (n2 < (↑(((l4.set n2.toNat [I n3, d6, d7, d8, d9]).set n2.toNat [d10, I (n3 + 1), d12, d13, d14]).set n2.toNat [d15, d16, I (n3 + 1 + 1), d18, d19]).length : Int)), .e (((l4.set n2.toNat [I n3, d6, d7, d8, d9]).set n2.toNat [d10, I (n3 + 1), d12, d13, d14]).set n2.toNat [d15, d16, I (n3 + 1 + 1), d18, d19]) n2.toNat [d20, d21, d22, d23, d24], .p (inInt .i64 (n3 + 1 + 1 + 1 + 1)), .p (0 ≤ n2), .p (n2 < (↑((((l4.set n2.toNat [I n3, d6, d7, d8, d9]).set n2.toNat [d10, I (n3 + 1), d12, d13, d14]).set n2.toNat [d15, d16, I (n3 + 1 + 1), d18, d19]).set n2.toNat [d20, d21, d22, I (n3 + 1 + 1 + 1), d24]).length : Int)), .e ((((l4.set n2.toNat [I n3, d6, d7, d8, d9]).set n2.toNat [d10, I (n3 + 1), d12, d13, d14]).set n2.toNat [d15, d16, I (n3 + 1 + 1), d18, d19]).set n2.toNat [d20, d21, d22, I (n3 + 1 + 1 + 1), d24]) n2.toNat [d25, d26, d27, d28, d29], .p (inInt .i64 (n3 + 1 + 1 + 1 + 1 + 1)), .p (inInt .i64 (n2 + 1))]) :
 Tp (qaa Tryz.f48 0) (qd6 n2 n3 l4) .normal (qd6 (n2 + 1) (n3 + 1 + 1 + 1 + 1 + 1) (((((l4.set n2.toNat [I n3, d6, d7, d8, d9]).set n2.toNat [d10, I (n3 + 1), d12, d13, d14]).set n2.toNat [d15, d16, I (n3 + 1 + 1), d18, d19]).set n2.toNat [d20, d21, d22, I (n3 + 1 + 1 + 1), d24]).set n2.toNat [d25, d26, d27, d28, I (n3 + 1 + 1 + 1 + 1)])) :=
 h.lp [5, 0, 1] [] (by kernel_rfl)
def qja (n0 : Int) (l1 : LL) : St :=
 { env := envOf 50 [(0, PV.al (AL.one (lO 1000000000 5 l1))), (1, vI n0)], boxes := [] }
theorem qCH (n2 n3 : Int) (l4 : LL) (h : Oo [.b (decide (n2 < (↑l4.length : Int))) false]) :
 Tp (qaa Tryz.f48 0) (qd6 n2 n3 l4) (.exit 0) (qja n3 l4) :=
 h.lp [1, 0] [] (by kernel_rfl)
theorem qCI (h : Oo [.l [] [5, 0, 1] [] (qaa Tryz.f48 0) (qd6 0 n1 l0) (.exit 0) (qja n2 l3)]) :
 Rg 48 [GA.one (GC.gv 5 l0 (some l3)), GA.one (GC.ro (I n1))] [cI n2] :=
 h.ofG (by kernel_rfl)
def qd7 (n0 n1 : Int) (l2 : LL) : St :=
 { env := envOf 36 [(0, PV.al (AL.one (lO 1000000000 3 l2))), (1, vI n1), (5, vI n0)], boxes := [] }
theorem qCJ (n2 n3 : Int) (l4 : LL) (d5 d6 d7 d8 d9 d10 d11 d12 d13 : D) (h : Oo [.b (decide (n2 < (↑l4.length : Int))) true, .p (0 ≤ n2), .p (n2 < (↑l4.length : Int)), .e l4 n2.toNat [d5, d6, d7], .p (inInt .i64 (n3 + 1)), .p (0 ≤ n2), .p (n2 < (↑(l4.set n2.toNat [I n3, d6, d7]).length : Int)), .e (l4.set n2.toNat [I n3, d6, d7]) n2.toNat [d8, d9, d10], .p (inInt .i64 (n3 + 1 + 1)), .p ((3 : Int) ≠ 0), .p (0 ≤ n2), .p (n2 < (↑((l4.set n2.toNat [I n3, d6, d7]).set n2.toNat [d8, I (n3 + 1), d10]).length : Int)), .e ((l4.set n2.toNat [I n3, d6, d7]).set n2.toNat [d8, I (n3 + 1), d10]) n2.toNat [d11, d12, d13], .p (inInt .i64 (n3 + 1 + 1 + 1)), .p (inInt .i64 (n2 + 1))]) :
 Tp (qaa Tryz.f74 0) (qd7 n2 n3 l4) .normal (qd7 (n2 + 1) (n3 + 1 + 1 + 1) (((l4.set n2.toNat [I n3, d6, d7]).set n2.toNat [d8, I (n3 + 1), d10]).set n2.toNat [d11, d12, B ((n3 + 1 + 1).tmod 3 == 0)])) :=
 h.lp [5, 0, 1] [] (by kernel_rfl)
def qjb (n0 : Int) (l1 : LL) : St :=
 { env := envOf 36 [(0, PV.al (AL.one (lO 1000000000 3 l1))), (1, vI n0)], boxes := [] }
theorem qCK (n2 n3 : Int) (l4 : LL) (h : Oo [.b (decide (n2 < (↑l4.length : Int))) false]) :
 Tp (qaa Tryz.f74 0) (qd7 n2 n3 l4) (.exit 0) (qjb n3 l4) :=
 h.lp [1, 0] [] (by kernel_rfl)
theorem qCL (h : Oo [.l [] [5, 0, 1] [] (qaa Tryz.f74 0) (qd7 0 n1 l0) (.exit 0) (qjb n2 l3)]) :
 Rg 74 [GA.one (GC.gv 3 l0 (some l3)), GA.one (GC.ro (I n1))] [cI n2] :=
 h.ofG (by kernel_rfl)
def qd8 (n0 n1 : Int) (l2 : LL) : St :=
 { env := envOf 19 [(0, PV.al (AL.one (lO 1000000000 1 l2))), (1, vI n1), (5, vI n0)], boxes := [] }
theorem qCM (n2 n3 : Int) (l4 : LL) (d5 : D) (h : Oo [.b (decide (n2 < (↑l4.length : Int))) true, .p (0 ≤ n2), .p (n2 < (↑l4.length : Int)), .e l4 n2.toNat [d5], .p (inInt .i64 (n3 + 1)), .p (inInt .i64 (n2 + 1))]) :
 Tp (qaa Tryz.f131 0) (qd8 n2 n3 l4) .normal (qd8 (n2 + 1) (n3 + 1) (l4.set n2.toNat [I n3])) :=
 h.lp [5, 0, 1] [] (by kernel_rfl)
def qjc (n0 : Int) (l1 : LL) : St :=
 { env := envOf 19 [(0, PV.al (AL.one (lO 1000000000 1 l1))), (1, vI n0)], boxes := [] }
theorem qCN (n2 n3 : Int) (l4 : LL) (h : Oo [.b (decide (n2 < (↑l4.length : Int))) false]) :
 Tp (qaa Tryz.f131 0) (qd8 n2 n3 l4) (.exit 0) (qjc n3 l4) :=
 h.lp [1, 0] [] (by kernel_rfl)
theorem qCO (h : Oo [.l [] [5, 0, 1] [] (qaa Tryz.f131 0) (qd8 0 n1 l0) (.exit 0) (qjc n2 l3)]) :
 Rg 131 [GA.one (GC.gv 1 l0 (some l3)), GA.one (GC.ro (I n1))] [cI n2] :=
 h.ofG (by kernel_rfl)
def qd9 (n0 n1 : Int) (l2 : LL) : St :=
 { env := envOf 41 [(0, PV.al (AL.one (lO 1000000000 4 l2))), (1, vI n1), (5, vI n0)], boxes := [] }
theorem qCP (n2 n3 : Int) (l4 : LL) (d5 d6 d7 d8 d9 d10 d11 d12 d13 d14 d15 d16 d17 d18 d19 d20 : D) (h : Oo [.b (decide (n2 < (↑l4.length : Int))) true, .p (0 ≤ n2), .p (n2 < (↑l4.length : Int)), .e l4 n2.toNat [d5, d6, d7, d8], .p (inInt .i64 (n3 + 1)), .p (0 ≤ n2), .p (n2 < (↑(l4.set n2.toNat [I n3, d6, d7, d8]).length : Int)), .e (l4.set n2.toNat [I n3, d6, d7, d8]) n2.toNat [d9, d10, d11, d12], .p (inInt .i64 (n3 + 1 + 1)), .p (0 ≤ n2), .p (n2 < (↑((l4.set n2.toNat [I n3, d6, d7, d8]).set n2.toNat [d9, I (n3 + 1), d11, d12]).length : Int)), .e ((l4.set n2.toNat [I n3, d6, d7, d8]).set n2.toNat [d9, I (n3 + 1), d11, d12]) n2.toNat [d13, d14, d15, d16], .p (inInt .i64 (n3 + 1 + 1 + 1)), .p (0 ≤ n2), .p (n2 < (↑(((l4.set n2.toNat [I n3, d6, d7, d8]).set n2.toNat [d9, I (n3 + 1), d11, d12]).set n2.toNat [d13, d14, I (n3 + 1 + 1), d16]).length : Int)), .e (((l4.set n2.toNat [I n3, d6, d7, d8]).set n2.toNat [d9, I (n3 + 1), d11, d12]).set n2.toNat [d13, d14, I (n3 + 1 + 1), d16]) n2.toNat [d17, d18, d19, d20], .p (inInt .i64 (n3 + 1 + 1 + 1 + 1)), .p (inInt .i64 (n2 + 1))]) :
 Tp (qaa Tryz.f49 0) (qd9 n2 n3 l4) .normal (qd9 (n2 + 1) (n3 + 1 + 1 + 1 + 1) ((((l4.set n2.toNat [I n3, d6, d7, d8]).set n2.toNat [d9, I (n3 + 1), d11, d12]).set n2.toNat [d13, d14, I (n3 + 1 + 1), d16]).set n2.toNat [d17, d18, d19, I (n3 + 1 + 1 + 1)])) :=
 h.lp [5, 0, 1] [] (by kernel_rfl)
def qjd (n0 : Int) (l1 : LL) : St :=
 { env := envOf 41 [(0, PV.al (AL.one (lO 1000000000 4 l1))), (1, vI n0)], boxes := [] }
theorem qCQ (n2 n3 : Int) (l4 : LL) (h : Oo [.b (decide (n2 < (↑l4.length : Int))) false]) :
 Tp (qaa Tryz.f49 0) (qd9 n2 n3 l4) (.exit 0) (qjd n3 l4) :=
 h.lp [1, 0] [] (by kernel_rfl)
theorem qCR (h : Oo [.l [] [5, 0, 1] [] (qaa Tryz.f49 0) (qd9 0 n1 l0) (.exit 0) (qjd n2 l3)]) :
 Rg 49 [GA.one (GC.gv 4 l0 (some l3)), GA.one (GC.ro (I n1))] [cI n2] :=
 h.ofG (by kernel_rfl)
def qea (n0 n1 : Int) (l2 : LL) : St :=
 { env := envOf 21 [(0, PV.al (AL.one (lO 1000000000 1 l2))), (1, vI n1), (5, vI n0)], boxes := [] }
theorem qCS (n2 n3 : Int) (l4 : LL) (d5 : D) (h : Oo [.b (decide (n2 < (↑l4.length : Int))) true, .p ((3 : Int) ≠ 0), .p (0 ≤ n2), .p (n2 < (↑l4.length : Int)), .e l4 n2.toNat [d5], .p (inInt .i64 (n3 + 1)), .p (inInt .i64 (n2 + 1))]) :
 Tp (qaa Tryz.f32 0) (qea n2 n3 l4) .normal (qea (n2 + 1) (n3 + 1) (l4.set n2.toNat [B (n3.tmod 3 == 0)])) :=
 h.lp [5, 0, 1] [] (by kernel_rfl)
def qje (n0 : Int) (l1 : LL) : St :=
 { env := envOf 21 [(0, PV.al (AL.one (lO 1000000000 1 l1))), (1, vI n0)], boxes := [] }
theorem qCT (n2 n3 : Int) (l4 : LL) (h : Oo [.b (decide (n2 < (↑l4.length : Int))) false]) :
 Tp (qaa Tryz.f32 0) (qea n2 n3 l4) (.exit 0) (qje n3 l4) :=
 h.lp [1, 0] [] (by kernel_rfl)
theorem qCU (h : Oo [.l [] [5, 0, 1] [] (qaa Tryz.f32 0) (qea 0 n1 l0) (.exit 0) (qje n2 l3)]) :
 Rg 32 [GA.one (GC.gv 1 l0 (some l3)), GA.one (GC.ro (I n1))] [cI n2] :=
 h.ofG (by kernel_rfl)
def qeb (n0 n1 : Int) (l2 : LL) : St :=
 { env := envOf 29 [(0, PV.al (AL.one (lO 1000000000 2 l2))), (1, vI n1), (5, vI n0)], boxes := [] }
theorem qCV (n2 n3 : Int) (l4 : LL) (d5 d6 d7 d8 : D) (h : Oo [.b (decide (n2 < (↑l4.length : Int))) true, .p (0 ≤ n2), .p (n2 < (↑l4.length : Int)), .e l4 n2.toNat [d5, d6], .p (inInt .i64 (n3 + 1)), .p ((3 : Int) ≠ 0), .p (0 ≤ n2), .p (n2 < (↑(l4.set n2.toNat [I n3, d6]).length : Int)), .e (l4.set n2.toNat [I n3, d6]) n2.toNat [d7, d8], .p (inInt .i64 (n3 + 1 + 1)), .p (inInt .i64 (n2 + 1))]) :
 Tp (qaa Tryz.f132 0) (qeb n2 n3 l4) .normal (qeb (n2 + 1) (n3 + 1 + 1) ((l4.set n2.toNat [I n3, d6]).set n2.toNat [d7, B ((n3 + 1).tmod 3 == 0)])) :=
 h.lp [5, 0, 1] [] (by kernel_rfl)
def qjf (n0 : Int) (l1 : LL) : St :=
 { env := envOf 29 [(0, PV.al (AL.one (lO 1000000000 2 l1))), (1, vI n0)], boxes := [] }
theorem qCW (n2 n3 : Int) (l4 : LL) (h : Oo [.b (decide (n2 < (↑l4.length : Int))) false]) :
 Tp (qaa Tryz.f132 0) (qeb n2 n3 l4) (.exit 0) (qjf n3 l4) :=
 h.lp [1, 0] [] (by kernel_rfl)
theorem qCX (h : Oo [.l [] [5, 0, 1] [] (qaa Tryz.f132 0) (qeb 0 n1 l0) (.exit 0) (qjf n2 l3)]) :
 Rg 132 [GA.one (GC.gv 2 l0 (some l3)), GA.one (GC.ro (I n1))] [cI n2] :=
 h.ofG (by kernel_rfl)
def qec (n0 n1 : Int) (l2 : LL) : St :=
 { env := envOf 54 [(0, PV.al (AL.one (lO 1000000000 5 l2))), (1, vI n1), (5, vI n0)], boxes := [] }
theorem qCY (n2 n3 : Int) (l4 : LL) (d5 d6 d7 d8 d9 d10 d11 d12 d13 d14 d15 d16 d17 d18 d19 d20 d21 d22 d23 d24 d25 d26 d27 d28 d29 : D) (h : Oo [.b (decide (n2 < (↑l4.length : Int))) true, .p ((3 : Int) ≠ 0), .p (0 ≤ n2), .p (n2 < (↑l4.length : Int)), .e l4 n2.toNat [d5, d6, d7, d8, d9], .p (inInt .i64 (n3 + 1)), .p (0 ≤ n2), .p (n2 < (↑(l4.set n2.toNat [B (n3.tmod 3 == 0), d6, d7, d8, d9]).length : Int)), .e (l4.set n2.toNat [B (n3.tmod 3 == 0), d6, d7, d8, d9]) n2.toNat [d10, d11, d12, d13, d14], .p (inInt .i64 (n3 + 1 + 1)), .p (0 ≤ n2), .p (n2 < (↑((l4.set n2.toNat [B (n3.tmod 3 == 0), d6, d7, d8, d9]).set n2.toNat [d10, I (n3 + 1), d12, d13, d14]).length : Int)), .e ((l4.set n2.toNat [B (n3.tmod 3 == 0), d6, d7, d8, d9]).set n2.toNat [d10, I (n3 + 1), d12, d13, d14]) n2.toNat [d15, d16, d17, d18, d19], .p (inInt .i64 (n3 + 1 + 1 + 1)), .p ((3 : Int) ≠ 0), .p (0 ≤ n2), .p (n2 < (↑(((l4.set n2.toNat [B (n3.tmod 3 == 0), d6, d7, d8, d9]).set n2.toNat [d10, I (n3 + 1), d12, d13, d14]).set n2.toNat [d15, d16, I (n3 + 1 + 1), d18, d19]).length : Int)), .e (((l4.set n2.toNat [B (n3.tmod 3 == 0), d6, d7, d8, d9]).set n2.toNat [d10, I (n3 + 1), d12, d13, d14]).set n2.toNat [d15, d16, I (n3 + 1 + 1), d18, d19]) n2.toNat [d20, d21, d22, d23, d24], .p (inInt .i64 (n3 + 1 + 1 + 1 + 1)), .p ((3 : Int) ≠ 0), .p (0 ≤ n2), .p (n2 < (↑((((l4.set n2.toNat [B (n3.tmod 3 == 0), d6, d7, d8, d9]).set n2.toNat [d10, I (n3 + 1), d12, d13, d14]).set n2.toNat [d15, d16, I (n3 + 1 + 1), d18, d19]).set n2.toNat [d20, d21, d22, B ((n3 + 1 + 1 + 1).tmod 3 == 0), d24]).length : Int)), .e ((((l4.set n2.toNat [B (n3.tmod 3 == 0), d6, d7, d8, d9]).set n2.toNat [d10, I (n3 + 1), d12, d13, d14]).set n2.toNat [d15, d16, I (n3 + 1 + 1), d18, d19]).set n2.toNat [d20, d21, d22, B ((n3 + 1 + 1 + 1).tmod 3 == 0), d24]) n2.toNat [d25, d26, d27, d28, d29], .p (inInt .i64 (n3 + 1 + 1 + 1 + 1 + 1)), .p (inInt .i64 (n2 + 1))]) :
 Tp (qaa Tryz.f73 0) (qec n2 n3 l4) .normal (qec (n2 + 1) (n3 + 1 + 1 + 1 + 1 + 1) (((((l4.set n2.toNat [B (n3.tmod 3 == 0), d6, d7, d8, d9]).set n2.toNat [d10, I (n3 + 1), d12, d13, d14]).set n2.toNat [d15, d16, I (n3 + 1 + 1), d18, d19]).set n2.toNat [d20, d21, d22, B ((n3 + 1 + 1 + 1).tmod 3 == 0), d24]).set n2.toNat [d25, d26, d27, d28, B ((n3 + 1 + 1 + 1 + 1).tmod 3 == 0)])) :=
 h.lp [5, 0, 1] [] (by kernel_rfl)
def qjg (n0 : Int) (l1 : LL) : St :=
 { env := envOf 54 [(0, PV.al (AL.one (lO 1000000000 5 l1))), (1, vI n0)], boxes := [] }
theorem qCZ (n2 n3 : Int) (l4 : LL) (h : Oo [.b (decide (n2 < (↑l4.length : Int))) false]) :
 Tp (qaa Tryz.f73 0) (qec n2 n3 l4) (.exit 0) (qjg n3 l4) :=
 h.lp [1, 0] [] (by kernel_rfl)
theorem qC0 (h : Oo [.l [] [5, 0, 1] [] (qaa Tryz.f73 0) (qec 0 n1 l0) (.exit 0) (qjg n2 l3)]) :
 Rg 73 [GA.one (GC.gv 5 l0 (some l3)), GA.one (GC.ro (I n1))] [cI n2] :=
 h.ofG (by kernel_rfl)
def qed (n0 n1 : Int) (l2 : LL) : St :=
 { env := envOf 41 [(0, PV.al (AL.one (lO 1000000000 4 l2))), (1, vI n1), (5, vI n0)], boxes := [] }
theorem qC1 (n2 n3 : Int) (l4 : LL) (d5 d6 d7 d8 d9 d10 d11 d12 d13 d14 d15 d16 : D) (n17 n18 n19 : Int) (l20 l21 : LL) (n22 : Int) (h : Oo [.b (decide (n2 < (↑l4.length : Int))) true, .p (0 ≤ n2), .p (n2 < (↑l4.length : Int)), .e l4 n2.toNat [d5, d6, d7, d8], .p (inInt .i64 (n3 + 1)), .p (0 ≤ n2), .p (n2 < (↑(l4.set n2.toNat [I n3, d6, d7, d8]).length : Int)), .e (l4.set n2.toNat [I n3, d6, d7, d8]) n2.toNat [d9, d10, d11, d12], .p (inInt .i64 (n3 + 1 + 1)), .p (0 ≤ n2), .p (n2 < (↑((l4.set n2.toNat [I n3, d6, d7, d8]).set n2.toNat [d9, I (n3 + 1), d11, d12]).length : Int)), .e ((l4.set n2.toNat [I n3, d6, d7, d8]).set n2.toNat [d9, I (n3 + 1), d11, d12]) n2.toNat [d13, d14, d15, d16], .a .sub, .p (inInt .i64 (n3 + 1 + 1 + 1)), .p (0 ≤ n2), .p (n2 < (↑(((l4.set n2.toNat [I n3, d6, d7, d8]).set n2.toNat [d9, I (n3 + 1), d11, d12]).set n2.toNat [d13, d14, I (n3 + 1 + 1), d16]).length : Int)), .e (((l4.set n2.toNat [I n3, d6, d7, d8]).set n2.toNat [d9, I (n3 + 1), d11, d12]).set n2.toNat [d13, d14, I (n3 + 1 + 1), d16]) n2.toNat (nd n17 n18 n19 l20), .a (.resG [[some (some l21)], [none]] 0 (nd n17 n18 n19 l20) [cI n22]), .p (RetG Tryz.prog 131 [GA.one (GC.gv 1 l20 (some l21)), GA.one (GC.ro (I (n3 + 1 + 1 + 1)))] [cI n22]), .p ((((l4.set n2.toNat [I n3, d6, d7, d8]).set n2.toNat [d9, I (n3 + 1), d11, d12]).set n2.toNat [d13, d14, I (n3 + 1 + 1), d16])[n2.toNat]? = some (nd n17 n18 n19 l20)), .p (n2.toNat = n2.toNat), .p (inInt .i64 (n2 + 1))]) :
 Tp (qaa Tryz.f109 0) (qed n2 n3 l4) .normal (qed (n2 + 1) n22 ((((l4.set n2.toNat [I n3, d6, d7, d8]).set n2.toNat [d9, I (n3 + 1), d11, d12]).set n2.toNat [d13, d14, I (n3 + 1 + 1), d16]).set n2.toNat (nd n17 n18 n19 l21))) :=
 h.lp [5, 0, 1] [] (by kernel_rfl)
def qjh (n0 : Int) (l1 : LL) : St :=
 { env := envOf 41 [(0, PV.al (AL.one (lO 1000000000 4 l1))), (1, vI n0)], boxes := [] }
theorem qC2 (n2 n3 : Int) (l4 : LL) (h : Oo [.b (decide (n2 < (↑l4.length : Int))) false]) :
 Tp (qaa Tryz.f109 0) (qed n2 n3 l4) (.exit 0) (qjh n3 l4) :=
 h.lp [1, 0] [] (by kernel_rfl)
theorem qC3 (h : Oo [.l [] [5, 0, 1] [] (qaa Tryz.f109 0) (qed 0 n1 l0) (.exit 0) (qjh n2 l3)]) :
 Rg 109 [GA.one (GC.gv 4 l0 (some l3)), GA.one (GC.ro (I n1))] [cI n2] :=
 h.ofG (by kernel_rfl)
def qee (n0 n1 : Int) (l2 : LL) : St :=
 { env := envOf 55 [(0, PV.al (AL.one (lO 1000000000 6 l2))), (1, vI n1), (5, vI n0)], boxes := [] }
theorem qC4 (n2 n3 : Int) (l4 : LL) (d5 d6 d7 d8 d9 d10 : D) (n11 : Int) (l12 : LL) (n13 n14 n15 n16 : Int) (l17 : LL) (n18 : Int) (d19 d20 d21 d22 d23 d24 d25 d26 d27 d28 d29 d30 d31 d32 d33 d34 d35 d36 d37 d38 d39 d40 d41 d42 : D) (h : Oo [.b (decide (n2 < (↑l4.length : Int))) true, .p (0 ≤ n2), .p (n2 < (↑l4.length : Int)), .e l4 n2.toNat [d5, d6, d7, d8, d9, d10], .a .sub, .p (inInt .i64 (n3 + 1)), .p (0 ≤ n2), .p (n2 < (↑(l4.set n2.toNat [I n3, d6, d7, d8, d9, d10]).length : Int)), .e (l4.set n2.toNat [I n3, d6, d7, d8, d9, d10]) n2.toNat (lk n11 l12 n13 n14 n15 n16), .a (.resG [[some (some l17)], [none]] 0 (lk n11 l12 n13 n14 n15 n16) [cI n18]), .p (RetG Tryz.prog 48 [GA.one (GC.gv 5 l12 (some l17)), GA.one (GC.ro (I (n3 + 1)))] [cI n18]), .p ((l4.set n2.toNat [I n3, d6, d7, d8, d9, d10])[n2.toNat]? = some (lk n11 l12 n13 n14 n15 n16)), .p (n2.toNat = n2.toNat), .p (0 ≤ n2), .p (n2 < (↑((l4.set n2.toNat [I n3, d6, d7, d8, d9, d10]).set n2.toNat (lk n11 l17 n13 n14 n15 n16)).length : Int)), .e ((l4.set n2.toNat [I n3, d6, d7, d8, d9, d10]).set n2.toNat (lk n11 l17 n13 n14 n15 n16)) n2.toNat [d19, d20, d21, d22, d23, d24], .p (inInt .i64 (n18 + 1)), .p (0 ≤ n2), .p (n2 < (↑(((l4.set n2.toNat [I n3, d6, d7, d8, d9, d10]).set n2.toNat (lk n11 l17 n13 n14 n15 n16)).set n2.toNat [d19, d20, I n18, d22, d23, d24]).length : Int)), .e (((l4.set n2.toNat [I n3, d6, d7, d8, d9, d10]).set n2.toNat (lk n11 l17 n13 n14 n15 n16)).set n2.toNat [d19, d20, I n18, d22, d23, d24]) n2.toNat [d25, d26, d27, d28, d29, d30], .p (inInt .i64 (n18 + 1 + 1)), .p (0 ≤ n2), .p (n2 < (↑((((l4.set n2.toNat [I n3, d6, d7, d8, d9, d10]).set n2.toNat (lk n11 l17 n13 n14 n15 n16)).set n2.toNat [d19, d20, I n18, d22, d23, d24]).set n2.toNat [d25, d26, d27, I (n18 + 1), d29, d30]).length : Int)), .e ((((l4.set n2.toNat [I n3, d6, d7, d8, d9, d10]).set n2.toNat (lk n11 l17 n13 n14 n15 n16)).set n2.toNat [d19, d20, I n18, d22, d23, d24]).set n2.toNat [d25, d26, d27, I (n18 + 1), d29, d30]) n2.toNat [d31, d32, d33, d34, d35, d36], .p (inInt .i64 (n18 + 1 + 1 + 1)), .p (0 ≤ n2), .p (n2 < (↑(((((l4.set n2.toNat [I n3, d6, d7, d8, d9, d10]).set n2.toNat (lk n11 l17 n13 n14 n15 n16)).set n2.toNat [d19, d20, I n18, d22, d23, d24]).set n2.toNat [d25, d26, d27, I (n18 + 1), d29, d30]).set n2.toNat [d31, d32, d33, d34, I (n18 + 1 + 1), d36]).length : Int)), .e (((((l4.set n2.toNat [I n3, d6, d7, d8, d9, d10]).set n2.toNat (lk n11 l17 n13 n14 n15 n16)).set n2.toNat [d19, d20, I n18, d22, d23, d24]).set n2.toNat [d25, d26, d27, I (n18 + 1), d29, d30]).set n2.toNat [d31, d32, d33, d34, I (n18 + 1 + 1), d36]) n2.toNat [d37, d38, d39, d40, d41, d42], .p (inInt .i64 (n18 + 1 + 1 + 1 + 1)), .p (inInt .i64 (n2 + 1))]) :
 Tp (qaa Tryz.f72 0) (qee n2 n3 l4) .normal (qee (n2 + 1) (n18 + 1 + 1 + 1 + 1) ((((((l4.set n2.toNat [I n3, d6, d7, d8, d9, d10]).set n2.toNat (lk n11 l17 n13 n14 n15 n16)).set n2.toNat [d19, d20, I n18, d22, d23, d24]).set n2.toNat [d25, d26, d27, I (n18 + 1), d29, d30]).set n2.toNat [d31, d32, d33, d34, I (n18 + 1 + 1), d36]).set n2.toNat [d37, d38, d39, d40, d41, I (n18 + 1 + 1 + 1)])) :=
 h.lp [5, 0, 1] [] (by kernel_rfl)
def qji (n0 : Int) (l1 : LL) : St :=
 { env := envOf 55 [(0, PV.al (AL.one (lO 1000000000 6 l1))), (1, vI n0)], boxes := [] }
theorem qC5 (n2 n3 : Int) (l4 : LL) (h : Oo [.b (decide (n2 < (↑l4.length : Int))) false]) :
 Tp (qaa Tryz.f72 0) (qee n2 n3 l4) (.exit 0) (qji n3 l4) :=
 h.lp [1, 0] [] (by kernel_rfl)
theorem qC6 (h : Oo [.l [] [5, 0, 1] [] (qaa Tryz.f72 0) (qee 0 n1 l0) (.exit 0) (qji n2 l3)]) :
 Rg 72 [GA.one (GC.gv 6 l0 (some l3)), GA.one (GC.ro (I n1))] [cI n2] :=
 h.ofG (by kernel_rfl)
def qef (n0 n1 : Int) (l2 : LL) : St :=
 { env := envOf 69 [(0, PV.al (AL.one (lO 1000000000 8 l2))), (1, vI n1), (5, vI n0)], boxes := [] }
theorem qC7 (n2 n3 : Int) (l4 l5 l6 l7 l8 l9 l10 l11 l12 l13 : LL) (n14 : Int) (l15 l16 l17 l18 l19 l20 l21 l22 l23 : LL) (n24 : Int) (l25 l26 l27 l28 l29 l30 l31 l32 l33 : LL) (n34 : Int) (l35 l36 l37 l38 l39 l40 l41 l42 l43 : LL) (n44 : Int) (l45 l46 l47 l48 l49 l50 l51 l52 l53 : LL) (n54 : Int) (l55 l56 l57 l58 l59 l60 l61 l62 l63 : LL) (n64 : Int) (l65 l66 l67 l68 l69 l70 l71 l72 l73 : LL) (n74 : Int) (l75 l76 l77 l78 l79 l80 l81 l82 l83 : LL) (n84 : Int) (h : Oo [.b (decide (n2 < (↑l4.length : Int))) true, .a .sub, .p (0 ≤ n2), .p (n2 < (↑l4.length : Int)), .e l4 n2.toNat (wk l5 l6 l7 l8 l9 l10 l11 l12), .a (.resG [[some (some l13)], [none]] 0 (wk l5 l6 l7 l8 l9 l10 l11 l12) [cI n14]), .a .sub, .p (RetG Tryz.prog 48 [GA.one (GC.gv 5 l5 (some l13)), GA.one (GC.ro (I n3))] [cI n14]), .p (l4[n2.toNat]? = some (wk l5 l6 l7 l8 l9 l10 l11 l12)), .p (n2.toNat = n2.toNat), .p (0 ≤ n2), .p (n2 < (↑(l4.set n2.toNat (wk l13 l6 l7 l8 l9 l10 l11 l12)).length : Int)), .e (l4.set n2.toNat (wk l13 l6 l7 l8 l9 l10 l11 l12)) n2.toNat (wk l15 l16 l17 l18 l19 l20 l21 l22), .a (.resG [[some (some l23)], [none]] 0 (wk l15 l16 l17 l18 l19 l20 l21 l22) [cI n24]), .a .sub, .p (RetG Tryz.prog 48 [GA.one (GC.gv 5 l16 (some l23)), GA.one (GC.ro (I n14))] [cI n24]), .p ((l4.set n2.toNat (wk l13 l6 l7 l8 l9 l10 l11 l12))[n2.toNat]? = some (wk l15 l16 l17 l18 l19 l20 l21 l22)), .p (n2.toNat = n2.toNat), .p (0 ≤ n2), .p (n2 < (↑((l4.set n2.toNat (wk l13 l6 l7 l8 l9 l10 l11 l12)).set n2.toNat (wk l15 l23 l17 l18 l19 l20 l21 l22)).length : Int)), .e ((l4.set n2.toNat (wk l13 l6 l7 l8 l9 l10 l11 l12)).set n2.toNat (wk l15 l23 l17 l18 l19 l20 l21 l22)) n2.toNat (wk l25 l26 l27 l28 l29 l30 l31 l32), .a (.resG [[some (some l33)], [none]] 0 (wk l25 l26 l27 l28 l29 l30 l31 l32) [cI n34]), .a .sub, .p (RetG Tryz.prog 48 [GA.one (GC.gv 5 l27 (some l33)), GA.one (GC.ro (I n24))] [cI n34]), .p (((l4.set n2.toNat (wk l13 l6 l7 l8 l9 l10 l11 l12)).set n2.toNat (wk l15 l23 l17 l18 l19 l20 l21 l22))[n2.toNat]? = some (wk l25 l26 l27 l28 l29 l30 l31 l32)), .p (n2.toNat = n2.toNat), .p (0 ≤ n2), .p (n2 < (↑(((l4.set n2.toNat (wk l13 l6 l7 l8 l9 l10 l11 l12)).set n2.toNat (wk l15 l23 l17 l18 l19 l20 l21 l22)).set n2.toNat (wk l25 l26 l33 l28 l29 l30 l31 l32)).length : Int)), .e (((l4.set n2.toNat (wk l13 l6 l7 l8 l9 l10 l11 l12)).set n2.toNat (wk l15 l23 l17 l18 l19 l20 l21 l22)).set n2.toNat (wk l25 l26 l33 l28 l29 l30 l31 l32)) n2.toNat (wk l35 l36 l37 l38 l39 l40 l41 l42), .a (.resG [[some (some l43)], [none]] 0 (wk l35 l36 l37 l38 l39 l40 l41 l42) [cI n44]), .a .sub, .p (RetG Tryz.prog 49 [GA.one (GC.gv 4 l38 (some l43)), GA.one (GC.ro (I n34))] [cI n44]), .p ((((l4.set n2.toNat (wk l13 l6 l7 l8 l9 l10 l11 l12)).set n2.toNat (wk l15 l23 l17 l18 l19 l20 l21 l22)).set n2.toNat (wk l25 l26 l33 l28 l29 l30 l31 l32))[n2.toNat]? = some (wk l35 l36 l37 l38 l39 l40 l41 l42)), .p (n2.toNat = n2.toNat), .p (0 ≤ n2), .p (n2 < (↑((((l4.set n2.toNat (wk l13 l6 l7 l8 l9 l10 l11 l12)).set n2.toNat (wk l15 l23 l17 l18 l19 l20 l21 l22)).set n2.toNat (wk l25 l26 l33 l28 l29 l30 l31 l32)).set n2.toNat (wk l35 l36 l37 l43 l39 l40 l41 l42)).length : Int)), .e ((((l4.set n2.toNat (wk l13 l6 l7 l8 l9 l10 l11 l12)).set n2.toNat (wk l15 l23 l17 l18 l19 l20 l21 l22)).set n2.toNat (wk l25 l26 l33 l28 l29 l30 l31 l32)).set n2.toNat (wk l35 l36 l37 l43 l39 l40 l41 l42)) n2.toNat (wk l45 l46 l47 l48 l49 l50 l51 l52), .a (.resG [[some (some l53)], [none]] 0 (wk l45 l46 l47 l48 l49 l50 l51 l52) [cI n54]), .a .sub, .p (RetG Tryz.prog 131 [GA.one (GC.gv 1 l49 (some l53)), GA.one (GC.ro (I n44))] [cI n54]), .p (((((l4.set n2.toNat (wk l13 l6 l7 l8 l9 l10 l11 l12)).set n2.toNat (wk l15 l23 l17 l18 l19 l20 l21 l22)).set n2.toNat (wk l25 l26 l33 l28 l29 l30 l31 l32)).set n2.toNat (wk l35 l36 l37 l43 l39 l40 l41 l42))[n2.toNat]? = some (wk l45 l46 l47 l48 l49 l50 l51 l52)), .p (n2.toNat = n2.toNat), .p (0 ≤ n2), .p (n2 < (↑(((((l4.set n2.toNat (wk l13 l6 l7 l8 l9 l10 l11 l12)).set n2.toNat (wk l15 l23 l17 l18 l19 l20 l21 l22)).set n2.toNat (wk l25 l26 l33 l28 l29 l30 l31 l32)).set n2.toNat (wk l35 l36 l37 l43 l39 l40 l41 l42)).set n2.toNat (wk l45 l46 l47 l48 l53 l50 l51 l52)).length : Int)), .e (((((l4.set n2.toNat (wk l13 l6 l7 l8 l9 l10 l11 l12)).set n2.toNat (wk l15 l23 l17 l18 l19 l20 l21 l22)).set n2.toNat (wk l25 l26 l33 l28 l29 l30 l31 l32)).set n2.toNat (wk l35 l36 l37 l43 l39 l40 l41 l42)).set n2.toNat (wk l45 l46 l47 l48 l53 l50 l51 l52)) n2.toNat (wk l55 l56 l57 l58 l59 l60 l61 l62), .a (.resG [[some (some l63)], [none]] 0 (wk l55 l56 l57 l58 l59 l60 l61 l62) [cI n64]), .a .sub, .p (RetG Tryz.prog 32 [GA.one (GC.gv 1 l60 (some l63)), GA.one (GC.ro (I n54))] [cI n64]), .p ((((((l4.set n2.toNat (wk l13 l6 l7 l8 l9 l10 l11 l12)).set n2.toNat (wk l15 l23 l17 l18 l19 l20 l21 l22)).set n2.toNat (wk l25 l26 l33 l28 l29 l30 l31 l32)).set n2.toNat (wk l35 l36 l37 l43 l39 l40 l41 l42)).set n2.toNat (wk l45 l46 l47 l48 l53 l50 l51 l52))[n2.toNat]? = some (wk l55 l56 l57 l58 l59 l60 l61 l62)), .p (n2.toNat = n2.toNat), .p (0 ≤ n2), .p (n2 < (↑((((((l4.set n2.toNat (wk l13 l6 l7 l8 l9 l10 l11 l12)).set n2.toNat (wk l15 l23 l17 l18 l19 l20 l21 l22)).set n2.toNat (wk l25 l26 l33 l28 l29 l30 l31 l32)).set n2.toNat (wk l35 l36 l37 l43 l39 l40 l41 l42)).set n2.toNat (wk l45 l46 l47 l48 l53 l50 l51 l52)).set n2.toNat (wk l55 l56 l57 l58 l59 l63 l61 l62)).length : Int)), .e ((((((l4.set n2.toNat (wk l13 l6 l7 l8 l9 l10 l11 l12)).set n2.toNat (wk l15 l23 l17 l18 l19 l20 l21 l22)).set n2.toNat (wk l25 l26 l33 l28 l29 l30 l31 l32)).set n2.toNat (wk l35 l36 l37 l43 l39 l40 l41 l42)).set n2.toNat (wk l45 l46 l47 l48 l53 l50 l51 l52)).set n2.toNat (wk l55 l56 l57 l58 l59 l63 l61 l62)) n2.toNat (wk l65 l66 l67 l68 l69 l70 l71 l72), .a (.resG [[some (some l73)], [none]] 0 (wk l65 l66 l67 l68 l69 l70 l71 l72) [cI n74]), .a .sub, .p (RetG Tryz.prog 32 [GA.one (GC.gv 1 l71 (some l73)), GA.one (GC.ro (I n64))] [cI n74]), .p (((((((l4.set n2.toNat (wk l13 l6 l7 l8 l9 l10 l11 l12)).set n2.toNat (wk l15 l23 l17 l18 l19 l20 l21 l22)).set n2.toNat (wk l25 l26 l33 l28 l29 l30 l31 l32)).set n2.toNat (wk l35 l36 l37 l43 l39 l40 l41 l42)).set n2.toNat (wk l45 l46 l47 l48 l53 l50 l51 l52)).set n2.toNat (wk l55 l56 l57 l58 l59 l63 l61 l62))[n2.toNat]? = some (wk l65 l66 l67 l68 l69 l70 l71 l72)), .p (n2.toNat = n2.toNat), .p (0 ≤ n2), .p (n2 < (↑(((((((l4.set n2.toNat (wk l13 l6 l7 l8 l9 l10 l11 l12)).set n2.toNat (wk l15 l23 l17 l18 l19 l20 l21 l22)).set n2.toNat (wk l25 l26 l33 l28 l29 l30 l31 l32)).set n2.toNat (wk l35 l36 l37 l43 l39 l40 l41 l42)).set n2.toNat (wk l45 l46 l47 l48 l53 l50 l51 l52)).set n2.toNat (wk l55 l56 l57 l58 l59 l63 l61 l62)).set n2.toNat (wk l65 l66 l67 l68 l69 l70 l73 l72)).length : Int)), .e (((((((l4.set n2.toNat (wk l13 l6 l7 l8 l9 l10 l11 l12)).set n2.toNat (wk l15 l23 l17 l18 l19 l20 l21 l22)).set n2.toNat (wk l25 l26 l33 l28 l29 l30 l31 l32)).set n2.toNat (wk l35 l36 l37 l43 l39 l40 l41 l42)).set n2.toNat (wk l45 l46 l47 l48 l53 l50 l51 l52)).set n2.toNat (wk l55 l56 l57 l58 l59 l63 l61 l62)).set n2.toNat (wk l65 l66 l67 l68 l69 l70 l73 l72)) n2.toNat (wk l75 l76 l77 l78 l79 l80 l81 l82), .a (.resG [[some (some l83)], [none]] 0 (wk l75 l76 l77 l78 l79 l80 l81 l82) [cI n84]), .p (RetG Tryz.prog 132 [GA.one (GC.gv 2 l82 (some l83)), GA.one (GC.ro (I n74))] [cI n84]), .p ((((((((l4.set n2.toNat (wk l13 l6 l7 l8 l9 l10 l11 l12)).set n2.toNat (wk l15 l23 l17 l18 l19 l20 l21 l22)).set n2.toNat (wk l25 l26 l33 l28 l29 l30 l31 l32)).set n2.toNat (wk l35 l36 l37 l43 l39 l40 l41 l42)).set n2.toNat (wk l45 l46 l47 l48 l53 l50 l51 l52)).set n2.toNat (wk l55 l56 l57 l58 l59 l63 l61 l62)).set n2.toNat (wk l65 l66 l67 l68 l69 l70 l73 l72))[n2.toNat]? = some (wk l75 l76 l77 l78 l79 l80 l81 l82)), .p (n2.toNat = n2.toNat), .p (inInt .i64 (n2 + 1))]) :
 Tp (qaa Tryz.f71 0) (qef n2 n3 l4) .normal (qef (n2 + 1) n84 ((((((((l4.set n2.toNat (wk l13 l6 l7 l8 l9 l10 l11 l12)).set n2.toNat (wk l15 l23 l17 l18 l19 l20 l21 l22)).set n2.toNat (wk l25 l26 l33 l28 l29 l30 l31 l32)).set n2.toNat (wk l35 l36 l37 l43 l39 l40 l41 l42)).set n2.toNat (wk l45 l46 l47 l48 l53 l50 l51 l52)).set n2.toNat (wk l55 l56 l57 l58 l59 l63 l61 l62)).set n2.toNat (wk l65 l66 l67 l68 l69 l70 l73 l72)).set n2.toNat (wk l75 l76 l77 l78 l79 l80 l81 l83))) :=
 h.lp [5, 0, 1] [] (by kernel_rfl)
def qjj (n0 : Int) (l1 : LL) : St :=
 { env := envOf 69 [(0, PV.al (AL.one (lO 1000000000 8 l1))), (1, vI n0)], boxes := [] }
theorem qC8 (n2 n3 : Int) (l4 : LL) (h : Oo [.b (decide (n2 < (↑l4.length : Int))) false]) :
 Tp (qaa Tryz.f71 0) (qef n2 n3 l4) (.exit 0) (qjj n3 l4) :=
 h.lp [1, 0] [] (by kernel_rfl)
theorem qC9 (h : Oo [.l [] [5, 0, 1] [] (qaa Tryz.f71 0) (qef 0 n1 l0) (.exit 0) (qjj n2 l3)]) :
 Rg 71 [GA.one (GC.gv 8 l0 (some l3)), GA.one (GC.ro (I n1))] [cI n2] :=
 h.ofG (by kernel_rfl)
theorem qDa (h : Oo [.a (.resG [[some (some l4)], [none]] 0 [] [cI n5]), .p (RetG Tryz.prog 109 [GA.one (GC.gv 4 l0 (some l4)), GA.one (GC.ro (I n3))] [cI n5])]) :
 Rg 47 [GA.agg [GC.gv 4 l0 (some l4), GC.ro (I n1), GC.ro (I n2)], GA.one (GC.ro (I n3))] [cI n5] :=
 h.ofG (by kernel_rfl)
theorem qDb (h : Oo [.a (.resG [[some (some l8), none, none], [none]] 0 [] [cI n9]), .a (.resG [[some (some l10)], [none]] 0 [] [cI n11]), .a (.resG [[some (some l12)], [none]] 0 [] [cI n13]), .a (.resG [[some (some l14)], [none]] 0 [] [cI n15]), .a (.resG [[some (some l16)], [none]] 0 [] [cI n17]), .p (RetG Tryz.prog 47 [GA.agg [GC.gv 4 l0 (some l8), GC.ro (I n1), GC.ro (I n2)], GA.one (GC.ro (I n7))] [cI n9]), .p (RetG Tryz.prog 71 [GA.one (GC.gv 8 l3 (some l10)), GA.one (GC.ro (I n9))] [cI n11]), .p (RetG Tryz.prog 72 [GA.one (GC.gv 6 l4 (some l12)), GA.one (GC.ro (I n11))] [cI n13]), .p (RetG Tryz.prog 73 [GA.one (GC.gv 5 l5 (some l14)), GA.one (GC.ro (I n13))] [cI n15]), .p (RetG Tryz.prog 74 [GA.one (GC.gv 3 l6 (some l16)), GA.one (GC.ro (I n15))] [cI n17])]) :
 Rg 16 [GA.agg [GC.gv 4 l0 (some l8), GC.ro (I n1), GC.ro (I n2), GC.gv 8 l3 (some l10), GC.gv 6 l4 (some l12), GC.gv 5 l5 (some l14), GC.gv 3 l6 (some l16)], GA.one (GC.ro (I n7))] [cI n17] :=
 h.ofG (by kernel_rfl)
def qeg (l0 : LL) (n1 n2 : Int) : St :=
 { env := envOf 60 [(0, vF 5 l0), (1, vI n2), (5, vI n1)], boxes := [] }
theorem qDc (h : Oo [.b (decide (n2 < (↑l0.length : Int))) true, .p (0 ≤ n2), .p (n2 < (↑l0.length : Int)), .e l0 n2.toNat (ri n4 n5 n6 n7 n8), .b (n4 != n3) false, .p (inInt .i64 (n3 + 1)), .p (0 ≤ n2), .p (n2 < (↑l0.length : Int)), .e l0 n2.toNat (ri n9 n10 n11 n12 n13), .b (n10 != n3 + 1) false, .p (inInt .i64 (n3 + 1 + 1)), .p (0 ≤ n2), .p (n2 < (↑l0.length : Int)), .e l0 n2.toNat (ri n14 n15 n16 n17 n18), .b (n16 != n3 + 1 + 1) false, .p (inInt .i64 (n3 + 1 + 1 + 1)), .p (0 ≤ n2), .p (n2 < (↑l0.length : Int)), .e l0 n2.toNat (ri n19 n20 n21 n22 n23), .b (n22 != n3 + 1 + 1 + 1) false, .p (inInt .i64 (n3 + 1 + 1 + 1 + 1)), .p (0 ≤ n2), .p (n2 < (↑l0.length : Int)), .e l0 n2.toNat (ri n24 n25 n26 n27 n28), .b (n28 != n3 + 1 + 1 + 1 + 1) false, .p (inInt .i64 (n3 + 1 + 1 + 1 + 1 + 1)), .p (inInt .i64 (n2 + 1))]) :
 Tp (qaa Tryz.f134 0) (qeg l0 n2 n3) .normal (qeg l0 (n2 + 1) (n3 + 1 + 1 + 1 + 1 + 1)) :=
 h.lp [5, 0, 1] [] (by kernel_rfl)
def qm2 (n0 : Int) : St :=
 { env := envOf 60 [(1, vI n0)], boxes := [] }
theorem qDd (h : Oo [.b (decide (n2 < (↑l0.length : Int))) false]) :
 Tp (qaa Tryz.f134 0) (qeg l0 n2 n3) (.exit 0) (qm2 n3) :=
 h.lp [1] [] (by kernel_rfl)
theorem qDe (h : Oo [.l [] [5, 0, 1] [] (qaa Tryz.f134 0) (qeg l0 0 n1) (.exit 0) (qm2 n2)]) :
 Rt 134 [cS 5 l0, cI n1] [cI n2] :=
 h.of (by kernel_rfl)
def qeh (l0 : LL) (n1 n2 : Int) : St :=
 { env := envOf 42 [(0, vF 3 l0), (1, vI n2), (5, vI n1)], boxes := [] }
theorem qDf (h : Oo [.b (decide (n2 < (↑l0.length : Int))) true, .p (0 ≤ n2), .p (n2 < (↑l0.length : Int)), .e l0 n2.toNat [I n4, I n5, B b6], .b (n4 != n3) false, .p (inInt .i64 (n3 + 1)), .p (0 ≤ n2), .p (n2 < (↑l0.length : Int)), .e l0 n2.toNat [I n7, I n8, B b9], .b (n8 != n3 + 1) false, .p (inInt .i64 (n3 + 1 + 1)), .p (0 ≤ n2), .p (n2 < (↑l0.length : Int)), .e l0 n2.toNat [I n10, I n11, B b12], .p ((3 : Int) ≠ 0), .b (!b12 == ((n3 + 1 + 1).tmod 3 == 0)) false, .p (inInt .i64 (n3 + 1 + 1 + 1)), .p (inInt .i64 (n2 + 1))]) :
 Tp (qaa Tryz.f79 0) (qeh l0 n2 n3) .normal (qeh l0 (n2 + 1) (n3 + 1 + 1 + 1)) :=
 h.lp [5, 0, 1] [] (by kernel_rfl)
def qm3 (n0 : Int) : St :=
 { env := envOf 42 [(1, vI n0)], boxes := [] }
theorem qDg (h : Oo [.b (decide (n2 < (↑l0.length : Int))) false]) :
 Tp (qaa Tryz.f79 0) (qeh l0 n2 n3) (.exit 0) (qm3 n3) :=
 h.lp [1] [] (by kernel_rfl)
theorem qDh (h : Oo [.l [] [5, 0, 1] [] (qaa Tryz.f79 0) (qeh l0 0 n1) (.exit 0) (qm3 n2)]) :
 Rt 79 [cS 3 l0, cI n1] [cI n2] :=
 h.of (by kernel_rfl)
def qei (l0 : LL) (n1 n2 : Int) : St :=
 { env := envOf 21 [(0, vF 1 l0), (1, vI n2), (5, vI n1)], boxes := [] }
theorem qDi (h : Oo [.b (decide (n2 < (↑l0.length : Int))) true, .p (0 ≤ n2), .p (n2 < (↑l0.length : Int)), .e l0 n2.toNat [I n4], .b (n4 != n3) false, .p (inInt .i64 (n3 + 1)), .p (inInt .i64 (n2 + 1))]) :
 Tp (qaa Tryz.f135 0) (qei l0 n2 n3) .normal (qei l0 (n2 + 1) (n3 + 1)) :=
 h.lp [5, 0, 1] [] (by kernel_rfl)
def qm4 (n0 : Int) : St :=
 { env := envOf 21 [(1, vI n0)], boxes := [] }
theorem qDj (h : Oo [.b (decide (n2 < (↑l0.length : Int))) false]) :
 Tp (qaa Tryz.f135 0) (qei l0 n2 n3) (.exit 0) (qm4 n3) :=
 h.lp [1] [] (by kernel_rfl)
theorem qDk (h : Oo [.l [] [5, 0, 1] [] (qaa Tryz.f135 0) (qei l0 0 n1) (.exit 0) (qm4 n2)]) :
 Rt 135 [cS 1 l0, cI n1] [cI n2] :=
 h.of (by kernel_rfl)
def qej (l0 : LL) (n1 n2 : Int) : St :=
 { env := envOf 49 [(0, vF 4 l0), (1, vI n2), (5, vI n1)], boxes := [] }
theorem qDl (h : Oo [.b (decide (n2 < (↑l0.length : Int))) true, .p (0 ≤ n2), .p (n2 < (↑l0.length : Int)), .e l0 n2.toNat [I n4, I n5, I n6, I n7], .b (n4 != n3) false, .p (inInt .i64 (n3 + 1)), .p (0 ≤ n2), .p (n2 < (↑l0.length : Int)), .e l0 n2.toNat [I n8, I n9, I n10, I n11], .b (n9 != n3 + 1) false, .p (inInt .i64 (n3 + 1 + 1)), .p (0 ≤ n2), .p (n2 < (↑l0.length : Int)), .e l0 n2.toNat [I n12, I n13, I n14, I n15], .b (n14 != n3 + 1 + 1) false, .p (inInt .i64 (n3 + 1 + 1 + 1)), .p (0 ≤ n2), .p (n2 < (↑l0.length : Int)), .e l0 n2.toNat [I n16, I n17, I n18, I n19], .b (n19 != n3 + 1 + 1 + 1) false, .p (inInt .i64 (n3 + 1 + 1 + 1 + 1)), .p (inInt .i64 (n2 + 1))]) :
 Tp (qaa Tryz.f50 0) (qej l0 n2 n3) .normal (qej l0 (n2 + 1) (n3 + 1 + 1 + 1 + 1)) :=
 h.lp [5, 0, 1] [] (by kernel_rfl)
def qm5 (n0 : Int) : St :=
 { env := envOf 49 [(1, vI n0)], boxes := [] }
theorem qDm (h : Oo [.b (decide (n2 < (↑l0.length : Int))) false]) :
 Tp (qaa Tryz.f50 0) (qej l0 n2 n3) (.exit 0) (qm5 n3) :=
 h.lp [1] [] (by kernel_rfl)
theorem qDn (h : Oo [.l [] [5, 0, 1] [] (qaa Tryz.f50 0) (qej l0 0 n1) (.exit 0) (qm5 n2)]) :
 Rt 50 [cS 4 l0, cI n1] [cI n2] :=
 h.of (by kernel_rfl)
def qek (l0 : LL) (n1 n2 : Int) : St :=
 { env := envOf 23 [(0, vF 1 l0), (1, vI n2), (5, vI n1)], boxes := [] }
theorem qDo (h : Oo [.b (decide (n2 < (↑l0.length : Int))) true, .p (0 ≤ n2), .p (n2 < (↑l0.length : Int)), .e l0 n2.toNat [B b4], .p ((3 : Int) ≠ 0), .b (!b4 == (n3.tmod 3 == 0)) false, .p (inInt .i64 (n3 + 1)), .p (inInt .i64 (n2 + 1))]) :
 Tp (qaa Tryz.f33 0) (qek l0 n2 n3) .normal (qek l0 (n2 + 1) (n3 + 1)) :=
 h.lp [5, 0, 1] [] (by kernel_rfl)
def qm6 (n0 : Int) : St :=
 { env := envOf 23 [(1, vI n0)], boxes := [] }
theorem qDp (h : Oo [.b (decide (n2 < (↑l0.length : Int))) false]) :
 Tp (qaa Tryz.f33 0) (qek l0 n2 n3) (.exit 0) (qm6 n3) :=
 h.lp [1] [] (by kernel_rfl)
theorem qDq (h : Oo [.l [] [5, 0, 1] [] (qaa Tryz.f33 0) (qek l0 0 n1) (.exit 0) (qm6 n2)]) :
 Rt 33 [cS 1 l0, cI n1] [cI n2] :=
 h.of (by kernel_rfl)
def qel (l0 : LL) (n1 n2 : Int) : St :=
 { env := envOf 33 [(0, vF 2 l0), (1, vI n2), (5, vI n1)], boxes := [] }
theorem qDr (h : Oo [.b (decide (n2 < (↑l0.length : Int))) true, .p (0 ≤ n2), .p (n2 < (↑l0.length : Int)), .e l0 n2.toNat [I n4, B b5], .b (n4 != n3) false, .p (inInt .i64 (n3 + 1)), .p (0 ≤ n2), .p (n2 < (↑l0.length : Int)), .e l0 n2.toNat [I n6, B b7], .p ((3 : Int) ≠ 0), .b (!b7 == ((n3 + 1).tmod 3 == 0)) false, .p (inInt .i64 (n3 + 1 + 1)), .p (inInt .i64 (n2 + 1))]) :
 Tp (qaa Tryz.f136 0) (qel l0 n2 n3) .normal (qel l0 (n2 + 1) (n3 + 1 + 1)) :=
 h.lp [5, 0, 1] [] (by kernel_rfl)
def qm7 (n0 : Int) : St :=
 { env := envOf 33 [(1, vI n0)], boxes := [] }
theorem qDs (h : Oo [.b (decide (n2 < (↑l0.length : Int))) false]) :
 Tp (qaa Tryz.f136 0) (qel l0 n2 n3) (.exit 0) (qm7 n3) :=
 h.lp [1] [] (by kernel_rfl)
theorem qDt (h : Oo [.l [] [5, 0, 1] [] (qaa Tryz.f136 0) (qel l0 0 n1) (.exit 0) (qm7 n2)]) :
 Rt 136 [cS 2 l0, cI n1] [cI n2] :=
 h.of (by kernel_rfl)
def qem (l0 : LL) (n1 n2 : Int) : St :=
 { env := envOf 64 [(0, vF 5 l0), (1, vI n2), (5, vI n1)], boxes := [] }
theorem qDu (h : Oo [.b (decide (n2 < (↑l0.length : Int))) true, .p (0 ≤ n2), .p (n2 < (↑l0.length : Int)), .e l0 n2.toNat [B b4, I n5, I n6, B b7, B b8], .p ((3 : Int) ≠ 0), .b (!b4 == (n3.tmod 3 == 0)) false, .p (inInt .i64 (n3 + 1)), .p (0 ≤ n2), .p (n2 < (↑l0.length : Int)), .e l0 n2.toNat [B b9, I n10, I n11, B b12, B b13], .b (n10 != n3 + 1) false, .p (inInt .i64 (n3 + 1 + 1)), .p (0 ≤ n2), .p (n2 < (↑l0.length : Int)), .e l0 n2.toNat [B b14, I n15, I n16, B b17, B b18], .b (n16 != n3 + 1 + 1) false, .p (inInt .i64 (n3 + 1 + 1 + 1)), .p (0 ≤ n2), .p (n2 < (↑l0.length : Int)), .e l0 n2.toNat [B b19, I n20, I n21, B b22, B b23], .p ((3 : Int) ≠ 0), .b (!b22 == ((n3 + 1 + 1 + 1).tmod 3 == 0)) false, .p (inInt .i64 (n3 + 1 + 1 + 1 + 1)), .p (0 ≤ n2), .p (n2 < (↑l0.length : Int)), .e l0 n2.toNat [B b24, I n25, I n26, B b27, B b28], .p ((3 : Int) ≠ 0), .b (!b28 == ((n3 + 1 + 1 + 1 + 1).tmod 3 == 0)) false, .p (inInt .i64 (n3 + 1 + 1 + 1 + 1 + 1)), .p (inInt .i64 (n2 + 1))]) :
 Tp (qaa Tryz.f78 0) (qem l0 n2 n3) .normal (qem l0 (n2 + 1) (n3 + 1 + 1 + 1 + 1 + 1)) :=
 h.lp [5, 0, 1] [] (by kernel_rfl)
def qm8 (n0 : Int) : St :=
 { env := envOf 64 [(1, vI n0)], boxes := [] }
theorem qDv (h : Oo [.b (decide (n2 < (↑l0.length : Int))) false]) :
 Tp (qaa Tryz.f78 0) (qem l0 n2 n3) (.exit 0) (qm8 n3) :=
 h.lp [1] [] (by kernel_rfl)
theorem qDw (h : Oo [.l [] [5, 0, 1] [] (qaa Tryz.f78 0) (qem l0 0 n1) (.exit 0) (qm8 n2)]) :
 Rt 78 [cS 5 l0, cI n1] [cI n2] :=
 h.of (by kernel_rfl)
def qen (l0 : LL) (n1 n2 : Int) : St :=
 { env := envOf 49 [(0, vF 4 l0), (1, vI n2), (5, vI n1)], boxes := [] }
theorem qDx (h : Oo [.b (decide (n2 < (↑l0.length : Int))) true, .p (0 ≤ n2), .p (n2 < (↑l0.length : Int)), .e l0 n2.toNat (nd n4 n5 n6 l7), .b (n4 != n3) false, .p (inInt .i64 (n3 + 1)), .p (0 ≤ n2), .p (n2 < (↑l0.length : Int)), .e l0 n2.toNat (nd n8 n9 n10 l11), .b (n9 != n3 + 1) false, .p (inInt .i64 (n3 + 1 + 1)), .p (0 ≤ n2), .p (n2 < (↑l0.length : Int)), .e l0 n2.toNat (nd n12 n13 n14 l15), .b (n14 != n3 + 1 + 1) false, .p (inInt .i64 (n3 + 1 + 1 + 1)), .p (0 ≤ n2), .p (n2 < (↑l0.length : Int)), .e l0 n2.toNat (nd n16 n17 n18 l19), .r 135 [cS 1 l19, cI (n3 + 1 + 1 + 1)] [cI n20], .b (decide (n20 < 0)) false, .p (inInt .i64 (n2 + 1))]) :
 Tp (qaa Tryz.f133 0) (qen l0 n2 n3) .normal (qen l0 (n2 + 1) n20) :=
 h.lp [5, 0, 1] [] (by kernel_rfl)
def qm9 (n0 : Int) : St :=
 { env := envOf 49 [(1, vI n0)], boxes := [] }
theorem qDy (h : Oo [.b (decide (n2 < (↑l0.length : Int))) false]) :
 Tp (qaa Tryz.f133 0) (qen l0 n2 n3) (.exit 0) (qm9 n3) :=
 h.lp [1] [] (by kernel_rfl)
theorem qDz (h : Oo [.l [] [5, 0, 1] [] (qaa Tryz.f133 0) (qen l0 0 n1) (.exit 0) (qm9 n2)]) :
 Rt 133 [cS 4 l0, cI n1] [cI n2] :=
 h.of (by kernel_rfl)
def qeo (l0 : LL) (n1 n2 : Int) : St :=
 { env := envOf 67 [(0, vF 6 l0), (1, vI n2), (5, vI n1)], boxes := [] }
theorem qDA (h : Oo [.b (decide (n2 < (↑l0.length : Int))) true, .p (0 ≤ n2), .p (n2 < (↑l0.length : Int)), .e l0 n2.toNat (lk n4 l5 n6 n7 n8 n9), .b (n4 != n3) false, .p (inInt .i64 (n3 + 1)), .p (0 ≤ n2), .p (n2 < (↑l0.length : Int)), .e l0 n2.toNat (lk n10 l11 n12 n13 n14 n15), .r 134 [cS 5 l11, cI (n3 + 1)] [cI n16], .b (decide (n16 < 0)) false, .p (0 ≤ n2), .p (n2 < (↑l0.length : Int)), .e l0 n2.toNat (lk n17 l18 n19 n20 n21 n22), .b (n19 != n16) false, .p (inInt .i64 (n16 + 1)), .p (0 ≤ n2), .p (n2 < (↑l0.length : Int)), .e l0 n2.toNat (lk n23 l24 n25 n26 n27 n28), .b (n26 != n16 + 1) false, .p (inInt .i64 (n16 + 1 + 1)), .p (0 ≤ n2), .p (n2 < (↑l0.length : Int)), .e l0 n2.toNat (lk n29 l30 n31 n32 n33 n34), .b (n33 != n16 + 1 + 1) false, .p (inInt .i64 (n16 + 1 + 1 + 1)), .p (0 ≤ n2), .p (n2 < (↑l0.length : Int)), .e l0 n2.toNat (lk n35 l36 n37 n38 n39 n40), .b (n40 != n16 + 1 + 1 + 1) false, .p (inInt .i64 (n16 + 1 + 1 + 1 + 1)), .p (inInt .i64 (n2 + 1))]) :
 Tp (qaa Tryz.f77 0) (qeo l0 n2 n3) .normal (qeo l0 (n2 + 1) (n16 + 1 + 1 + 1 + 1)) :=
 h.lp [5, 0, 1] [] (by kernel_rfl)
def qna (n0 : Int) : St :=
 { env := envOf 67 [(1, vI n0)], boxes := [] }
theorem qDB (h : Oo [.b (decide (n2 < (↑l0.length : Int))) false]) :
 Tp (qaa Tryz.f77 0) (qeo l0 n2 n3) (.exit 0) (qna n3) :=
 h.lp [1] [] (by kernel_rfl)
theorem qDC (h : Oo [.l [] [5, 0, 1] [] (qaa Tryz.f77 0) (qeo l0 0 n1) (.exit 0) (qna n2)]) :
 Rt 77 [cS 6 l0, cI n1] [cI n2] :=
 h.of (by kernel_rfl)
def qep (l0 : LL) (n1 n2 : Int) : St :=
 { env := envOf 85 [(0, vF 8 l0), (1, vI n2), (5, vI n1)], boxes := [] }
theorem qDD (h : Oo [.b (decide (n2 < (↑l0.length : Int))) true, .p (0 ≤ n2), .p (n2 < (↑l0.length : Int)), .e l0 n2.toNat (wk l4 l5 l6 l7 l8 l9 l10 l11), .r 134 [cS 5 l4, cI n3] [cI n12], .b (decide (n12 < 0)) false, .p (0 ≤ n2), .p (n2 < (↑l0.length : Int)), .e l0 n2.toNat (wk l13 l14 l15 l16 l17 l18 l19 l20), .r 134 [cS 5 l14, cI n12] [cI n21], .b (decide (n21 < 0)) false, .p (0 ≤ n2), .p (n2 < (↑l0.length : Int)), .e l0 n2.toNat (wk l22 l23 l24 l25 l26 l27 l28 l29), .r 134 [cS 5 l24, cI n21] [cI n30], .b (decide (n30 < 0)) false, .p (0 ≤ n2), .p (n2 < (↑l0.length : Int)), .e l0 n2.toNat (wk l31 l32 l33 l34 l35 l36 l37 l38), .r 50 [cS 4 l34, cI n30] [cI n39], .b (decide (n39 < 0)) false, .p (0 ≤ n2), .p (n2 < (↑l0.length : Int)), .e l0 n2.toNat (wk l40 l41 l42 l43 l44 l45 l46 l47), .r 135 [cS 1 l44, cI n39] [cI n48], .b (decide (n48 < 0)) false, .p (0 ≤ n2), .p (n2 < (↑l0.length : Int)), .e l0 n2.toNat (wk l49 l50 l51 l52 l53 l54 l55 l56), .r 33 [cS 1 l54, cI n48] [cI n57], .b (decide (n57 < 0)) false, .p (0 ≤ n2), .p (n2 < (↑l0.length : Int)), .e l0 n2.toNat (wk l58 l59 l60 l61 l62 l63 l64 l65), .r 33 [cS 1 l64, cI n57] [cI n66], .b (decide (n66 < 0)) false, .p (0 ≤ n2), .p (n2 < (↑l0.length : Int)), .e l0 n2.toNat (wk l67 l68 l69 l70 l71 l72 l73 l74), .r 136 [cS 2 l74, cI n66] [cI n75], .b (decide (n75 < 0)) false, .p (inInt .i64 (n2 + 1))]) :
 Tp (qaa Tryz.f76 0) (qep l0 n2 n3) .normal (qep l0 (n2 + 1) n75) :=
 h.lp [5, 0, 1] [] (by kernel_rfl)
def qnb (n0 : Int) : St :=
 { env := envOf 85 [(1, vI n0)], boxes := [] }
theorem qDE (h : Oo [.b (decide (n2 < (↑l0.length : Int))) false]) :
 Tp (qaa Tryz.f76 0) (qep l0 n2 n3) (.exit 0) (qnb n3) :=
 h.lp [1] [] (by kernel_rfl)
theorem qDF (h : Oo [.l [] [5, 0, 1] [] (qaa Tryz.f76 0) (qep l0 0 n1) (.exit 0) (qnb n2)]) :
 Rt 76 [cS 8 l0, cI n1] [cI n2] :=
 h.of (by kernel_rfl)
theorem qDG (h : Oo [.r 133 [cS 4 l0, cI n3] [cI n4], .b (decide (n4 < 0)) false]) :
 Rt 75 [.agg (gr l0 n1 n2), cI n3] [cI n4] :=
 h.of (by kernel_rfl)
theorem qDH (h : Oo [.r 75 [.agg (gr l0 n1 n2), cI n7] [cI n8], .b (decide (n8 < 0)) false, .r 76 [cS 8 l3, cI n8] [cI n9], .b (decide (n9 < 0)) false, .r 77 [cS 6 l4, cI n9] [cI n10], .b (decide (n10 < 0)) false, .r 78 [cS 5 l5, cI n10] [cI n11], .b (decide (n11 < 0)) false, .r 79 [cS 3 l6, cI n11] [cI n12], .b (decide (n12 < 0)) false]) :
 Rt 17 [.agg (cl l0 n1 n2 l3 l4 l5 l6), cI n7] [cI n12] :=
 h.of (by kernel_rfl)
end Go.Proofs.YtdanpadojemjeaaGreat
