import Derived.Test.YtdanpadojemjeaaGreatRows
import Derived.Test.YtdanpadojemjeaaGreatGE
namespace Go.Proofs.YtdanpadojemjeaaGreat
open Go.Sx Go.RowKit
variable {n0 n1 n2 n3 n4 n5 n6 n7 n8 n9 n10 n11 n12 n13 n14 : Int} {b0 b1 b2 b3 b4 b5 b6 b7 b8 b9 b10 b11 b12 b13 b14 b15 b16 b17 b18 b19 b20 b21 b22 b23 : Bool} {l0 l1 l2 l3 l4 l5 l6 l7 l8 l9 l10 l11 l12 l13 l14 l15 l16 l17 l18 : LL}
theorem qq9 (h : Oo [.b (n0 != n2) true]) :
 Rt 180 [.agg [I n0, I n1], .agg [I n2, I n3]] [cB false] :=
 h.of (by kernel_rfl)
theorem qra (h : Oo [.b (n0 != n2) false, .b (n1 != n3) true]) :
 Rt 180 [.agg [I n0, I n1], .agg [I n2, I n3]] [cB false] :=
 h.of (by kernel_rfl)
theorem qrb (h : Oo [.b (n0 != n2) false, .b (n1 != n3) false]) :
 Rt 180 [.agg [I n0, I n1], .agg [I n2, I n3]] [cB true] :=
 h.of (by kernel_rfl)
theorem qrc (h : Oo [.b (n0 != n5) true]) :
 Rt 108 [.agg (ri n0 n1 n2 n3 n4), .agg (ri n5 n6 n7 n8 n9)] [cB false] :=
 h.of (by kernel_rfl)
theorem qrd (h : Oo [.b (n0 != n5) false, .r 180 [.agg [I n1, I n2], .agg [I n6, I n7]] [cB b10], .b (!b10) true]) :
 Rt 108 [.agg (ri n0 n1 n2 n3 n4), .agg (ri n5 n6 n7 n8 n9)] [cB false] :=
 h.of (by kernel_rfl)
theorem qre (h : Oo [.b (n0 != n5) false, .r 180 [.agg [I n1, I n2], .agg [I n6, I n7]] [cB b10], .b (!b10) false, .b (n3 != n8) true]) :
 Rt 108 [.agg (ri n0 n1 n2 n3 n4), .agg (ri n5 n6 n7 n8 n9)] [cB false] :=
 h.of (by kernel_rfl)
theorem qrf (h : Oo [.b (n0 != n5) false, .r 180 [.agg [I n1, I n2], .agg [I n6, I n7]] [cB b10], .b (!b10) false, .b (n3 != n8) false, .b (n4 != n9) true]) :
 Rt 108 [.agg (ri n0 n1 n2 n3 n4), .agg (ri n5 n6 n7 n8 n9)] [cB false] :=
 h.of (by kernel_rfl)
theorem qrg (h : Oo [.b (n0 != n5) false, .r 180 [.agg [I n1, I n2], .agg [I n6, I n7]] [cB b10], .b (!b10) false, .b (n3 != n8) false, .b (n4 != n9) false]) :
 Rt 108 [.agg (ri n0 n1 n2 n3 n4), .agg (ri n5 n6 n7 n8 n9)] [cB true] :=
 h.of (by kernel_rfl)
theorem qrh (h : Oo [.b ((↑l0.length : Int) != (↑l1.length : Int)) true]) :
 Rt 46 [cS 5 l0, cS 5 l1] [cB false] :=
 h.of (by kernel_rfl)
def qco (l0 l1 : LL) (n2 : Int) : St :=
 { env := envOf 27 [(0, vF 5 l0), (1, vF 5 l1), (5, vI n2)], boxes := [] }
def qlp (b0 : Bool) : St :=
 { env := envOf 27 [(4, .al (.one (.sb b0)))], boxes := [] }
theorem qri (h : Oo [.b (decide (n2 < (↑l0.length : Int))) true, .p (0 ≤ n2), .p (n2 < (↑l0.length : Int)), .e l0 n2.toNat (ri n3 n4 n5 n6 n7), .p (0 ≤ n2), .p (n2 < (↑l1.length : Int)), .e l1 n2.toNat (ri n8 n9 n10 n11 n12), .r 108 [.agg (ri n3 n4 n5 n6 n7), .agg (ri n8 n9 n10 n11 n12)] [cB b13], .b (!b13) true]) :
 Tp (qaa Tryz.f46 0) (qco l0 l1 n2) .ret (qlp false) :=
 h.lp [4] [] (by kernel_rfl)
theorem qrj (h : Oo [.b (decide (n2 < (↑l0.length : Int))) true, .p (0 ≤ n2), .p (n2 < (↑l0.length : Int)), .e l0 n2.toNat (ri n3 n4 n5 n6 n7), .p (0 ≤ n2), .p (n2 < (↑l1.length : Int)), .e l1 n2.toNat (ri n8 n9 n10 n11 n12), .r 108 [.agg (ri n3 n4 n5 n6 n7), .agg (ri n8 n9 n10 n11 n12)] [cB b13], .b (!b13) false, .p (inInt .i64 (n2 + 1))]) :
 Tp (qaa Tryz.f46 0) (qco l0 l1 n2) .normal (qco l0 l1 (n2 + 1)) :=
 h.lp [5, 0, 1] [] (by kernel_rfl)
def qlq : St :=
 { env := envOf 27 [], boxes := [] }
theorem qrk (h : Oo [.b (decide (n2 < (↑l0.length : Int))) false]) :
 Tp (qaa Tryz.f46 0) (qco l0 l1 n2) (.exit 0) qlq :=
 h.lp [] [] (by kernel_rfl)
theorem qrl (l0 l1 : LL) (b2 : Bool) (h : Oo [.b ((↑l0.length : Int) != (↑l1.length : Int)) false, .l [] [5, 0, 1] [] (qaa Tryz.f46 0) (qco l0 l1 0) .ret (qlp b2)]) :
 Rt 46 [cS 5 l0, cS 5 l1] [cB b2] :=
 h.of (by kernel_rfl)
theorem qrm (h : Oo [.b ((↑l0.length : Int) != (↑l1.length : Int)) false, .l [] [5, 0, 1] [] (qaa Tryz.f46 0) (qco l0 l1 0) (.exit 0) qlq]) :
 Rt 46 [cS 5 l0, cS 5 l1] [cB true] :=
 h.of (by kernel_rfl)
theorem qrn (h : Oo [.b (n0 != n4) true]) :
 Rt 106 [.agg [I n0, I n1, I n2, I n3], .agg [I n4, I n5, I n6, I n7]] [cB false] :=
 h.of (by kernel_rfl)
theorem qro (h : Oo [.b (n0 != n4) false, .b (n1 != n5) true]) :
 Rt 106 [.agg [I n0, I n1, I n2, I n3], .agg [I n4, I n5, I n6, I n7]] [cB false] :=
 h.of (by kernel_rfl)
theorem qrp (h : Oo [.b (n0 != n4) false, .b (n1 != n5) false, .b (n2 != n6) true]) :
 Rt 106 [.agg [I n0, I n1, I n2, I n3], .agg [I n4, I n5, I n6, I n7]] [cB false] :=
 h.of (by kernel_rfl)
theorem qrq (h : Oo [.b (n0 != n4) false, .b (n1 != n5) false, .b (n2 != n6) false, .b (n3 != n7) true]) :
 Rt 106 [.agg [I n0, I n1, I n2, I n3], .agg [I n4, I n5, I n6, I n7]] [cB false] :=
 h.of (by kernel_rfl)
theorem qrr (h : Oo [.b (n0 != n4) false, .b (n1 != n5) false, .b (n2 != n6) false, .b (n3 != n7) false]) :
 Rt 106 [.agg [I n0, I n1, I n2, I n3], .agg [I n4, I n5, I n6, I n7]] [cB true] :=
 h.of (by kernel_rfl)
theorem qrs (h : Oo [.b ((↑l0.length : Int) != (↑l1.length : Int)) true]) :
 Rt 44 [cS 4 l0, cS 4 l1] [cB false] :=
 h.of (by kernel_rfl)
def qcp (l0 l1 : LL) (n2 : Int) : St :=
 { env := envOf 27 [(0, vF 4 l0), (1, vF 4 l1), (5, vI n2)], boxes := [] }
def qlr (b0 : Bool) : St :=
 { env := envOf 27 [(4, .al (.one (.sb b0)))], boxes := [] }
theorem qrt (h : Oo [.b (decide (n2 < (↑l0.length : Int))) true, .p (0 ≤ n2), .p (n2 < (↑l0.length : Int)), .e l0 n2.toNat [I n3, I n4, I n5, I n6], .p (0 ≤ n2), .p (n2 < (↑l1.length : Int)), .e l1 n2.toNat [I n7, I n8, I n9, I n10], .r 106 [.agg [I n3, I n4, I n5, I n6], .agg [I n7, I n8, I n9, I n10]] [cB b11], .b (!b11) true]) :
 Tp (qaa Tryz.f44 0) (qcp l0 l1 n2) .ret (qlr false) :=
 h.lp [4] [] (by kernel_rfl)
theorem qru (h : Oo [.b (decide (n2 < (↑l0.length : Int))) true, .p (0 ≤ n2), .p (n2 < (↑l0.length : Int)), .e l0 n2.toNat [I n3, I n4, I n5, I n6], .p (0 ≤ n2), .p (n2 < (↑l1.length : Int)), .e l1 n2.toNat [I n7, I n8, I n9, I n10], .r 106 [.agg [I n3, I n4, I n5, I n6], .agg [I n7, I n8, I n9, I n10]] [cB b11], .b (!b11) false, .p (inInt .i64 (n2 + 1))]) :
 Tp (qaa Tryz.f44 0) (qcp l0 l1 n2) .normal (qcp l0 l1 (n2 + 1)) :=
 h.lp [5, 0, 1] [] (by kernel_rfl)
def qls : St :=
 { env := envOf 27 [], boxes := [] }
theorem qrv (h : Oo [.b (decide (n2 < (↑l0.length : Int))) false]) :
 Tp (qaa Tryz.f44 0) (qcp l0 l1 n2) (.exit 0) qls :=
 h.lp [] [] (by kernel_rfl)
theorem qrw (l0 l1 : LL) (b2 : Bool) (h : Oo [.b ((↑l0.length : Int) != (↑l1.length : Int)) false, .l [] [5, 0, 1] [] (qaa Tryz.f44 0) (qcp l0 l1 0) .ret (qlr b2)]) :
 Rt 44 [cS 4 l0, cS 4 l1] [cB b2] :=
 h.of (by kernel_rfl)
theorem qrx (h : Oo [.b ((↑l0.length : Int) != (↑l1.length : Int)) false, .l [] [5, 0, 1] [] (qaa Tryz.f44 0) (qcp l0 l1 0) (.exit 0) qls]) :
 Rt 44 [cS 4 l0, cS 4 l1] [cB true] :=
 h.of (by kernel_rfl)
theorem qry (h : Oo [.b ((↑l0.length : Int) != (↑l1.length : Int)) true]) :
 Rt 203 [cS 1 l0, cS 1 l1] [cB false] :=
 h.of (by kernel_rfl)
def qcq (l0 l1 : LL) (n2 : Int) : St :=
 { env := envOf 26 [(0, vF 1 l0), (1, vF 1 l1), (5, vI n2)], boxes := [] }
def qlt (b0 : Bool) : St :=
 { env := envOf 26 [(4, .al (.one (.sb b0)))], boxes := [] }
theorem qrz (h : Oo [.b (decide (n2 < (↑l0.length : Int))) true, .p (0 ≤ n2), .p (n2 < (↑l0.length : Int)), .e l0 n2.toNat [I n3], .p (0 ≤ n2), .p (n2 < (↑l1.length : Int)), .e l1 n2.toNat [I n4], .b (n3 != n4) true]) :
 Tp (qaa Tryz.f203 0) (qcq l0 l1 n2) .ret (qlt false) :=
 h.lp [4] [] (by kernel_rfl)
theorem qrA (h : Oo [.b (decide (n2 < (↑l0.length : Int))) true, .p (0 ≤ n2), .p (n2 < (↑l0.length : Int)), .e l0 n2.toNat [I n3], .p (0 ≤ n2), .p (n2 < (↑l1.length : Int)), .e l1 n2.toNat [I n4], .b (n3 != n4) false, .p (inInt .i64 (n2 + 1))]) :
 Tp (qaa Tryz.f203 0) (qcq l0 l1 n2) .normal (qcq l0 l1 (n2 + 1)) :=
 h.lp [5, 0, 1] [] (by kernel_rfl)
def qlu : St :=
 { env := envOf 26 [], boxes := [] }
theorem qrB (h : Oo [.b (decide (n2 < (↑l0.length : Int))) false]) :
 Tp (qaa Tryz.f203 0) (qcq l0 l1 n2) (.exit 0) qlu :=
 h.lp [] [] (by kernel_rfl)
theorem qrC (l0 l1 : LL) (b2 : Bool) (h : Oo [.b ((↑l0.length : Int) != (↑l1.length : Int)) false, .l [] [5, 0, 1] [] (qaa Tryz.f203 0) (qcq l0 l1 0) .ret (qlt b2)]) :
 Rt 203 [cS 1 l0, cS 1 l1] [cB b2] :=
 h.of (by kernel_rfl)
theorem qrD (h : Oo [.b ((↑l0.length : Int) != (↑l1.length : Int)) false, .l [] [5, 0, 1] [] (qaa Tryz.f203 0) (qcq l0 l1 0) (.exit 0) qlu]) :
 Rt 203 [cS 1 l0, cS 1 l1] [cB true] :=
 h.of (by kernel_rfl)
theorem qrE (h : Oo [.b ((↑l0.length : Int) != (↑l1.length : Int)) true]) :
 Rt 29 [cS 1 l0, cS 1 l1] [cB false] :=
 h.of (by kernel_rfl)
def qcr (l0 l1 : LL) (n2 : Int) : St :=
 { env := envOf 26 [(0, vF 1 l0), (1, vF 1 l1), (5, vI n2)], boxes := [] }
def qlv (b0 : Bool) : St :=
 { env := envOf 26 [(4, .al (.one (.sb b0)))], boxes := [] }
theorem qrF (h : Oo [.b (decide (n2 < (↑l0.length : Int))) true, .p (0 ≤ n2), .p (n2 < (↑l0.length : Int)), .e l0 n2.toNat [B b3], .p (0 ≤ n2), .p (n2 < (↑l1.length : Int)), .e l1 n2.toNat [B b4], .b (!b3 == b4) true]) :
 Tp (qaa Tryz.f29 0) (qcr l0 l1 n2) .ret (qlv false) :=
 h.lp [4] [] (by kernel_rfl)
theorem qrG (h : Oo [.b (decide (n2 < (↑l0.length : Int))) true, .p (0 ≤ n2), .p (n2 < (↑l0.length : Int)), .e l0 n2.toNat [B b3], .p (0 ≤ n2), .p (n2 < (↑l1.length : Int)), .e l1 n2.toNat [B b4], .b (!b3 == b4) false, .p (inInt .i64 (n2 + 1))]) :
 Tp (qaa Tryz.f29 0) (qcr l0 l1 n2) .normal (qcr l0 l1 (n2 + 1)) :=
 h.lp [5, 0, 1] [] (by kernel_rfl)
def qlw : St :=
 { env := envOf 26 [], boxes := [] }
theorem qrH (h : Oo [.b (decide (n2 < (↑l0.length : Int))) false]) :
 Tp (qaa Tryz.f29 0) (qcr l0 l1 n2) (.exit 0) qlw :=
 h.lp [] [] (by kernel_rfl)
theorem qrI (l0 l1 : LL) (b2 : Bool) (h : Oo [.b ((↑l0.length : Int) != (↑l1.length : Int)) false, .l [] [5, 0, 1] [] (qaa Tryz.f29 0) (qcr l0 l1 0) .ret (qlv b2)]) :
 Rt 29 [cS 1 l0, cS 1 l1] [cB b2] :=
 h.of (by kernel_rfl)
theorem qrJ (h : Oo [.b ((↑l0.length : Int) != (↑l1.length : Int)) false, .l [] [5, 0, 1] [] (qaa Tryz.f29 0) (qcr l0 l1 0) (.exit 0) qlw]) :
 Rt 29 [cS 1 l0, cS 1 l1] [cB true] :=
 h.of (by kernel_rfl)
theorem qrK (h : Oo [.b (n0 != n2) true]) :
 Rt 232 [.agg [I n0, B b1], .agg [I n2, B b3]] [cB false] :=
 h.of (by kernel_rfl)
theorem qrL (h : Oo [.b (n0 != n2) false, .b (!b1 == b3) true]) :
 Rt 232 [.agg [I n0, B b1], .agg [I n2, B b3]] [cB false] :=
 h.of (by kernel_rfl)
theorem qrM (h : Oo [.b (n0 != n2) false, .b (!b1 == b3) false]) :
 Rt 232 [.agg [I n0, B b1], .agg [I n2, B b3]] [cB true] :=
 h.of (by kernel_rfl)
theorem qrN (h : Oo [.b ((↑l0.length : Int) != (↑l1.length : Int)) true]) :
 Rt 204 [cS 2 l0, cS 2 l1] [cB false] :=
 h.of (by kernel_rfl)
def qcs (l0 l1 : LL) (n2 : Int) : St :=
 { env := envOf 27 [(0, vF 2 l0), (1, vF 2 l1), (5, vI n2)], boxes := [] }
def qlx (b0 : Bool) : St :=
 { env := envOf 27 [(4, .al (.one (.sb b0)))], boxes := [] }
theorem qrO (h : Oo [.b (decide (n2 < (↑l0.length : Int))) true, .p (0 ≤ n2), .p (n2 < (↑l0.length : Int)), .e l0 n2.toNat [I n3, B b4], .p (0 ≤ n2), .p (n2 < (↑l1.length : Int)), .e l1 n2.toNat [I n5, B b6], .r 232 [.agg [I n3, B b4], .agg [I n5, B b6]] [cB b7], .b (!b7) true]) :
 Tp (qaa Tryz.f204 0) (qcs l0 l1 n2) .ret (qlx false) :=
 h.lp [4] [] (by kernel_rfl)
theorem qrP (h : Oo [.b (decide (n2 < (↑l0.length : Int))) true, .p (0 ≤ n2), .p (n2 < (↑l0.length : Int)), .e l0 n2.toNat [I n3, B b4], .p (0 ≤ n2), .p (n2 < (↑l1.length : Int)), .e l1 n2.toNat [I n5, B b6], .r 232 [.agg [I n3, B b4], .agg [I n5, B b6]] [cB b7], .b (!b7) false, .p (inInt .i64 (n2 + 1))]) :
 Tp (qaa Tryz.f204 0) (qcs l0 l1 n2) .normal (qcs l0 l1 (n2 + 1)) :=
 h.lp [5, 0, 1] [] (by kernel_rfl)
def qly : St :=
 { env := envOf 27 [], boxes := [] }
theorem qrQ (h : Oo [.b (decide (n2 < (↑l0.length : Int))) false]) :
 Tp (qaa Tryz.f204 0) (qcs l0 l1 n2) (.exit 0) qly :=
 h.lp [] [] (by kernel_rfl)
theorem qrR (l0 l1 : LL) (b2 : Bool) (h : Oo [.b ((↑l0.length : Int) != (↑l1.length : Int)) false, .l [] [5, 0, 1] [] (qaa Tryz.f204 0) (qcs l0 l1 0) .ret (qlx b2)]) :
 Rt 204 [cS 2 l0, cS 2 l1] [cB b2] :=
 h.of (by kernel_rfl)
theorem qrS (h : Oo [.b ((↑l0.length : Int) != (↑l1.length : Int)) false, .l [] [5, 0, 1] [] (qaa Tryz.f204 0) (qcs l0 l1 0) (.exit 0) qly]) :
 Rt 204 [cS 2 l0, cS 2 l1] [cB true] :=
 h.of (by kernel_rfl)
theorem qrT (h : Oo [.b (!b0 == b5) true]) :
 Rt 129 [.agg [B b0, I n1, I n2, B b3, B b4], .agg [B b5, I n6, I n7, B b8, B b9]] [cB false] :=
 h.of (by kernel_rfl)
theorem qrU (h : Oo [.b (!b0 == b5) false, .b (n1 != n6) true]) :
 Rt 129 [.agg [B b0, I n1, I n2, B b3, B b4], .agg [B b5, I n6, I n7, B b8, B b9]] [cB false] :=
 h.of (by kernel_rfl)
theorem qrV (h : Oo [.b (!b0 == b5) false, .b (n1 != n6) false, .b (n2 != n7) true]) :
 Rt 129 [.agg [B b0, I n1, I n2, B b3, B b4], .agg [B b5, I n6, I n7, B b8, B b9]] [cB false] :=
 h.of (by kernel_rfl)
theorem qrW (h : Oo [.b (!b0 == b5) false, .b (n1 != n6) false, .b (n2 != n7) false, .b (!b3 == b8) true]) :
 Rt 129 [.agg [B b0, I n1, I n2, B b3, B b4], .agg [B b5, I n6, I n7, B b8, B b9]] [cB false] :=
 h.of (by kernel_rfl)
theorem qrX (h : Oo [.b (!b0 == b5) false, .b (n1 != n6) false, .b (n2 != n7) false, .b (!b3 == b8) false, .b (!b4 == b9) true]) :
 Rt 129 [.agg [B b0, I n1, I n2, B b3, B b4], .agg [B b5, I n6, I n7, B b8, B b9]] [cB false] :=
 h.of (by kernel_rfl)
theorem qrY (h : Oo [.b (!b0 == b5) false, .b (n1 != n6) false, .b (n2 != n7) false, .b (!b3 == b8) false, .b (!b4 == b9) false]) :
 Rt 129 [.agg [B b0, I n1, I n2, B b3, B b4], .agg [B b5, I n6, I n7, B b8, B b9]] [cB true] :=
 h.of (by kernel_rfl)
theorem qrZ (h : Oo [.b ((↑l0.length : Int) != (↑l1.length : Int)) true]) :
 Rt 69 [cS 5 l0, cS 5 l1] [cB false] :=
 h.of (by kernel_rfl)
def qct (l0 l1 : LL) (n2 : Int) : St :=
 { env := envOf 27 [(0, vF 5 l0), (1, vF 5 l1), (5, vI n2)], boxes := [] }
def qlz (b0 : Bool) : St :=
 { env := envOf 27 [(4, .al (.one (.sb b0)))], boxes := [] }
theorem qr0 (h : Oo [.b (decide (n2 < (↑l0.length : Int))) true, .p (0 ≤ n2), .p (n2 < (↑l0.length : Int)), .e l0 n2.toNat [B b3, I n4, I n5, B b6, B b7], .p (0 ≤ n2), .p (n2 < (↑l1.length : Int)), .e l1 n2.toNat [B b8, I n9, I n10, B b11, B b12], .r 129 [.agg [B b3, I n4, I n5, B b6, B b7], .agg [B b8, I n9, I n10, B b11, B b12]] [cB b13], .b (!b13) true]) :
 Tp (qaa Tryz.f69 0) (qct l0 l1 n2) .ret (qlz false) :=
 h.lp [4] [] (by kernel_rfl)
theorem qr1 (h : Oo [.b (decide (n2 < (↑l0.length : Int))) true, .p (0 ≤ n2), .p (n2 < (↑l0.length : Int)), .e l0 n2.toNat [B b3, I n4, I n5, B b6, B b7], .p (0 ≤ n2), .p (n2 < (↑l1.length : Int)), .e l1 n2.toNat [B b8, I n9, I n10, B b11, B b12], .r 129 [.agg [B b3, I n4, I n5, B b6, B b7], .agg [B b8, I n9, I n10, B b11, B b12]] [cB b13], .b (!b13) false, .p (inInt .i64 (n2 + 1))]) :
 Tp (qaa Tryz.f69 0) (qct l0 l1 n2) .normal (qct l0 l1 (n2 + 1)) :=
 h.lp [5, 0, 1] [] (by kernel_rfl)
def qlA : St :=
 { env := envOf 27 [], boxes := [] }
theorem qr2 (h : Oo [.b (decide (n2 < (↑l0.length : Int))) false]) :
 Tp (qaa Tryz.f69 0) (qct l0 l1 n2) (.exit 0) qlA :=
 h.lp [] [] (by kernel_rfl)
theorem qr3 (l0 l1 : LL) (b2 : Bool) (h : Oo [.b ((↑l0.length : Int) != (↑l1.length : Int)) false, .l [] [5, 0, 1] [] (qaa Tryz.f69 0) (qct l0 l1 0) .ret (qlz b2)]) :
 Rt 69 [cS 5 l0, cS 5 l1] [cB b2] :=
 h.of (by kernel_rfl)
theorem qr4 (h : Oo [.b ((↑l0.length : Int) != (↑l1.length : Int)) false, .l [] [5, 0, 1] [] (qaa Tryz.f69 0) (qct l0 l1 0) (.exit 0) qlA]) :
 Rt 69 [cS 5 l0, cS 5 l1] [cB true] :=
 h.of (by kernel_rfl)
theorem qr5 (h : Oo [.b (n0 != n3) true]) :
 Rt 130 [.agg [I n0, I n1, B b2], .agg [I n3, I n4, B b5]] [cB false] :=
 h.of (by kernel_rfl)
theorem qr6 (h : Oo [.b (n0 != n3) false, .b (n1 != n4) true]) :
 Rt 130 [.agg [I n0, I n1, B b2], .agg [I n3, I n4, B b5]] [cB false] :=
 h.of (by kernel_rfl)
theorem qr7 (h : Oo [.b (n0 != n3) false, .b (n1 != n4) false, .b (!b2 == b5) true]) :
 Rt 130 [.agg [I n0, I n1, B b2], .agg [I n3, I n4, B b5]] [cB false] :=
 h.of (by kernel_rfl)
theorem qr8 (h : Oo [.b (n0 != n3) false, .b (n1 != n4) false, .b (!b2 == b5) false]) :
 Rt 130 [.agg [I n0, I n1, B b2], .agg [I n3, I n4, B b5]] [cB true] :=
 h.of (by kernel_rfl)
theorem qr9 (h : Oo [.b ((↑l0.length : Int) != (↑l1.length : Int)) true]) :
 Rt 70 [cS 3 l0, cS 3 l1] [cB false] :=
 h.of (by kernel_rfl)
def qcu (l0 l1 : LL) (n2 : Int) : St :=
 { env := envOf 27 [(0, vF 3 l0), (1, vF 3 l1), (5, vI n2)], boxes := [] }
def qlB (b0 : Bool) : St :=
 { env := envOf 27 [(4, .al (.one (.sb b0)))], boxes := [] }
theorem qsa (h : Oo [.b (decide (n2 < (↑l0.length : Int))) true, .p (0 ≤ n2), .p (n2 < (↑l0.length : Int)), .e l0 n2.toNat [I n3, I n4, B b5], .p (0 ≤ n2), .p (n2 < (↑l1.length : Int)), .e l1 n2.toNat [I n6, I n7, B b8], .r 130 [.agg [I n3, I n4, B b5], .agg [I n6, I n7, B b8]] [cB b9], .b (!b9) true]) :
 Tp (qaa Tryz.f70 0) (qcu l0 l1 n2) .ret (qlB false) :=
 h.lp [4] [] (by kernel_rfl)
theorem qsb (h : Oo [.b (decide (n2 < (↑l0.length : Int))) true, .p (0 ≤ n2), .p (n2 < (↑l0.length : Int)), .e l0 n2.toNat [I n3, I n4, B b5], .p (0 ≤ n2), .p (n2 < (↑l1.length : Int)), .e l1 n2.toNat [I n6, I n7, B b8], .r 130 [.agg [I n3, I n4, B b5], .agg [I n6, I n7, B b8]] [cB b9], .b (!b9) false, .p (inInt .i64 (n2 + 1))]) :
 Tp (qaa Tryz.f70 0) (qcu l0 l1 n2) .normal (qcu l0 l1 (n2 + 1)) :=
 h.lp [5, 0, 1] [] (by kernel_rfl)
def qlC : St :=
 { env := envOf 27 [], boxes := [] }
theorem qsc (h : Oo [.b (decide (n2 < (↑l0.length : Int))) false]) :
 Tp (qaa Tryz.f70 0) (qcu l0 l1 n2) (.exit 0) qlC :=
 h.lp [] [] (by kernel_rfl)
theorem qsd (l0 l1 : LL) (b2 : Bool) (h : Oo [.b ((↑l0.length : Int) != (↑l1.length : Int)) false, .l [] [5, 0, 1] [] (qaa Tryz.f70 0) (qcu l0 l1 0) .ret (qlB b2)]) :
 Rt 70 [cS 3 l0, cS 3 l1] [cB b2] :=
 h.of (by kernel_rfl)
theorem qse (h : Oo [.b ((↑l0.length : Int) != (↑l1.length : Int)) false, .l [] [5, 0, 1] [] (qaa Tryz.f70 0) (qcu l0 l1 0) (.exit 0) qlC]) :
 Rt 70 [cS 3 l0, cS 3 l1] [cB true] :=
 h.of (by kernel_rfl)
theorem qsf (h : Oo [.b (n0 != n4) true]) :
 Rt 179 [.agg (nd n0 n1 n2 l3), .agg (nd n4 n5 n6 l7)] [cB false] :=
 h.of (by kernel_rfl)
theorem qsg (h : Oo [.b (n0 != n4) false, .b (n1 != n5) true]) :
 Rt 179 [.agg (nd n0 n1 n2 l3), .agg (nd n4 n5 n6 l7)] [cB false] :=
 h.of (by kernel_rfl)
theorem qsh (h : Oo [.b (n0 != n4) false, .b (n1 != n5) false, .b (n2 != n6) true]) :
 Rt 179 [.agg (nd n0 n1 n2 l3), .agg (nd n4 n5 n6 l7)] [cB false] :=
 h.of (by kernel_rfl)
theorem qsi (h : Oo [.b (n0 != n4) false, .b (n1 != n5) false, .b (n2 != n6) false, .r 203 [cS 1 l3, cS 1 l7] [cB b8], .b (!b8) true]) :
 Rt 179 [.agg (nd n0 n1 n2 l3), .agg (nd n4 n5 n6 l7)] [cB false] :=
 h.of (by kernel_rfl)
theorem qsj (h : Oo [.b (n0 != n4) false, .b (n1 != n5) false, .b (n2 != n6) false, .r 203 [cS 1 l3, cS 1 l7] [cB b8], .b (!b8) false]) :
 Rt 179 [.agg (nd n0 n1 n2 l3), .agg (nd n4 n5 n6 l7)] [cB true] :=
 h.of (by kernel_rfl)
theorem qsk (h : Oo [.b ((↑l0.length : Int) != (↑l1.length : Int)) true]) :
 Rt 107 [cS 4 l0, cS 4 l1] [cB false] :=
 h.of (by kernel_rfl)
def qcv (l0 l1 : LL) (n2 : Int) : St :=
 { env := envOf 27 [(0, vF 4 l0), (1, vF 4 l1), (5, vI n2)], boxes := [] }
def qlD (b0 : Bool) : St :=
 { env := envOf 27 [(4, .al (.one (.sb b0)))], boxes := [] }
theorem qsl (h : Oo [.b (decide (n2 < (↑l0.length : Int))) true, .p (0 ≤ n2), .p (n2 < (↑l0.length : Int)), .e l0 n2.toNat (nd n3 n4 n5 l6), .p (0 ≤ n2), .p (n2 < (↑l1.length : Int)), .e l1 n2.toNat (nd n7 n8 n9 l10), .r 179 [.agg (nd n3 n4 n5 l6), .agg (nd n7 n8 n9 l10)] [cB b11], .b (!b11) true]) :
 Tp (qaa Tryz.f107 0) (qcv l0 l1 n2) .ret (qlD false) :=
 h.lp [4] [] (by kernel_rfl)
theorem qsm (h : Oo [.b (decide (n2 < (↑l0.length : Int))) true, .p (0 ≤ n2), .p (n2 < (↑l0.length : Int)), .e l0 n2.toNat (nd n3 n4 n5 l6), .p (0 ≤ n2), .p (n2 < (↑l1.length : Int)), .e l1 n2.toNat (nd n7 n8 n9 l10), .r 179 [.agg (nd n3 n4 n5 l6), .agg (nd n7 n8 n9 l10)] [cB b11], .b (!b11) false, .p (inInt .i64 (n2 + 1))]) :
 Tp (qaa Tryz.f107 0) (qcv l0 l1 n2) .normal (qcv l0 l1 (n2 + 1)) :=
 h.lp [5, 0, 1] [] (by kernel_rfl)
def qlE : St :=
 { env := envOf 27 [], boxes := [] }
theorem qsn (h : Oo [.b (decide (n2 < (↑l0.length : Int))) false]) :
 Tp (qaa Tryz.f107 0) (qcv l0 l1 n2) (.exit 0) qlE :=
 h.lp [] [] (by kernel_rfl)
theorem qso (l0 l1 : LL) (b2 : Bool) (h : Oo [.b ((↑l0.length : Int) != (↑l1.length : Int)) false, .l [] [5, 0, 1] [] (qaa Tryz.f107 0) (qcv l0 l1 0) .ret (qlD b2)]) :
 Rt 107 [cS 4 l0, cS 4 l1] [cB b2] :=
 h.of (by kernel_rfl)
theorem qsp (h : Oo [.b ((↑l0.length : Int) != (↑l1.length : Int)) false, .l [] [5, 0, 1] [] (qaa Tryz.f107 0) (qcv l0 l1 0) (.exit 0) qlE]) :
 Rt 107 [cS 4 l0, cS 4 l1] [cB true] :=
 h.of (by kernel_rfl)
theorem qsq (h : Oo [.b (n0 != n6) true]) :
 Rt 128 [.agg (lk n0 l1 n2 n3 n4 n5), .agg (lk n6 l7 n8 n9 n10 n11)] [cB false] :=
 h.of (by kernel_rfl)
theorem qsr (h : Oo [.b (n0 != n6) false, .r 46 [cS 5 l1, cS 5 l7] [cB b12], .b (!b12) true]) :
 Rt 128 [.agg (lk n0 l1 n2 n3 n4 n5), .agg (lk n6 l7 n8 n9 n10 n11)] [cB false] :=
 h.of (by kernel_rfl)
theorem qss (h : Oo [.b (n0 != n6) false, .r 46 [cS 5 l1, cS 5 l7] [cB b12], .b (!b12) false, .b (n2 != n8) true]) :
 Rt 128 [.agg (lk n0 l1 n2 n3 n4 n5), .agg (lk n6 l7 n8 n9 n10 n11)] [cB false] :=
 h.of (by kernel_rfl)
theorem qst (h : Oo [.b (n0 != n6) false, .r 46 [cS 5 l1, cS 5 l7] [cB b12], .b (!b12) false, .b (n2 != n8) false, .b (n3 != n9) true]) :
 Rt 128 [.agg (lk n0 l1 n2 n3 n4 n5), .agg (lk n6 l7 n8 n9 n10 n11)] [cB false] :=
 h.of (by kernel_rfl)
theorem qsu (h : Oo [.b (n0 != n6) false, .r 46 [cS 5 l1, cS 5 l7] [cB b12], .b (!b12) false, .b (n2 != n8) false, .b (n3 != n9) false, .b (n4 != n10) true]) :
 Rt 128 [.agg (lk n0 l1 n2 n3 n4 n5), .agg (lk n6 l7 n8 n9 n10 n11)] [cB false] :=
 h.of (by kernel_rfl)
theorem qsv (h : Oo [.b (n0 != n6) false, .r 46 [cS 5 l1, cS 5 l7] [cB b12], .b (!b12) false, .b (n2 != n8) false, .b (n3 != n9) false, .b (n4 != n10) false, .b (n5 != n11) true]) :
 Rt 128 [.agg (lk n0 l1 n2 n3 n4 n5), .agg (lk n6 l7 n8 n9 n10 n11)] [cB false] :=
 h.of (by kernel_rfl)
theorem qsw (h : Oo [.b (n0 != n6) false, .r 46 [cS 5 l1, cS 5 l7] [cB b12], .b (!b12) false, .b (n2 != n8) false, .b (n3 != n9) false, .b (n4 != n10) false, .b (n5 != n11) false]) :
 Rt 128 [.agg (lk n0 l1 n2 n3 n4 n5), .agg (lk n6 l7 n8 n9 n10 n11)] [cB true] :=
 h.of (by kernel_rfl)
theorem qsx (h : Oo [.b ((↑l0.length : Int) != (↑l1.length : Int)) true]) :
 Rt 68 [cS 6 l0, cS 6 l1] [cB false] :=
 h.of (by kernel_rfl)
def qcw (l0 l1 : LL) (n2 : Int) : St :=
 { env := envOf 27 [(0, vF 6 l0), (1, vF 6 l1), (5, vI n2)], boxes := [] }
def qlF (b0 : Bool) : St :=
 { env := envOf 27 [(4, .al (.one (.sb b0)))], boxes := [] }
theorem qsy (h : Oo [.b (decide (n2 < (↑l0.length : Int))) true, .p (0 ≤ n2), .p (n2 < (↑l0.length : Int)), .e l0 n2.toNat (lk n3 l4 n5 n6 n7 n8), .p (0 ≤ n2), .p (n2 < (↑l1.length : Int)), .e l1 n2.toNat (lk n9 l10 n11 n12 n13 n14), .r 128 [.agg (lk n3 l4 n5 n6 n7 n8), .agg (lk n9 l10 n11 n12 n13 n14)] [cB b15], .b (!b15) true]) :
 Tp (qaa Tryz.f68 0) (qcw l0 l1 n2) .ret (qlF false) :=
 h.lp [4] [] (by kernel_rfl)
theorem qsz (h : Oo [.b (decide (n2 < (↑l0.length : Int))) true, .p (0 ≤ n2), .p (n2 < (↑l0.length : Int)), .e l0 n2.toNat (lk n3 l4 n5 n6 n7 n8), .p (0 ≤ n2), .p (n2 < (↑l1.length : Int)), .e l1 n2.toNat (lk n9 l10 n11 n12 n13 n14), .r 128 [.agg (lk n3 l4 n5 n6 n7 n8), .agg (lk n9 l10 n11 n12 n13 n14)] [cB b15], .b (!b15) false, .p (inInt .i64 (n2 + 1))]) :
 Tp (qaa Tryz.f68 0) (qcw l0 l1 n2) .normal (qcw l0 l1 (n2 + 1)) :=
 h.lp [5, 0, 1] [] (by kernel_rfl)
def qlG : St :=
 { env := envOf 27 [], boxes := [] }
theorem qsA (h : Oo [.b (decide (n2 < (↑l0.length : Int))) false]) :
 Tp (qaa Tryz.f68 0) (qcw l0 l1 n2) (.exit 0) qlG :=
 h.lp [] [] (by kernel_rfl)
theorem qsB (l0 l1 : LL) (b2 : Bool) (h : Oo [.b ((↑l0.length : Int) != (↑l1.length : Int)) false, .l [] [5, 0, 1] [] (qaa Tryz.f68 0) (qcw l0 l1 0) .ret (qlF b2)]) :
 Rt 68 [cS 6 l0, cS 6 l1] [cB b2] :=
 h.of (by kernel_rfl)
theorem qsC (h : Oo [.b ((↑l0.length : Int) != (↑l1.length : Int)) false, .l [] [5, 0, 1] [] (qaa Tryz.f68 0) (qcw l0 l1 0) (.exit 0) qlG]) :
 Rt 68 [cS 6 l0, cS 6 l1] [cB true] :=
 h.of (by kernel_rfl)
theorem qsD (h : Oo [.r 107 [cS 4 l0, cS 4 l3] [cB b6], .b (!b6) true]) :
 Rt 45 [.agg (gr l0 n1 n2), .agg (gr l3 n4 n5)] [cB false] :=
 h.of (by kernel_rfl)
theorem qsE (h : Oo [.r 107 [cS 4 l0, cS 4 l3] [cB b6], .b (!b6) false, .b (n1 != n4) true]) :
 Rt 45 [.agg (gr l0 n1 n2), .agg (gr l3 n4 n5)] [cB false] :=
 h.of (by kernel_rfl)
theorem qsF (h : Oo [.r 107 [cS 4 l0, cS 4 l3] [cB b6], .b (!b6) false, .b (n1 != n4) false, .b (n2 != n5) true]) :
 Rt 45 [.agg (gr l0 n1 n2), .agg (gr l3 n4 n5)] [cB false] :=
 h.of (by kernel_rfl)
theorem qsG (h : Oo [.r 107 [cS 4 l0, cS 4 l3] [cB b6], .b (!b6) false, .b (n1 != n4) false, .b (n2 != n5) false]) :
 Rt 45 [.agg (gr l0 n1 n2), .agg (gr l3 n4 n5)] [cB true] :=
 h.of (by kernel_rfl)
theorem qsH (h : Oo [.r 46 [cS 5 l0, cS 5 l8] [cB b16], .b (!b16) true]) :
 Rt 127 [.agg (wk l0 l1 l2 l3 l4 l5 l6 l7), .agg (wk l8 l9 l10 l11 l12 l13 l14 l15)] [cB false] :=
 h.of (by kernel_rfl)
theorem qsI (h : Oo [.r 46 [cS 5 l0, cS 5 l8] [cB b16], .b (!b16) false, .r 46 [cS 5 l1, cS 5 l9] [cB b17], .b (!b17) true]) :
 Rt 127 [.agg (wk l0 l1 l2 l3 l4 l5 l6 l7), .agg (wk l8 l9 l10 l11 l12 l13 l14 l15)] [cB false] :=
 h.of (by kernel_rfl)
theorem qsJ (h : Oo [.r 46 [cS 5 l0, cS 5 l8] [cB b16], .b (!b16) false, .r 46 [cS 5 l1, cS 5 l9] [cB b17], .b (!b17) false, .r 46 [cS 5 l2, cS 5 l10] [cB b18], .b (!b18) true]) :
 Rt 127 [.agg (wk l0 l1 l2 l3 l4 l5 l6 l7), .agg (wk l8 l9 l10 l11 l12 l13 l14 l15)] [cB false] :=
 h.of (by kernel_rfl)
theorem qsK (h : Oo [.r 46 [cS 5 l0, cS 5 l8] [cB b16], .b (!b16) false, .r 46 [cS 5 l1, cS 5 l9] [cB b17], .b (!b17) false, .r 46 [cS 5 l2, cS 5 l10] [cB b18], .b (!b18) false, .r 44 [cS 4 l3, cS 4 l11] [cB b19], .b (!b19) true]) :
 Rt 127 [.agg (wk l0 l1 l2 l3 l4 l5 l6 l7), .agg (wk l8 l9 l10 l11 l12 l13 l14 l15)] [cB false] :=
 h.of (by kernel_rfl)
theorem qsL (h : Oo [.r 46 [cS 5 l0, cS 5 l8] [cB b16], .b (!b16) false, .r 46 [cS 5 l1, cS 5 l9] [cB b17], .b (!b17) false, .r 46 [cS 5 l2, cS 5 l10] [cB b18], .b (!b18) false, .r 44 [cS 4 l3, cS 4 l11] [cB b19], .b (!b19) false, .r 203 [cS 1 l4, cS 1 l12] [cB b20], .b (!b20) true]) :
 Rt 127 [.agg (wk l0 l1 l2 l3 l4 l5 l6 l7), .agg (wk l8 l9 l10 l11 l12 l13 l14 l15)] [cB false] :=
 h.of (by kernel_rfl)
theorem qsM (h : Oo [.r 46 [cS 5 l0, cS 5 l8] [cB b16], .b (!b16) false, .r 46 [cS 5 l1, cS 5 l9] [cB b17], .b (!b17) false, .r 46 [cS 5 l2, cS 5 l10] [cB b18], .b (!b18) false, .r 44 [cS 4 l3, cS 4 l11] [cB b19], .b (!b19) false, .r 203 [cS 1 l4, cS 1 l12] [cB b20], .b (!b20) false, .r 29 [cS 1 l5, cS 1 l13] [cB b21], .b (!b21) true]) :
 Rt 127 [.agg (wk l0 l1 l2 l3 l4 l5 l6 l7), .agg (wk l8 l9 l10 l11 l12 l13 l14 l15)] [cB false] :=
 h.of (by kernel_rfl)
theorem qsN (h : Oo [.r 46 [cS 5 l0, cS 5 l8] [cB b16], .b (!b16) false, .r 46 [cS 5 l1, cS 5 l9] [cB b17], .b (!b17) false, .r 46 [cS 5 l2, cS 5 l10] [cB b18], .b (!b18) false, .r 44 [cS 4 l3, cS 4 l11] [cB b19], .b (!b19) false, .r 203 [cS 1 l4, cS 1 l12] [cB b20], .b (!b20) false, .r 29 [cS 1 l5, cS 1 l13] [cB b21], .b (!b21) false, .r 29 [cS 1 l6, cS 1 l14] [cB b22], .b (!b22) true]) :
 Rt 127 [.agg (wk l0 l1 l2 l3 l4 l5 l6 l7), .agg (wk l8 l9 l10 l11 l12 l13 l14 l15)] [cB false] :=
 h.of (by kernel_rfl)
theorem qsO (h : Oo [.r 46 [cS 5 l0, cS 5 l8] [cB b16], .b (!b16) false, .r 46 [cS 5 l1, cS 5 l9] [cB b17], .b (!b17) false, .r 46 [cS 5 l2, cS 5 l10] [cB b18], .b (!b18) false, .r 44 [cS 4 l3, cS 4 l11] [cB b19], .b (!b19) false, .r 203 [cS 1 l4, cS 1 l12] [cB b20], .b (!b20) false, .r 29 [cS 1 l5, cS 1 l13] [cB b21], .b (!b21) false, .r 29 [cS 1 l6, cS 1 l14] [cB b22], .b (!b22) false, .r 204 [cS 2 l7, cS 2 l15] [cB b23], .b (!b23) true]) :
 Rt 127 [.agg (wk l0 l1 l2 l3 l4 l5 l6 l7), .agg (wk l8 l9 l10 l11 l12 l13 l14 l15)] [cB false] :=
 h.of (by kernel_rfl)
theorem qsP (h : Oo [.r 46 [cS 5 l0, cS 5 l8] [cB b16], .b (!b16) false, .r 46 [cS 5 l1, cS 5 l9] [cB b17], .b (!b17) false, .r 46 [cS 5 l2, cS 5 l10] [cB b18], .b (!b18) false, .r 44 [cS 4 l3, cS 4 l11] [cB b19], .b (!b19) false, .r 203 [cS 1 l4, cS 1 l12] [cB b20], .b (!b20) false, .r 29 [cS 1 l5, cS 1 l13] [cB b21], .b (!b21) false, .r 29 [cS 1 l6, cS 1 l14] [cB b22], .b (!b22) false, .r 204 [cS 2 l7, cS 2 l15] [cB b23], .b (!b23) false]) :
 Rt 127 [.agg (wk l0 l1 l2 l3 l4 l5 l6 l7), .agg (wk l8 l9 l10 l11 l12 l13 l14 l15)] [cB true] :=
 h.of (by kernel_rfl)
theorem qsQ (h : Oo [.b ((↑l0.length : Int) != (↑l1.length : Int)) true]) :
 Rt 67 [cS 8 l0, cS 8 l1] [cB false] :=
 h.of (by kernel_rfl)
def qcx (l0 l1 : LL) (n2 : Int) : St :=
 { env := envOf 27 [(0, vF 8 l0), (1, vF 8 l1), (5, vI n2)], boxes := [] }
def qlH (b0 : Bool) : St :=
 { env := envOf 27 [(4, .al (.one (.sb b0)))], boxes := [] }
theorem qsR (h : Oo [.b (decide (n2 < (↑l0.length : Int))) true, .p (0 ≤ n2), .p (n2 < (↑l0.length : Int)), .e l0 n2.toNat (wk l3 l4 l5 l6 l7 l8 l9 l10), .p (0 ≤ n2), .p (n2 < (↑l1.length : Int)), .e l1 n2.toNat (wk l11 l12 l13 l14 l15 l16 l17 l18), .r 127 [.agg (wk l3 l4 l5 l6 l7 l8 l9 l10), .agg (wk l11 l12 l13 l14 l15 l16 l17 l18)] [cB b19], .b (!b19) true]) :
 Tp (qaa Tryz.f67 0) (qcx l0 l1 n2) .ret (qlH false) :=
 h.lp [4] [] (by kernel_rfl)
theorem qsS (h : Oo [.b (decide (n2 < (↑l0.length : Int))) true, .p (0 ≤ n2), .p (n2 < (↑l0.length : Int)), .e l0 n2.toNat (wk l3 l4 l5 l6 l7 l8 l9 l10), .p (0 ≤ n2), .p (n2 < (↑l1.length : Int)), .e l1 n2.toNat (wk l11 l12 l13 l14 l15 l16 l17 l18), .r 127 [.agg (wk l3 l4 l5 l6 l7 l8 l9 l10), .agg (wk l11 l12 l13 l14 l15 l16 l17 l18)] [cB b19], .b (!b19) false, .p (inInt .i64 (n2 + 1))]) :
 Tp (qaa Tryz.f67 0) (qcx l0 l1 n2) .normal (qcx l0 l1 (n2 + 1)) :=
 h.lp [5, 0, 1] [] (by kernel_rfl)
def qlI : St :=
 { env := envOf 27 [], boxes := [] }
theorem qsT (h : Oo [.b (decide (n2 < (↑l0.length : Int))) false]) :
 Tp (qaa Tryz.f67 0) (qcx l0 l1 n2) (.exit 0) qlI :=
 h.lp [] [] (by kernel_rfl)
theorem qsU (l0 l1 : LL) (b2 : Bool) (h : Oo [.b ((↑l0.length : Int) != (↑l1.length : Int)) false, .l [] [5, 0, 1] [] (qaa Tryz.f67 0) (qcx l0 l1 0) .ret (qlH b2)]) :
 Rt 67 [cS 8 l0, cS 8 l1] [cB b2] :=
 h.of (by kernel_rfl)
theorem qsV (h : Oo [.b ((↑l0.length : Int) != (↑l1.length : Int)) false, .l [] [5, 0, 1] [] (qaa Tryz.f67 0) (qcx l0 l1 0) (.exit 0) qlI]) :
 Rt 67 [cS 8 l0, cS 8 l1] [cB true] :=
 h.of (by kernel_rfl)
theorem qsW (h : Oo [.r 45 [.agg (gr l0 n1 n2), .agg (gr l7 n8 n9)] [cB b14], .b (!b14) true]) :
 Rt 15 [.agg (cl l0 n1 n2 l3 l4 l5 l6), .agg (cl l7 n8 n9 l10 l11 l12 l13)] [cB false] :=
 h.of (by kernel_rfl)
theorem qsX (h : Oo [.r 45 [.agg (gr l0 n1 n2), .agg (gr l7 n8 n9)] [cB b14], .b (!b14) false, .r 67 [cS 8 l3, cS 8 l10] [cB b15], .b (!b15) true]) :
 Rt 15 [.agg (cl l0 n1 n2 l3 l4 l5 l6), .agg (cl l7 n8 n9 l10 l11 l12 l13)] [cB false] :=
 h.of (by kernel_rfl)
theorem qsY (h : Oo [.r 45 [.agg (gr l0 n1 n2), .agg (gr l7 n8 n9)] [cB b14], .b (!b14) false, .r 67 [cS 8 l3, cS 8 l10] [cB b15], .b (!b15) false, .r 68 [cS 6 l4, cS 6 l11] [cB b16], .b (!b16) true]) :
 Rt 15 [.agg (cl l0 n1 n2 l3 l4 l5 l6), .agg (cl l7 n8 n9 l10 l11 l12 l13)] [cB false] :=
 h.of (by kernel_rfl)
theorem qsZ (h : Oo [.r 45 [.agg (gr l0 n1 n2), .agg (gr l7 n8 n9)] [cB b14], .b (!b14) false, .r 67 [cS 8 l3, cS 8 l10] [cB b15], .b (!b15) false, .r 68 [cS 6 l4, cS 6 l11] [cB b16], .b (!b16) false, .r 69 [cS 5 l5, cS 5 l12] [cB b17], .b (!b17) true]) :
 Rt 15 [.agg (cl l0 n1 n2 l3 l4 l5 l6), .agg (cl l7 n8 n9 l10 l11 l12 l13)] [cB false] :=
 h.of (by kernel_rfl)
theorem qs0 (h : Oo [.r 45 [.agg (gr l0 n1 n2), .agg (gr l7 n8 n9)] [cB b14], .b (!b14) false, .r 67 [cS 8 l3, cS 8 l10] [cB b15], .b (!b15) false, .r 68 [cS 6 l4, cS 6 l11] [cB b16], .b (!b16) false, .r 69 [cS 5 l5, cS 5 l12] [cB b17], .b (!b17) false, .r 70 [cS 3 l6, cS 3 l13] [cB b18], .b (!b18) true]) :
 Rt 15 [.agg (cl l0 n1 n2 l3 l4 l5 l6), .agg (cl l7 n8 n9 l10 l11 l12 l13)] [cB false] :=
 h.of (by kernel_rfl)
theorem qs1 (h : Oo [.r 45 [.agg (gr l0 n1 n2), .agg (gr l7 n8 n9)] [cB b14], .b (!b14) false, .r 67 [cS 8 l3, cS 8 l10] [cB b15], .b (!b15) false, .r 68 [cS 6 l4, cS 6 l11] [cB b16], .b (!b16) false, .r 69 [cS 5 l5, cS 5 l12] [cB b17], .b (!b17) false, .r 70 [cS 3 l6, cS 3 l13] [cB b18], .b (!b18) false]) :
 Rt 15 [.agg (cl l0 n1 n2 l3 l4 l5 l6), .agg (cl l7 n8 n9 l10 l11 l12 l13)] [cB true] :=
 h.of (by kernel_rfl)
end Go.Proofs.YtdanpadojemjeaaGreat
