import Derived.Test.YtdanpadojemjeaaGreatRows
import Derived.Test.YtdanpadojemjeaaGreatGE
namespace Go.Proofs.YtdanpadojemjeaaGreat
open Go.Sx Go.RowKit
variable {l0 l1 l2 l3 l4 l5 l6 l7 l8 l9 l10 l11 l12 l13 l14 l15 l16 l17 l18 l19 : LL} {n0 n1 n2 n3 n4 n5 n6 n7 n8 n9 n10 n11 n12 n13 n20 n22 : Int} {b1 b2 b3 b9 b10 b11 b13 b21 b23 : Bool}
theorem qsC (h : Oo [.p ((([] : LL).length + l0.length) * 40 ≤ 140737488355328), .p (([] : LL).length + l0.length ≤ 9223372036854775807), .p (Flat l0)]) :
 Rt 195 [cS 5 l0] [cS 5 ([] ++ l0)] :=
 h.of (by kernel_rfl)
theorem qsD (h : Oo [.b (decide (n0 ≥ n1)) true]) :
 Rt 81 [cI n0, cI n1, cI n2] [cB (decide (n0 ≤ n2))] :=
 h.of (by kernel_rfl)
theorem qsE (h : Oo [.b (decide (n0 ≥ n1)) false]) :
 Rt 81 [cI n0, cI n1, cI n2] [cB false] :=
 h.of (by kernel_rfl)
theorem qsF (h : Oo [.b (decide (n0 ≥ n1)) true]) :
 Rt 137 [cI n0, cI n1, cI n2] [cB (decide (n0 ≤ n2))] :=
 h.of (by kernel_rfl)
theorem qsG (h : Oo [.b (decide (n0 ≥ n1)) false]) :
 Rt 137 [cI n0, cI n1, cI n2] [cB false] :=
 h.of (by kernel_rfl)
theorem qsH (h : Oo [.b (decide (n0 < n1)) true]) :
 Rt 250 [cI n0, cI n1] [cI (-1)] :=
 h.of (by kernel_rfl)
theorem qsI (h : Oo [.b (decide (n0 < n1)) false, .b (decide (n0 > n1)) true]) :
 Rt 250 [cI n0, cI n1] [cI 1] :=
 h.of (by kernel_rfl)
theorem qsJ (h : Oo [.b (decide (n0 < n1)) false, .b (decide (n0 > n1)) false]) :
 Rt 250 [cI n0, cI n1] [cI 0] :=
 h.of (by kernel_rfl)
theorem qsK (n0 : Int) (h : Oo []) :
 Rt 264 [cI n0] [cB (n0 != n0)] :=
 h.of (by kernel_rfl)
theorem qsL (h : Oo [.r 264 [cI n0] [cB b2], .r 264 [cI n1] [cB b3], .b b2 false, .b b3 false, .b (decide (n0 < n1)) true]) :
 Rt 261 [cI n0, cI n1] [cI (-1)] :=
 h.of (by kernel_rfl)
theorem qsM (h : Oo [.r 264 [cI n0] [cB b2], .r 264 [cI n1] [cB b3], .b b2 false, .b b3 false, .b (decide (n0 < n1)) false, .b (decide (n0 > n1)) true]) :
 Rt 261 [cI n0, cI n1] [cI 1] :=
 h.of (by kernel_rfl)
theorem qsN (h : Oo [.r 264 [cI n0] [cB b2], .r 264 [cI n1] [cB b3], .b b2 false, .b b3 false, .b (decide (n0 < n1)) false, .b (decide (n0 > n1)) false]) :
 Rt 261 [cI n0, cI n1] [cI 0] :=
 h.of (by kernel_rfl)
def qdJ (l0 l1 : LL) (n2 : Int) : St :=
 { env := envOf 36 [(0, vF 1 l0), (1, vF 1 l1), (9, vF 1 l0), (10, vI (↑l0.length : Int)), (11, vI n2)], boxes := [] }
def qip (n0 : Int) : St :=
 { env := envOf 36 [(4, vI n0)], boxes := [] }
theorem qsO (h : Oo [.b (decide (n2 < (↑l0.length : Int))) true, .p (0 ≤ n2), .p (n2 < (↑l0.length : Int)), .e l0 n2.toNat [I n3], .b (decide (n2 ≥ (↑l1.length : Int))) false, .p (0 ≤ n2), .p (n2 < (↑l1.length : Int)), .e l1 n2.toNat [I n4], .r 261 [cI n3, cI n4] [cI n5], .b (n5 != 0) true]) :
 Tp (qaa Tryz.f254 0) (qdJ l0 l1 n2) .ret (qip n5) :=
 h.lp [4] [] (by kernel_rfl)
theorem qsP (h : Oo [.b (decide (n2 < (↑l0.length : Int))) true, .p (0 ≤ n2), .p (n2 < (↑l0.length : Int)), .e l0 n2.toNat [I n3], .b (decide (n2 ≥ (↑l1.length : Int))) false, .p (0 ≤ n2), .p (n2 < (↑l1.length : Int)), .e l1 n2.toNat [I n4], .r 261 [cI n3, cI n4] [cI n5], .b (n5 != 0) false, .p (inInt .i64 (n2 + 1))]) :
 Tp (qaa Tryz.f254 0) (qdJ l0 l1 n2) .normal (qdJ l0 l1 (n2 + 1)) :=
 h.lp [11, 10, 9, 1, 0] [] (by kernel_rfl)
def qlv (l0 l1 : LL) : St :=
 { env := envOf 36 [(0, vF 1 l0), (1, vF 1 l1)], boxes := [] }
theorem qsQ (h : Oo [.b (decide (n2 < (↑l0.length : Int))) false]) :
 Tp (qaa Tryz.f254 0) (qdJ l0 l1 n2) (.exit 0) (qlv l0 l1) :=
 h.lp [0, 1] [] (by kernel_rfl)
theorem qsR (h : Oo [.l [] [11, 10, 9, 1, 0] [] (qaa Tryz.f254 0) (qdJ l0 l1 0) .ret (qip n2)]) :
 Rt 254 [cS 1 l0, cS 1 l1] [cI n2] :=
 h.of (by kernel_rfl)
theorem qsS (h : Oo [.l [] [11, 10, 9, 1, 0] [] (qaa Tryz.f254 0) (qdJ l0 l1 0) (.exit 0) (qlv l0 l1), .b (decide ((↑l0.length : Int) < (↑l1.length : Int))) false]) :
 Rt 254 [cS 1 l0, cS 1 l1] [cI 0] :=
 h.of (by kernel_rfl)
theorem qsT (h : Oo [.r 254 [cS 1 l0, cS 1 l1] [cI n2]]) :
 Rt 246 [cS 1 l0, cS 1 l1] [cI n2] :=
 h.of (by kernel_rfl)
def qdK (l0 l1 l2 l3 l4 l5 l6 l7 : LL) (n8 n9 : Int) : St :=
 { env := envOf 21 [(1, vI n8), (2, vP 2), (5, vI n9)], boxes := [(2, [.sl .free 5 l0, .sl .free 5 l1, .sl .free 5 l2, .sl .free 4 l3, .sl .free 1 l4, .sl .free 1 l5, .sl .free 1 l6, .sl .free 2 l7])] }
def qiq (b0 : Bool) : St :=
 { env := envOf 21 [(4, .al (.one (.sb b0)))], boxes := [] }
theorem qsU (h : Oo [.b (decide (n9 < (↑l7.length : Int))) true, .p (0 ≤ n9), .p (n9 < (↑l7.length : Int)), .e l7 n9.toNat [I n10, B b11], .b (n10 == n8) true]) :
 Tp (qaa Tryz.f114 0) (qdK l0 l1 l2 l3 l4 l5 l6 l7 n8 n9) .ret (qiq true) :=
 h.lp [4] [] (by kernel_rfl)
theorem qsV (h : Oo [.b (decide (n9 < (↑l7.length : Int))) true, .p (0 ≤ n9), .p (n9 < (↑l7.length : Int)), .e l7 n9.toNat [I n10, B b11], .b (n10 == n8) false, .p (inInt .i64 (n9 + 1))]) :
 Tp (qaa Tryz.f114 0) (qdK l0 l1 l2 l3 l4 l5 l6 l7 n8 n9) .normal (qdK l0 l1 l2 l3 l4 l5 l6 l7 n8 (n9 + 1)) :=
 h.lp [5, 2, 1] [2] (by kernel_rfl)
def qlw : St :=
 { env := envOf 21 [], boxes := [] }
theorem qsW (h : Oo [.b (decide (n9 < (↑l7.length : Int))) false]) :
 Tp (qaa Tryz.f114 0) (qdK l0 l1 l2 l3 l4 l5 l6 l7 n8 n9) (.exit 0) qlw :=
 h.lp [] [] (by kernel_rfl)
theorem qsX (h : Oo [.l [] [5, 2, 1] [2] (qaa Tryz.f114 0) (qdK l0 l1 l2 l3 l4 l5 l6 l7 n8 0) .ret (qiq b9)]) :
 Rt 114 [.agg (wk l0 l1 l2 l3 l4 l5 l6 l7), cI n8] [cB b9] :=
 h.of (by kernel_rfl)
theorem qsY (h : Oo [.l [] [5, 2, 1] [2] (qaa Tryz.f114 0) (qdK l0 l1 l2 l3 l4 l5 l6 l7 n8 0) (.exit 0) qlw]) :
 Rt 114 [.agg (wk l0 l1 l2 l3 l4 l5 l6 l7), cI n8] [cB false] :=
 h.of (by kernel_rfl)
theorem qsZ (h : Oo [.r 201 [cS 2 l0, .one (.cl 202 [D.ptr [I n1]])] [cB b2]]) :
 Rt 126 [cS 2 l0, cI n1] [cB b2] :=
 h.of (by kernel_rfl)
theorem qs0 (h : Oo []) :
 Rt 202 [.agg [I n0, B b1], .one (.ptr [I n2])] [cB (n0 == n2)] :=
 h.of (by kernel_rfl)
theorem qs1 (h : Oo [.r 126 [cS 2 l7, cI n8] [cB b9]]) :
 Rt 66 [.agg (wk l0 l1 l2 l3 l4 l5 l6 l7), cI n8] [cB b9] :=
 h.of (by kernel_rfl)
def qdL (l0 : LL) (g1 : Nat) (k2 : List D) (n3 : Int) : St :=
 { env := envOf 19 [(0, vF 2 l0), (1, .al (.one (.fd (D.cl g1 k2)))), (7, vI (↑l0.length : Int)), (8, vI n3)], boxes := [] }
def qir (n0 : Int) : St :=
 { env := envOf 19 [(4, vI n0)], boxes := [] }
theorem qs2 (l0 : LL) (g1 : Nat) (k2 : List D) (n3 n4 : Int) (b5 b6 : Bool) (h : Oo [.b (decide (n3 < (↑l0.length : Int))) true, .p (0 ≤ n3), .p (n3 < (↑l0.length : Int)), .e l0 n3.toNat [I n4, B b5], .p (qba Tryz.prog g1 = true), .r g1 ([.agg [I n4, B b5]] ++ List.map .one k2) [cB b6], .b b6 true]) :
 Tp (qaa Tryz.f231 0) (qdL l0 g1 k2 n3) .ret (qir n3) :=
 h.lp [4] [] (by kernel_rfl)
theorem qs3 (l0 : LL) (g1 : Nat) (k2 : List D) (n3 n4 : Int) (b5 b6 : Bool) (h : Oo [.b (decide (n3 < (↑l0.length : Int))) true, .p (0 ≤ n3), .p (n3 < (↑l0.length : Int)), .e l0 n3.toNat [I n4, B b5], .p (qba Tryz.prog g1 = true), .r g1 ([.agg [I n4, B b5]] ++ List.map .one k2) [cB b6], .b b6 false, .p (inInt .i64 (n3 + 1))]) :
 Tp (qaa Tryz.f231 0) (qdL l0 g1 k2 n3) .normal (qdL l0 g1 k2 (n3 + 1)) :=
 h.lp [8, 7, 1, 0] [] (by kernel_rfl)
def qlx : St :=
 { env := envOf 19 [], boxes := [] }
theorem qs4 (l0 : LL) (g1 : Nat) (k2 : List D) (n3 : Int) (h : Oo [.b (decide (n3 < (↑l0.length : Int))) false]) :
 Tp (qaa Tryz.f231 0) (qdL l0 g1 k2 n3) (.exit 0) qlx :=
 h.lp [] [] (by kernel_rfl)
theorem qs5 (l0 : LL) (g1 : Nat) (k2 : List D) (n3 : Int) (h : Oo [.l [] [8, 7, 1, 0] [] (qaa Tryz.f231 0) (qdL l0 g1 k2 0) .ret (qir n3)]) :
 Rt 231 [cS 2 l0, .one (.cl g1 k2)] [cI n3] :=
 h.of (by kernel_rfl)
theorem qs6 (l0 : LL) (g1 : Nat) (k2 : List D) (h : Oo [.l [] [8, 7, 1, 0] [] (qaa Tryz.f231 0) (qdL l0 g1 k2 0) (.exit 0) qlx]) :
 Rt 231 [cS 2 l0, .one (.cl g1 k2)] [cI (-1)] :=
 h.of (by kernel_rfl)
def qdM (l0 : LL) (g1 : Nat) (k2 : List D) (n3 : Int) : St :=
 { env := envOf 19 [(0, vF 3 l0), (1, .al (.one (.fd (D.cl g1 k2)))), (7, vI (↑l0.length : Int)), (8, vI n3)], boxes := [] }
def qis (n0 : Int) : St :=
 { env := envOf 19 [(4, vI n0)], boxes := [] }
theorem qs7 (l0 : LL) (g1 : Nat) (k2 : List D) (n3 n4 n5 : Int) (b6 b7 : Bool) (h : Oo [.b (decide (n3 < (↑l0.length : Int))) true, .p (0 ≤ n3), .p (n3 < (↑l0.length : Int)), .e l0 n3.toNat [I n4, I n5, B b6], .p (qba Tryz.prog g1 = true), .r g1 ([.agg [I n4, I n5, B b6]] ++ List.map .one k2) [cB b7], .b b7 true]) :
 Tp (qaa Tryz.f62 0) (qdM l0 g1 k2 n3) .ret (qis n3) :=
 h.lp [4] [] (by kernel_rfl)
theorem qs8 (l0 : LL) (g1 : Nat) (k2 : List D) (n3 n4 n5 : Int) (b6 b7 : Bool) (h : Oo [.b (decide (n3 < (↑l0.length : Int))) true, .p (0 ≤ n3), .p (n3 < (↑l0.length : Int)), .e l0 n3.toNat [I n4, I n5, B b6], .p (qba Tryz.prog g1 = true), .r g1 ([.agg [I n4, I n5, B b6]] ++ List.map .one k2) [cB b7], .b b7 false, .p (inInt .i64 (n3 + 1))]) :
 Tp (qaa Tryz.f62 0) (qdM l0 g1 k2 n3) .normal (qdM l0 g1 k2 (n3 + 1)) :=
 h.lp [8, 7, 1, 0] [] (by kernel_rfl)
def qly : St :=
 { env := envOf 19 [], boxes := [] }
theorem qs9 (l0 : LL) (g1 : Nat) (k2 : List D) (n3 : Int) (h : Oo [.b (decide (n3 < (↑l0.length : Int))) false]) :
 Tp (qaa Tryz.f62 0) (qdM l0 g1 k2 n3) (.exit 0) qly :=
 h.lp [] [] (by kernel_rfl)
theorem qta (l0 : LL) (g1 : Nat) (k2 : List D) (n3 : Int) (h : Oo [.l [] [8, 7, 1, 0] [] (qaa Tryz.f62 0) (qdM l0 g1 k2 0) .ret (qis n3)]) :
 Rt 62 [cS 3 l0, .one (.cl g1 k2)] [cI n3] :=
 h.of (by kernel_rfl)
theorem qtb (l0 : LL) (g1 : Nat) (k2 : List D) (h : Oo [.l [] [8, 7, 1, 0] [] (qaa Tryz.f62 0) (qdM l0 g1 k2 0) (.exit 0) qly]) :
 Rt 62 [cS 3 l0, .one (.cl g1 k2)] [cI (-1)] :=
 h.of (by kernel_rfl)
theorem qtc (l0 : LL) (g1 : Nat) (k2 : List D) (n3 : Int) (h : Oo [.r 231 [cS 2 l0, .one (.cl g1 k2)] [cI n3]]) :
 Rt 201 [cS 2 l0, .one (.cl g1 k2)] [cB (decide (n3 ≥ 0))] :=
 h.of (by kernel_rfl)
end Go.Proofs.YtdanpadojemjeaaGreat
