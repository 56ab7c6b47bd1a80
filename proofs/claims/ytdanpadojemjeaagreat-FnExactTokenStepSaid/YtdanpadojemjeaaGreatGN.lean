import Derived.Test.YtdanpadojemjeaaGreatRows
import Derived.Test.YtdanpadojemjeaaGreatGE
namespace Go.Proofs.YtdanpadojemjeaaGreat
open Go.Sx Go.RowKit
variable {l0 l1 l2 l3 l4 l5 l6 l7 l8 l9 l10 l11 l12 l13 l14 l15 l16 l17 l18 l19 : LL} {n0 n1 n2 n3 n4 n5 n6 n7 n8 n9 n10 n11 n12 n13 n20 n22 : Int} {b1 b2 b3 b9 b10 b11 b13 b21 b23 : Bool}
theorem qs2 (h : Oo [.p ((([] : LL).length + l0.length) * 40 ≤ 140737488355328), .p (([] : LL).length + l0.length ≤ 9223372036854775807), .p (Flat l0)]) :
 Rt 195 [cS 5 l0] [cS 5 ([] ++ l0)] :=
 h.of (by kernel_rfl)
theorem qs3 (h : Oo [.b (decide (n0 ≥ n1)) true]) :
 Rt 81 [cI n0, cI n1, cI n2] [cB (decide (n0 ≤ n2))] :=
 h.of (by kernel_rfl)
theorem qs4 (h : Oo [.b (decide (n0 ≥ n1)) false]) :
 Rt 81 [cI n0, cI n1, cI n2] [cB false] :=
 h.of (by kernel_rfl)
theorem qs5 (h : Oo [.b (decide (n0 ≥ n1)) true]) :
 Rt 137 [cI n0, cI n1, cI n2] [cB (decide (n0 ≤ n2))] :=
 h.of (by kernel_rfl)
theorem qs6 (h : Oo [.b (decide (n0 ≥ n1)) false]) :
 Rt 137 [cI n0, cI n1, cI n2] [cB false] :=
 h.of (by kernel_rfl)
theorem qs7 (h : Oo [.b (decide (n0 < n1)) true]) :
 Rt 250 [cI n0, cI n1] [cI (-1)] :=
 h.of (by kernel_rfl)
theorem qs8 (h : Oo [.b (decide (n0 < n1)) false, .b (decide (n0 > n1)) true]) :
 Rt 250 [cI n0, cI n1] [cI 1] :=
 h.of (by kernel_rfl)
theorem qs9 (h : Oo [.b (decide (n0 < n1)) false, .b (decide (n0 > n1)) false]) :
 Rt 250 [cI n0, cI n1] [cI 0] :=
 h.of (by kernel_rfl)
theorem qta (n0 : Int) (h : Oo []) :
 Rt 264 [cI n0] [cB (n0 != n0)] :=
 h.of (by kernel_rfl)
theorem qtb (h : Oo [.r 264 [cI n0] [cB b2], .r 264 [cI n1] [cB b3], .b b2 false, .b b3 false, .b (decide (n0 < n1)) true]) :
 Rt 261 [cI n0, cI n1] [cI (-1)] :=
 h.of (by kernel_rfl)
theorem qtc (h : Oo [.r 264 [cI n0] [cB b2], .r 264 [cI n1] [cB b3], .b b2 false, .b b3 false, .b (decide (n0 < n1)) false, .b (decide (n0 > n1)) true]) :
 Rt 261 [cI n0, cI n1] [cI 1] :=
 h.of (by kernel_rfl)
theorem qtd (h : Oo [.r 264 [cI n0] [cB b2], .r 264 [cI n1] [cB b3], .b b2 false, .b b3 false, .b (decide (n0 < n1)) false, .b (decide (n0 > n1)) false]) :
 Rt 261 [cI n0, cI n1] [cI 0] :=
 h.of (by kernel_rfl)
def qdP (l0 l1 : LL) (n2 : Int) : St :=
 { env := envOf 36 [(0, vF 1 l0), (1, vF 1 l1), (9, vF 1 l0), (10, vI (↑l0.length : Int)), (11, vI n2)], boxes := [] }
def qiD (n0 : Int) : St :=
 { env := envOf 36 [(4, vI n0)], boxes := [] }
theorem qte (h : Oo [.b (decide (n2 < (↑l0.length : Int))) true, .p (0 ≤ n2), .p (n2 < (↑l0.length : Int)), .e l0 n2.toNat [I n3], .b (decide (n2 ≥ (↑l1.length : Int))) false, .p (0 ≤ n2), .p (n2 < (↑l1.length : Int)), .e l1 n2.toNat [I n4], .r 261 [cI n3, cI n4] [cI n5], .b (n5 != 0) true]) :
 Tp (qaa Tryz.f254 0) (qdP l0 l1 n2) .ret (qiD n5) :=
 h.lp [4] [] (by kernel_rfl)
theorem qtf (h : Oo [.b (decide (n2 < (↑l0.length : Int))) true, .p (0 ≤ n2), .p (n2 < (↑l0.length : Int)), .e l0 n2.toNat [I n3], .b (decide (n2 ≥ (↑l1.length : Int))) false, .p (0 ≤ n2), .p (n2 < (↑l1.length : Int)), .e l1 n2.toNat [I n4], .r 261 [cI n3, cI n4] [cI n5], .b (n5 != 0) false, .p (inInt .i64 (n2 + 1))]) :
 Tp (qaa Tryz.f254 0) (qdP l0 l1 n2) .normal (qdP l0 l1 (n2 + 1)) :=
 h.lp [11, 10, 9, 1, 0] [] (by kernel_rfl)
def qlJ (l0 l1 : LL) : St :=
 { env := envOf 36 [(0, vF 1 l0), (1, vF 1 l1)], boxes := [] }
theorem qtg (h : Oo [.b (decide (n2 < (↑l0.length : Int))) false]) :
 Tp (qaa Tryz.f254 0) (qdP l0 l1 n2) (.exit 0) (qlJ l0 l1) :=
 h.lp [0, 1] [] (by kernel_rfl)
theorem qth (h : Oo [.l [] [11, 10, 9, 1, 0] [] (qaa Tryz.f254 0) (qdP l0 l1 0) .ret (qiD n2)]) :
 Rt 254 [cS 1 l0, cS 1 l1] [cI n2] :=
 h.of (by kernel_rfl)
theorem qti (h : Oo [.l [] [11, 10, 9, 1, 0] [] (qaa Tryz.f254 0) (qdP l0 l1 0) (.exit 0) (qlJ l0 l1), .b (decide ((↑l0.length : Int) < (↑l1.length : Int))) false]) :
 Rt 254 [cS 1 l0, cS 1 l1] [cI 0] :=
 h.of (by kernel_rfl)
theorem qtj (h : Oo [.r 254 [cS 1 l0, cS 1 l1] [cI n2]]) :
 Rt 246 [cS 1 l0, cS 1 l1] [cI n2] :=
 h.of (by kernel_rfl)
def qdQ (l0 : LL) (n1 n2 : Int) (l3 : LL) : St :=
 { env := envOf 30 [(0, vF 5 l0), (1, vI n1), (5, PV.al (AL.one (lO 7 5 l3))), (6, vI n2)], boxes := [] }
theorem qtk (h : Oo [.b (decide (n2 < (↑l0.length : Int))) true, .p (0 ≤ n2), .p (n2 < (↑l0.length : Int)), .e l0 n2.toNat (ri n4 n5 n6 n7 n8), .b (n5 == n1) true, .p (0 ≤ n2), .p (n2 < (↑l0.length : Int)), .e l0 n2.toNat (ri n9 n10 n11 n12 n13), .p ((l3.length + [(ri n9 n10 n11 n12 n13)].length) * 40 ≤ 140737488355328), .p (l3.length + [(ri n9 n10 n11 n12 n13)].length ≤ 9223372036854775807), .p (Flat [(ri n9 n10 n11 n12 n13)]), .p (inInt .i64 (n2 + 1))]) :
 Tp (qaa Tryz.f233 0) (qdQ l0 n1 n2 l3) .normal (qdQ l0 n1 (n2 + 1) (l3 ++ [(ri n9 n10 n11 n12 n13)])) :=
 h.lp [6, 0, 1, 5] [] (by kernel_rfl)
theorem qtl (h : Oo [.b (decide (n2 < (↑l0.length : Int))) true, .p (0 ≤ n2), .p (n2 < (↑l0.length : Int)), .e l0 n2.toNat (ri n4 n5 n6 n7 n8), .b (n5 == n1) false, .p (inInt .i64 (n2 + 1))]) :
 Tp (qaa Tryz.f233 0) (qdQ l0 n1 n2 l3) .normal (qdQ l0 n1 (n2 + 1) l3) :=
 h.lp [6, 0, 1, 5] [] (by kernel_rfl)
def qlK (l0 : LL) : St :=
 { env := envOf 30 [(5, PV.al (AL.one (lO 7 5 l0)))], boxes := [] }
theorem qtm (h : Oo [.b (decide (n2 < (↑l0.length : Int))) false]) :
 Tp (qaa Tryz.f233 0) (qdQ l0 n1 n2 l3) (.exit 0) (qlK l3) :=
 h.lp [5] [] (by kernel_rfl)
theorem qtn (h : Oo [.l [] [6, 0, 1, 5] [] (qaa Tryz.f233 0) (qdQ l0 n1 0 []) (.exit 0) (qlK l2)]) :
 Rt 233 [cS 5 l0, cI n1] [cS 5 l2] :=
 h.of (by kernel_rfl)
def qdR (l0 : LL) (n1 n2 : Int) (l3 : LL) : St :=
 { env := envOf 25 [(1, vI n1), (5, PV.al (AL.one (lO 22 5 l3))), (8, vF 5 l0), (9, vI (↑l0.length : Int)), (10, vI n2)], boxes := [] }
theorem qto (h : Oo [.b (decide (n2 < (↑l0.length : Int))) true, .p (0 ≤ n2), .p (n2 < (↑l0.length : Int)), .e l0 n2.toNat (ri n4 n5 n6 n7 n8), .b (n5 == n1) true, .p ((l3.length + [(ri n4 n5 n6 n7 n8)].length) * 40 ≤ 140737488355328), .p (l3.length + [(ri n4 n5 n6 n7 n8)].length ≤ 9223372036854775807), .p (Flat [(ri n4 n5 n6 n7 n8)]), .p (inInt .i64 (n2 + 1))]) :
 Tp (qaa Tryz.f174 0) (qdR l0 n1 n2 l3) .normal (qdR l0 n1 (n2 + 1) (l3 ++ [(ri n4 n5 n6 n7 n8)])) :=
 h.lp [10, 9, 8, 1, 5] [] (by kernel_rfl)
theorem qtp (h : Oo [.b (decide (n2 < (↑l0.length : Int))) true, .p (0 ≤ n2), .p (n2 < (↑l0.length : Int)), .e l0 n2.toNat (ri n4 n5 n6 n7 n8), .b (n5 == n1) false, .p (inInt .i64 (n2 + 1))]) :
 Tp (qaa Tryz.f174 0) (qdR l0 n1 n2 l3) .normal (qdR l0 n1 (n2 + 1) l3) :=
 h.lp [10, 9, 8, 1, 5] [] (by kernel_rfl)
def qlL (l0 : LL) : St :=
 { env := envOf 25 [(5, PV.al (AL.one (lO 22 5 l0)))], boxes := [] }
theorem qtq (h : Oo [.b (decide (n2 < (↑l0.length : Int))) false]) :
 Tp (qaa Tryz.f174 0) (qdR l0 n1 n2 l3) (.exit 0) (qlL l3) :=
 h.lp [5] [] (by kernel_rfl)
theorem qtr (h : Oo [.l [(5, 22, 5)] [10, 9, 8, 1, 5] [] (qaa Tryz.f174 0) (qdR l0 n1 0 []) (.exit 0) (qlL l2)]) :
 Rt 174 [cS 5 l0, cI n1] [cS 5 l2] :=
 h.of (by kernel_rfl)
def qdS (l0 l1 l2 l3 l4 l5 l6 l7 : LL) (n8 n9 : Int) : St :=
 { env := envOf 21 [(1, vI n8), (2, vP 2), (5, vI n9)], boxes := [(2, [.sl .free 5 l0, .sl .free 5 l1, .sl .free 5 l2, .sl .free 4 l3, .sl .free 1 l4, .sl .free 1 l5, .sl .free 1 l6, .sl .free 2 l7])] }
def qiE (b0 : Bool) : St :=
 { env := envOf 21 [(4, .al (.one (.sb b0)))], boxes := [] }
theorem qts (h : Oo [.b (decide (n9 < (↑l7.length : Int))) true, .p (0 ≤ n9), .p (n9 < (↑l7.length : Int)), .e l7 n9.toNat [I n10, B b11], .b (n10 == n8) true]) :
 Tp (qaa Tryz.f114 0) (qdS l0 l1 l2 l3 l4 l5 l6 l7 n8 n9) .ret (qiE true) :=
 h.lp [4] [] (by kernel_rfl)
theorem qtt (h : Oo [.b (decide (n9 < (↑l7.length : Int))) true, .p (0 ≤ n9), .p (n9 < (↑l7.length : Int)), .e l7 n9.toNat [I n10, B b11], .b (n10 == n8) false, .p (inInt .i64 (n9 + 1))]) :
 Tp (qaa Tryz.f114 0) (qdS l0 l1 l2 l3 l4 l5 l6 l7 n8 n9) .normal (qdS l0 l1 l2 l3 l4 l5 l6 l7 n8 (n9 + 1)) :=
 h.lp [5, 2, 1] [2] (by kernel_rfl)
def qlM : St :=
 { env := envOf 21 [], boxes := [] }
theorem qtu (h : Oo [.b (decide (n9 < (↑l7.length : Int))) false]) :
 Tp (qaa Tryz.f114 0) (qdS l0 l1 l2 l3 l4 l5 l6 l7 n8 n9) (.exit 0) qlM :=
 h.lp [] [] (by kernel_rfl)
theorem qtv (h : Oo [.l [] [5, 2, 1] [2] (qaa Tryz.f114 0) (qdS l0 l1 l2 l3 l4 l5 l6 l7 n8 0) .ret (qiE b9)]) :
 Rt 114 [.agg (wk l0 l1 l2 l3 l4 l5 l6 l7), cI n8] [cB b9] :=
 h.of (by kernel_rfl)
theorem qtw (h : Oo [.l [] [5, 2, 1] [2] (qaa Tryz.f114 0) (qdS l0 l1 l2 l3 l4 l5 l6 l7 n8 0) (.exit 0) qlM]) :
 Rt 114 [.agg (wk l0 l1 l2 l3 l4 l5 l6 l7), cI n8] [cB false] :=
 h.of (by kernel_rfl)
theorem qtx (h : Oo [.r 201 [cS 2 l0, .one (.cl 202 [D.ptr [I n1]])] [cB b2]]) :
 Rt 126 [cS 2 l0, cI n1] [cB b2] :=
 h.of (by kernel_rfl)
theorem qty (h : Oo []) :
 Rt 202 [.agg [I n0, B b1], .one (.ptr [I n2])] [cB (n0 == n2)] :=
 h.of (by kernel_rfl)
theorem qtz (h : Oo [.r 126 [cS 2 l7, cI n8] [cB b9]]) :
 Rt 66 [.agg (wk l0 l1 l2 l3 l4 l5 l6 l7), cI n8] [cB b9] :=
 h.of (by kernel_rfl)
def qdT (l0 : LL) (g1 : Nat) (k2 : List D) (n3 : Int) : St :=
 { env := envOf 19 [(0, vF 5 l0), (1, .al (.one (.fd (D.cl g1 k2)))), (7, vI (↑l0.length : Int)), (8, vI n3)], boxes := [] }
def qiF (n0 : Int) : St :=
 { env := envOf 19 [(4, vI n0)], boxes := [] }
theorem qtA (l0 : LL) (g1 : Nat) (k2 : List D) (n3 n4 n5 n6 n7 n8 : Int) (b9 : Bool) (h : Oo [.b (decide (n3 < (↑l0.length : Int))) true, .p (0 ≤ n3), .p (n3 < (↑l0.length : Int)), .e l0 n3.toNat (ri n4 n5 n6 n7 n8), .p (qbb Tryz.prog g1 = true), .r g1 ([.agg (ri n4 n5 n6 n7 n8)] ++ List.map .one k2) [cB b9], .b b9 true]) :
 Tp (qaa Tryz.f234 0) (qdT l0 g1 k2 n3) .ret (qiF n3) :=
 h.lp [4] [] (by kernel_rfl)
theorem qtB (l0 : LL) (g1 : Nat) (k2 : List D) (n3 n4 n5 n6 n7 n8 : Int) (b9 : Bool) (h : Oo [.b (decide (n3 < (↑l0.length : Int))) true, .p (0 ≤ n3), .p (n3 < (↑l0.length : Int)), .e l0 n3.toNat (ri n4 n5 n6 n7 n8), .p (qbb Tryz.prog g1 = true), .r g1 ([.agg (ri n4 n5 n6 n7 n8)] ++ List.map .one k2) [cB b9], .b b9 false, .p (inInt .i64 (n3 + 1))]) :
 Tp (qaa Tryz.f234 0) (qdT l0 g1 k2 n3) .normal (qdT l0 g1 k2 (n3 + 1)) :=
 h.lp [8, 7, 1, 0] [] (by kernel_rfl)
def qlN : St :=
 { env := envOf 19 [], boxes := [] }
theorem qtC (l0 : LL) (g1 : Nat) (k2 : List D) (n3 : Int) (h : Oo [.b (decide (n3 < (↑l0.length : Int))) false]) :
 Tp (qaa Tryz.f234 0) (qdT l0 g1 k2 n3) (.exit 0) qlN :=
 h.lp [] [] (by kernel_rfl)
theorem qtD (l0 : LL) (g1 : Nat) (k2 : List D) (n3 : Int) (h : Oo [.l [] [8, 7, 1, 0] [] (qaa Tryz.f234 0) (qdT l0 g1 k2 0) .ret (qiF n3)]) :
 Rt 234 [cS 5 l0, .one (.cl g1 k2)] [cI n3] :=
 h.of (by kernel_rfl)
theorem qtE (l0 : LL) (g1 : Nat) (k2 : List D) (h : Oo [.l [] [8, 7, 1, 0] [] (qaa Tryz.f234 0) (qdT l0 g1 k2 0) (.exit 0) qlN]) :
 Rt 234 [cS 5 l0, .one (.cl g1 k2)] [cI (-1)] :=
 h.of (by kernel_rfl)
def qdU (l0 : LL) (g1 : Nat) (k2 : List D) (n3 : Int) : St :=
 { env := envOf 19 [(0, vF 2 l0), (1, .al (.one (.fd (D.cl g1 k2)))), (7, vI (↑l0.length : Int)), (8, vI n3)], boxes := [] }
def qiG (n0 : Int) : St :=
 { env := envOf 19 [(4, vI n0)], boxes := [] }
theorem qtF (l0 : LL) (g1 : Nat) (k2 : List D) (n3 n4 : Int) (b5 b6 : Bool) (h : Oo [.b (decide (n3 < (↑l0.length : Int))) true, .p (0 ≤ n3), .p (n3 < (↑l0.length : Int)), .e l0 n3.toNat [I n4, B b5], .p (qbb Tryz.prog g1 = true), .r g1 ([.agg [I n4, B b5]] ++ List.map .one k2) [cB b6], .b b6 true]) :
 Tp (qaa Tryz.f231 0) (qdU l0 g1 k2 n3) .ret (qiG n3) :=
 h.lp [4] [] (by kernel_rfl)
theorem qtG (l0 : LL) (g1 : Nat) (k2 : List D) (n3 n4 : Int) (b5 b6 : Bool) (h : Oo [.b (decide (n3 < (↑l0.length : Int))) true, .p (0 ≤ n3), .p (n3 < (↑l0.length : Int)), .e l0 n3.toNat [I n4, B b5], .p (qbb Tryz.prog g1 = true), .r g1 ([.agg [I n4, B b5]] ++ List.map .one k2) [cB b6], .b b6 false, .p (inInt .i64 (n3 + 1))]) :
 Tp (qaa Tryz.f231 0) (qdU l0 g1 k2 n3) .normal (qdU l0 g1 k2 (n3 + 1)) :=
 h.lp [8, 7, 1, 0] [] (by kernel_rfl)
def qlO : St :=
 { env := envOf 19 [], boxes := [] }
theorem qtH (l0 : LL) (g1 : Nat) (k2 : List D) (n3 : Int) (h : Oo [.b (decide (n3 < (↑l0.length : Int))) false]) :
 Tp (qaa Tryz.f231 0) (qdU l0 g1 k2 n3) (.exit 0) qlO :=
 h.lp [] [] (by kernel_rfl)
theorem qtI (l0 : LL) (g1 : Nat) (k2 : List D) (n3 : Int) (h : Oo [.l [] [8, 7, 1, 0] [] (qaa Tryz.f231 0) (qdU l0 g1 k2 0) .ret (qiG n3)]) :
 Rt 231 [cS 2 l0, .one (.cl g1 k2)] [cI n3] :=
 h.of (by kernel_rfl)
theorem qtJ (l0 : LL) (g1 : Nat) (k2 : List D) (h : Oo [.l [] [8, 7, 1, 0] [] (qaa Tryz.f231 0) (qdU l0 g1 k2 0) (.exit 0) qlO]) :
 Rt 231 [cS 2 l0, .one (.cl g1 k2)] [cI (-1)] :=
 h.of (by kernel_rfl)
theorem qtK (l0 : LL) (g1 : Nat) (k2 : List D) (n3 : Int) (h : Oo [.r 234 [cS 5 l0, .one (.cl g1 k2)] [cI n3]]) :
 Rt 207 [cS 5 l0, .one (.cl g1 k2)] [cB (decide (n3 ≥ 0))] :=
 h.of (by kernel_rfl)
theorem qtL (l0 : LL) (g1 : Nat) (k2 : List D) (n3 : Int) (h : Oo [.r 231 [cS 2 l0, .one (.cl g1 k2)] [cI n3]]) :
 Rt 201 [cS 2 l0, .one (.cl g1 k2)] [cB (decide (n3 ≥ 0))] :=
 h.of (by kernel_rfl)
end Go.Proofs.YtdanpadojemjeaaGreat
