import Derived.Test.YtdanpadojemjeaaGreatRows
import Derived.Test.YtdanpadojemjeaaGreatGE
namespace Go.Proofs.YtdanpadojemjeaaGreat
open Go.Sx Go.RowKit
variable {n0 n1 n2 n3 n4 n5 n6 n8 n9 : Int} {l0 l1 l2 l3 l4 l5 l6 l7 l8 l9 l10 l11 l12 l13 l14 l15 : LL} {b0 b1 b2 b3 b4 : Bool}
theorem qqu (h : Oo []) :
 Rt 172 [.agg [I n0, I n1]] [.agg [I n0, I n1]] :=
 h.of (by kernel_rfl)
theorem qqv (h : Oo [.r 172 [.agg [I n1, I n2]] [.agg [I n5, I n6]]]) :
 Rt 102 [.agg (ri n0 n1 n2 n3 n4)] [.agg (ri n0 n5 n6 n3 n4)] :=
 h.of (by kernel_rfl)
def qdF (l0 : LL) (n1 : Int) (l2 : LL) : St :=
 { env := envOf 23 [(0, vF 5 l0), (3, PV.al (AL.one (lO 7 5 l2))), (4, vI n1)], boxes := [] }
theorem qqw (l0 : LL) (n1 : Int) (l2 : LL) (n3 n4 n5 n6 n7 n8 n9 n10 n11 n12 : Int) (d13 d14 d15 d16 d17 : D) (h : Oo [.b (decide (n1 < (↑l0.length : Int))) true, .p (0 ≤ n1), .p (n1 < (↑l0.length : Int)), .e l0 n1.toNat (ri n3 n4 n5 n6 n7), .r 102 [.agg (ri n3 n4 n5 n6 n7)] [.agg (ri n8 n9 n10 n11 n12)], .p (0 ≤ n1), .p (n1 < (↑l2.length : Int)), .e l2 n1.toNat [d13, d14, d15, d16, d17], .p (inInt .i64 (n1 + 1))]) :
 Tp (qaa Tryz.f42 0) (qdF l0 n1 l2) .normal (qdF l0 (n1 + 1) (l2.set n1.toNat (ri n8 n9 n10 n11 n12))) :=
 h.lp [4, 0, 3] [] (by kernel_rfl)
def qit (l0 : LL) : St :=
 { env := envOf 23 [(3, PV.al (AL.one (lO 7 5 l0)))], boxes := [] }
theorem qqx (l0 : LL) (n1 : Int) (l2 : LL) (h : Oo [.b (decide (n1 < (↑l0.length : Int))) false]) :
 Tp (qaa Tryz.f42 0) (qdF l0 n1 l2) (.exit 0) (qit l2) :=
 h.lp [3] [] (by kernel_rfl)
theorem qqy (h : Oo [.p (0 ≤ (↑l0.length : Int)), .p ((↑l0.length : Int) ≤ (↑l0.length : Int)), .p ((↑40 : Int) * (↑l0.length : Int) ≤ 281474976710656), .p ((↑l0.length : Int) ≤ 9223372036854775807), .l [] [4, 0, 3] [] (qaa Tryz.f42 0) (qdF l0 0 (List.replicate l0.length (ri 0 0 0 0 0))) (.exit 0) (qit l1)]) :
 Rt 42 [cS 5 l0] [cS 5 l1] :=
 h.of (by kernel_rfl)
theorem qqz (h : Oo []) :
 Rt 228 [.agg [I n0, I n1, I n2, I n3]] [.agg [I n0, I n1, I n2, I n3]] :=
 h.of (by kernel_rfl)
def qdG (l0 : LL) (n1 : Int) (l2 : LL) : St :=
 { env := envOf 23 [(0, vF 4 l0), (3, PV.al (AL.one (lO 7 4 l2))), (4, vI n1)], boxes := [] }
theorem qqA (l0 : LL) (n1 : Int) (l2 : LL) (n3 n4 n5 n6 n7 n8 n9 n10 : Int) (d11 d12 d13 d14 : D) (h : Oo [.b (decide (n1 < (↑l0.length : Int))) true, .p (0 ≤ n1), .p (n1 < (↑l0.length : Int)), .e l0 n1.toNat [I n3, I n4, I n5, I n6], .r 228 [.agg [I n3, I n4, I n5, I n6]] [.agg [I n7, I n8, I n9, I n10]], .p (0 ≤ n1), .p (n1 < (↑l2.length : Int)), .e l2 n1.toNat [d11, d12, d13, d14], .p (inInt .i64 (n1 + 1))]) :
 Tp (qaa Tryz.f190 0) (qdG l0 n1 l2) .normal (qdG l0 (n1 + 1) (l2.set n1.toNat [I n7, I n8, I n9, I n10])) :=
 h.lp [4, 0, 3] [] (by kernel_rfl)
def qiu (l0 : LL) : St :=
 { env := envOf 23 [(3, PV.al (AL.one (lO 7 4 l0)))], boxes := [] }
theorem qqB (l0 : LL) (n1 : Int) (l2 : LL) (h : Oo [.b (decide (n1 < (↑l0.length : Int))) false]) :
 Tp (qaa Tryz.f190 0) (qdG l0 n1 l2) (.exit 0) (qiu l2) :=
 h.lp [3] [] (by kernel_rfl)
theorem qqC (h : Oo [.p (0 ≤ (↑l0.length : Int)), .p ((↑l0.length : Int) ≤ (↑l0.length : Int)), .p ((↑32 : Int) * (↑l0.length : Int) ≤ 281474976710656), .p ((↑l0.length : Int) ≤ 9223372036854775807), .l [] [4, 0, 3] [] (qaa Tryz.f190 0) (qdG l0 0 (List.replicate l0.length [I 0, I 0, I 0, I 0])) (.exit 0) (qiu l1)]) :
 Rt 190 [cS 4 l0] [cS 4 l1] :=
 h.of (by kernel_rfl)
def qdH (l0 : LL) (n1 : Int) (l2 : LL) : St :=
 { env := envOf 22 [(0, vF 1 l0), (3, PV.al (AL.one (lO 7 1 l2))), (4, vI n1)], boxes := [] }
theorem qqD (l0 : LL) (n1 : Int) (l2 : LL) (n3 : Int) (d4 : D) (h : Oo [.b (decide (n1 < (↑l0.length : Int))) true, .p (0 ≤ n1), .p (n1 < (↑l0.length : Int)), .e l0 n1.toNat [I n3], .p (0 ≤ n1), .p (n1 < (↑l2.length : Int)), .e l2 n1.toNat [d4], .p (inInt .i64 (n1 + 1))]) :
 Tp (qaa Tryz.f191 0) (qdH l0 n1 l2) .normal (qdH l0 (n1 + 1) (l2.set n1.toNat [I n3])) :=
 h.lp [4, 0, 3] [] (by kernel_rfl)
def qiv (l0 : LL) : St :=
 { env := envOf 22 [(3, PV.al (AL.one (lO 7 1 l0)))], boxes := [] }
theorem qqE (l0 : LL) (n1 : Int) (l2 : LL) (h : Oo [.b (decide (n1 < (↑l0.length : Int))) false]) :
 Tp (qaa Tryz.f191 0) (qdH l0 n1 l2) (.exit 0) (qiv l2) :=
 h.lp [3] [] (by kernel_rfl)
theorem qqF (h : Oo [.p (0 ≤ (↑l0.length : Int)), .p ((↑l0.length : Int) ≤ (↑l0.length : Int)), .p ((↑8 : Int) * (↑l0.length : Int) ≤ 281474976710656), .p ((↑l0.length : Int) ≤ 9223372036854775807), .l [] [4, 0, 3] [] (qaa Tryz.f191 0) (qdH l0 0 (List.replicate l0.length [I 0])) (.exit 0) (qiv l1)]) :
 Rt 191 [cS 1 l0] [cS 1 l1] :=
 h.of (by kernel_rfl)
def qdI (l0 : LL) (n1 : Int) (l2 : LL) : St :=
 { env := envOf 22 [(0, vF 1 l0), (3, PV.al (AL.one (lO 7 1 l2))), (4, vI n1)], boxes := [] }
theorem qqG (l0 : LL) (n1 : Int) (l2 : LL) (b3 : Bool) (d4 : D) (h : Oo [.b (decide (n1 < (↑l0.length : Int))) true, .p (0 ≤ n1), .p (n1 < (↑l0.length : Int)), .e l0 n1.toNat [B b3], .p (0 ≤ n1), .p (n1 < (↑l2.length : Int)), .e l2 n1.toNat [d4], .p (inInt .i64 (n1 + 1))]) :
 Tp (qaa Tryz.f192 0) (qdI l0 n1 l2) .normal (qdI l0 (n1 + 1) (l2.set n1.toNat [B b3])) :=
 h.lp [4, 0, 3] [] (by kernel_rfl)
def qiw (l0 : LL) : St :=
 { env := envOf 22 [(3, PV.al (AL.one (lO 7 1 l0)))], boxes := [] }
theorem qqH (l0 : LL) (n1 : Int) (l2 : LL) (h : Oo [.b (decide (n1 < (↑l0.length : Int))) false]) :
 Tp (qaa Tryz.f192 0) (qdI l0 n1 l2) (.exit 0) (qiw l2) :=
 h.lp [3] [] (by kernel_rfl)
theorem qqI (h : Oo [.p (0 ≤ (↑l0.length : Int)), .p ((↑l0.length : Int) ≤ (↑l0.length : Int)), .p ((↑1 : Int) * (↑l0.length : Int) ≤ 281474976710656), .p ((↑l0.length : Int) ≤ 9223372036854775807), .l [] [4, 0, 3] [] (qaa Tryz.f192 0) (qdI l0 0 (List.replicate l0.length [B false])) (.exit 0) (qiw l1)]) :
 Rt 192 [cS 1 l0] [cS 1 l1] :=
 h.of (by kernel_rfl)
theorem qqJ (h : Oo []) :
 Rt 229 [.agg [I n0, B b1]] [.agg [I n0, B b1]] :=
 h.of (by kernel_rfl)
def qdJ (l0 : LL) (n1 : Int) (l2 : LL) : St :=
 { env := envOf 23 [(0, vF 2 l0), (3, PV.al (AL.one (lO 7 2 l2))), (4, vI n1)], boxes := [] }
theorem qqK (l0 : LL) (n1 : Int) (l2 : LL) (n3 : Int) (b4 : Bool) (n5 : Int) (b6 : Bool) (d7 d8 : D) (h : Oo [.b (decide (n1 < (↑l0.length : Int))) true, .p (0 ≤ n1), .p (n1 < (↑l0.length : Int)), .e l0 n1.toNat [I n3, B b4], .r 229 [.agg [I n3, B b4]] [.agg [I n5, B b6]], .p (0 ≤ n1), .p (n1 < (↑l2.length : Int)), .e l2 n1.toNat [d7, d8], .p (inInt .i64 (n1 + 1))]) :
 Tp (qaa Tryz.f193 0) (qdJ l0 n1 l2) .normal (qdJ l0 (n1 + 1) (l2.set n1.toNat [I n5, B b6])) :=
 h.lp [4, 0, 3] [] (by kernel_rfl)
def qix (l0 : LL) : St :=
 { env := envOf 23 [(3, PV.al (AL.one (lO 7 2 l0)))], boxes := [] }
theorem qqL (l0 : LL) (n1 : Int) (l2 : LL) (h : Oo [.b (decide (n1 < (↑l0.length : Int))) false]) :
 Tp (qaa Tryz.f193 0) (qdJ l0 n1 l2) (.exit 0) (qix l2) :=
 h.lp [3] [] (by kernel_rfl)
theorem qqM (h : Oo [.p (0 ≤ (↑l0.length : Int)), .p ((↑l0.length : Int) ≤ (↑l0.length : Int)), .p ((↑16 : Int) * (↑l0.length : Int) ≤ 281474976710656), .p ((↑l0.length : Int) ≤ 9223372036854775807), .l [] [4, 0, 3] [] (qaa Tryz.f193 0) (qdJ l0 0 (List.replicate l0.length [I 0, B false])) (.exit 0) (qix l1)]) :
 Rt 193 [cS 2 l0] [cS 2 l1] :=
 h.of (by kernel_rfl)
theorem qqN (h : Oo []) :
 Rt 117 [.agg [B b0, I n1, I n2, B b3, B b4]] [.agg [B b0, I n1, I n2, B b3, B b4]] :=
 h.of (by kernel_rfl)
def qdK (l0 : LL) (n1 : Int) (l2 : LL) : St :=
 { env := envOf 23 [(0, vF 5 l0), (3, PV.al (AL.one (lO 7 5 l2))), (4, vI n1)], boxes := [] }
theorem qqO (l0 : LL) (n1 : Int) (l2 : LL) (b3 : Bool) (n4 n5 : Int) (b6 b7 b8 : Bool) (n9 n10 : Int) (b11 b12 : Bool) (d13 d14 d15 d16 d17 : D) (h : Oo [.b (decide (n1 < (↑l0.length : Int))) true, .p (0 ≤ n1), .p (n1 < (↑l0.length : Int)), .e l0 n1.toNat [B b3, I n4, I n5, B b6, B b7], .r 117 [.agg [B b3, I n4, I n5, B b6, B b7]] [.agg [B b8, I n9, I n10, B b11, B b12]], .p (0 ≤ n1), .p (n1 < (↑l2.length : Int)), .e l2 n1.toNat [d13, d14, d15, d16, d17], .p (inInt .i64 (n1 + 1))]) :
 Tp (qaa Tryz.f59 0) (qdK l0 n1 l2) .normal (qdK l0 (n1 + 1) (l2.set n1.toNat [B b8, I n9, I n10, B b11, B b12])) :=
 h.lp [4, 0, 3] [] (by kernel_rfl)
def qiy (l0 : LL) : St :=
 { env := envOf 23 [(3, PV.al (AL.one (lO 7 5 l0)))], boxes := [] }
theorem qqP (l0 : LL) (n1 : Int) (l2 : LL) (h : Oo [.b (decide (n1 < (↑l0.length : Int))) false]) :
 Tp (qaa Tryz.f59 0) (qdK l0 n1 l2) (.exit 0) (qiy l2) :=
 h.lp [3] [] (by kernel_rfl)
theorem qqQ (h : Oo [.p (0 ≤ (↑l0.length : Int)), .p ((↑l0.length : Int) ≤ (↑l0.length : Int)), .p ((↑32 : Int) * (↑l0.length : Int) ≤ 281474976710656), .p ((↑l0.length : Int) ≤ 9223372036854775807), .l [] [4, 0, 3] [] (qaa Tryz.f59 0) (qdK l0 0 (List.replicate l0.length [B false, I 0, I 0, B false, B false])) (.exit 0) (qiy l1)]) :
 Rt 59 [cS 5 l0] [cS 5 l1] :=
 h.of (by kernel_rfl)
theorem qqR (h : Oo []) :
 Rt 118 [.agg [I n0, I n1, B b2]] [.agg [I n0, I n1, B b2]] :=
 h.of (by kernel_rfl)
def qdL (l0 : LL) (n1 : Int) (l2 : LL) : St :=
 { env := envOf 23 [(0, vF 3 l0), (3, PV.al (AL.one (lO 7 3 l2))), (4, vI n1)], boxes := [] }
theorem qqS (l0 : LL) (n1 : Int) (l2 : LL) (n3 n4 : Int) (b5 : Bool) (n6 n7 : Int) (b8 : Bool) (d9 d10 d11 : D) (h : Oo [.b (decide (n1 < (↑l0.length : Int))) true, .p (0 ≤ n1), .p (n1 < (↑l0.length : Int)), .e l0 n1.toNat [I n3, I n4, B b5], .r 118 [.agg [I n3, I n4, B b5]] [.agg [I n6, I n7, B b8]], .p (0 ≤ n1), .p (n1 < (↑l2.length : Int)), .e l2 n1.toNat [d9, d10, d11], .p (inInt .i64 (n1 + 1))]) :
 Tp (qaa Tryz.f60 0) (qdL l0 n1 l2) .normal (qdL l0 (n1 + 1) (l2.set n1.toNat [I n6, I n7, B b8])) :=
 h.lp [4, 0, 3] [] (by kernel_rfl)
def qiz (l0 : LL) : St :=
 { env := envOf 23 [(3, PV.al (AL.one (lO 7 3 l0)))], boxes := [] }
theorem qqT (l0 : LL) (n1 : Int) (l2 : LL) (h : Oo [.b (decide (n1 < (↑l0.length : Int))) false]) :
 Tp (qaa Tryz.f60 0) (qdL l0 n1 l2) (.exit 0) (qiz l2) :=
 h.lp [3] [] (by kernel_rfl)
theorem qqU (h : Oo [.p (0 ≤ (↑l0.length : Int)), .p ((↑l0.length : Int) ≤ (↑l0.length : Int)), .p ((↑24 : Int) * (↑l0.length : Int) ≤ 281474976710656), .p ((↑l0.length : Int) ≤ 9223372036854775807), .l [] [4, 0, 3] [] (qaa Tryz.f60 0) (qdL l0 0 (List.replicate l0.length [I 0, I 0, B false])) (.exit 0) (qiz l1)]) :
 Rt 60 [cS 3 l0] [cS 3 l1] :=
 h.of (by kernel_rfl)
theorem qqV (h : Oo [.r 191 [cS 1 l3] [cS 1 l4]]) :
 Rt 171 [.agg (nd n0 n1 n2 l3)] [.agg (nd n0 n1 n2 l4)] :=
 h.of (by kernel_rfl)
def qdM (l0 : LL) (n1 : Int) (l2 : LL) : St :=
 { env := envOf 23 [(0, vF 4 l0), (3, PV.al (AL.one (lO 7 4 l2))), (4, vI n1)], boxes := [] }
theorem qqW (l0 : LL) (n1 : Int) (l2 : LL) (n3 n4 n5 : Int) (l6 : LL) (n7 n8 n9 : Int) (l10 : LL) (d11 d12 d13 d14 : D) (h : Oo [.b (decide (n1 < (↑l0.length : Int))) true, .p (0 ≤ n1), .p (n1 < (↑l0.length : Int)), .e l0 n1.toNat (nd n3 n4 n5 l6), .r 171 [.agg (nd n3 n4 n5 l6)] [.agg (nd n7 n8 n9 l10)], .p (0 ≤ n1), .p (n1 < (↑l2.length : Int)), .e l2 n1.toNat [d11, d12, d13, d14], .p (inInt .i64 (n1 + 1))]) :
 Tp (qaa Tryz.f101 0) (qdM l0 n1 l2) .normal (qdM l0 (n1 + 1) (l2.set n1.toNat (nd n7 n8 n9 l10))) :=
 h.lp [4, 0, 3] [] (by kernel_rfl)
def qiA (l0 : LL) : St :=
 { env := envOf 23 [(3, PV.al (AL.one (lO 7 4 l0)))], boxes := [] }
theorem qqX (l0 : LL) (n1 : Int) (l2 : LL) (h : Oo [.b (decide (n1 < (↑l0.length : Int))) false]) :
 Tp (qaa Tryz.f101 0) (qdM l0 n1 l2) (.exit 0) (qiA l2) :=
 h.lp [3] [] (by kernel_rfl)
theorem qqY (h : Oo [.p (0 ≤ (↑l0.length : Int)), .p ((↑l0.length : Int) ≤ (↑l0.length : Int)), .p ((↑48 : Int) * (↑l0.length : Int) ≤ 281474976710656), .p ((↑l0.length : Int) ≤ 9223372036854775807), .l [] [4, 0, 3] [] (qaa Tryz.f101 0) (qdM l0 0 (List.replicate l0.length [I 0, I 0, I 0, D.v (Value.slice none 0 0)])) (.exit 0) (qiA l1)]) :
 Rt 101 [cS 4 l0] [cS 4 l1] :=
 h.of (by kernel_rfl)
theorem qqZ (h : Oo [.r 42 [cS 5 l1] [cS 5 l6]]) :
 Rt 116 [.agg (lk n0 l1 n2 n3 n4 n5)] [.agg (lk n0 l6 n2 n3 n4 n5)] :=
 h.of (by kernel_rfl)
def qdN (l0 : LL) (n1 : Int) (l2 : LL) : St :=
 { env := envOf 23 [(0, vF 6 l0), (3, PV.al (AL.one (lO 7 6 l2))), (4, vI n1)], boxes := [] }
theorem qq0 (l0 : LL) (n1 : Int) (l2 : LL) (n3 : Int) (l4 : LL) (n5 n6 n7 n8 n9 : Int) (l10 : LL) (n11 n12 n13 n14 : Int) (d15 d16 d17 d18 d19 d20 : D) (h : Oo [.b (decide (n1 < (↑l0.length : Int))) true, .p (0 ≤ n1), .p (n1 < (↑l0.length : Int)), .e l0 n1.toNat (lk n3 l4 n5 n6 n7 n8), .r 116 [.agg (lk n3 l4 n5 n6 n7 n8)] [.agg (lk n9 l10 n11 n12 n13 n14)], .p (0 ≤ n1), .p (n1 < (↑l2.length : Int)), .e l2 n1.toNat [d15, d16, d17, d18, d19, d20], .p (inInt .i64 (n1 + 1))]) :
 Tp (qaa Tryz.f58 0) (qdN l0 n1 l2) .normal (qdN l0 (n1 + 1) (l2.set n1.toNat (lk n9 l10 n11 n12 n13 n14))) :=
 h.lp [4, 0, 3] [] (by kernel_rfl)
def qiB (l0 : LL) : St :=
 { env := envOf 23 [(3, PV.al (AL.one (lO 7 6 l0)))], boxes := [] }
theorem qq1 (l0 : LL) (n1 : Int) (l2 : LL) (h : Oo [.b (decide (n1 < (↑l0.length : Int))) false]) :
 Tp (qaa Tryz.f58 0) (qdN l0 n1 l2) (.exit 0) (qiB l2) :=
 h.lp [3] [] (by kernel_rfl)
theorem qq2 (h : Oo [.p (0 ≤ (↑l0.length : Int)), .p ((↑l0.length : Int) ≤ (↑l0.length : Int)), .p ((↑64 : Int) * (↑l0.length : Int) ≤ 281474976710656), .p ((↑l0.length : Int) ≤ 9223372036854775807), .l [] [4, 0, 3] [] (qaa Tryz.f58 0) (qdN l0 0 (List.replicate l0.length [I 0, D.v (Value.slice none 0 0), I 0, I 0, I 0, I 0])) (.exit 0) (qiB l1)]) :
 Rt 58 [cS 6 l0] [cS 6 l1] :=
 h.of (by kernel_rfl)
theorem qq3 (h : Oo [.r 101 [cS 4 l0] [cS 4 l3]]) :
 Rt 41 [.agg (gr l0 n1 n2)] [.agg (gr l3 n1 n2)] :=
 h.of (by kernel_rfl)
theorem qq4 (h : Oo [.r 42 [cS 5 l0] [cS 5 l8], .r 42 [cS 5 l1] [cS 5 l9], .r 42 [cS 5 l2] [cS 5 l10], .r 190 [cS 4 l3] [cS 4 l11], .r 191 [cS 1 l4] [cS 1 l12], .r 192 [cS 1 l5] [cS 1 l13], .r 192 [cS 1 l6] [cS 1 l14], .r 193 [cS 2 l7] [cS 2 l15]]) :
 Rt 115 [.agg (wk l0 l1 l2 l3 l4 l5 l6 l7)] [.agg (wk l8 l9 l10 l11 l12 l13 l14 l15)] :=
 h.of (by kernel_rfl)
def qdO (l0 : LL) (n1 : Int) (l2 : LL) : St :=
 { env := envOf 23 [(0, vF 8 l0), (3, PV.al (AL.one (lO 7 8 l2))), (4, vI n1)], boxes := [] }
theorem qq5 (l0 : LL) (n1 : Int) (l2 l3 l4 l5 l6 l7 l8 l9 l10 l11 l12 l13 l14 l15 l16 l17 l18 : LL) (d19 d20 d21 d22 d23 d24 d25 d26 : D) (h : Oo [.b (decide (n1 < (↑l0.length : Int))) true, .p (0 ≤ n1), .p (n1 < (↑l0.length : Int)), .e l0 n1.toNat (wk l3 l4 l5 l6 l7 l8 l9 l10), .r 115 [.agg (wk l3 l4 l5 l6 l7 l8 l9 l10)] [.agg (wk l11 l12 l13 l14 l15 l16 l17 l18)], .p (0 ≤ n1), .p (n1 < (↑l2.length : Int)), .e l2 n1.toNat [d19, d20, d21, d22, d23, d24, d25, d26], .p (inInt .i64 (n1 + 1))]) :
 Tp (qaa Tryz.f57 0) (qdO l0 n1 l2) .normal (qdO l0 (n1 + 1) (l2.set n1.toNat (wk l11 l12 l13 l14 l15 l16 l17 l18))) :=
 h.lp [4, 0, 3] [] (by kernel_rfl)
def qiC (l0 : LL) : St :=
 { env := envOf 23 [(3, PV.al (AL.one (lO 7 8 l0)))], boxes := [] }
theorem qq6 (l0 : LL) (n1 : Int) (l2 : LL) (h : Oo [.b (decide (n1 < (↑l0.length : Int))) false]) :
 Tp (qaa Tryz.f57 0) (qdO l0 n1 l2) (.exit 0) (qiC l2) :=
 h.lp [3] [] (by kernel_rfl)
theorem qq7 (h : Oo [.p (0 ≤ (↑l0.length : Int)), .p ((↑l0.length : Int) ≤ (↑l0.length : Int)), .p ((↑192 : Int) * (↑l0.length : Int) ≤ 281474976710656), .p ((↑l0.length : Int) ≤ 9223372036854775807), .l [] [4, 0, 3] [] (qaa Tryz.f57 0) (qdO l0 0 (List.replicate l0.length [D.v (Value.slice none 0 0), D.v (Value.slice none 0 0), D.v (Value.slice none 0 0), D.v (Value.slice none 0 0), D.v (Value.slice none 0 0), D.v (Value.slice none 0 0), D.v (Value.slice none 0 0), D.v (Value.slice none 0 0)])) (.exit 0) (qiC l1)]) :
 Rt 57 [cS 8 l0] [cS 8 l1] :=
 h.of (by kernel_rfl)
theorem qq8 (h : Oo [.r 41 [.agg (gr l0 n1 n2)] [.agg (gr l7 n8 n9)], .r 57 [cS 8 l3] [cS 8 l10], .r 58 [cS 6 l4] [cS 6 l11], .r 59 [cS 5 l5] [cS 5 l12], .r 60 [cS 3 l6] [cS 3 l13]]) :
 Rt 13 [.agg (cl l0 n1 n2 l3 l4 l5 l6)] [.agg (cl l7 n8 n9 l10 l11 l12 l13)] :=
 h.of (by kernel_rfl)
end Go.Proofs.YtdanpadojemjeaaGreat
