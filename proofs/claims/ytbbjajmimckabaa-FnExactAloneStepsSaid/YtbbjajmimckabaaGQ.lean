import Derived.Test.YtbbjajmimckabaaRows
import Derived.Test.YtbbjajmimckabaaR23
set_option linter.unusedVariables false
set_option linter.unusedSimpArgs false
namespace Go.Proofs.Ytbbjajmimckabaa
open Go.Sx Go.RowKit

/- loop.example/g00973/spec.GraphOk -/

theorem spec_GraphOk_p0 (l0 : List (List D)) (n1 : Int) (n2 : Int) (b3 : Bool)
    (h : Obs [Ret Try.prog 57 [AD.one (I (↑l0.length : Int)), AD.one (I 1), AD.one (I 8)] [AD.one (B b3)], (!b3) = true]) :
    Ret Try.prog 109 [AD.agg [D.sl 4 l0, I n1, I n2]] [AD.one (B false)] :=
  .of [Ans.res [AD.one (B b3)], Ans.br true] _ Try.func109 rfl (by kernel_rfl) h

theorem spec_GraphOk_p1 (l0 : List (List D)) (n1 : Int) (n2 : Int) (b3 : Bool) (b4 : Bool)
    (h : Obs [Ret Try.prog 57 [AD.one (I (↑l0.length : Int)), AD.one (I 1), AD.one (I 8)] [AD.one (B b3)], (!b3) = false, Ret Try.prog 57 [AD.one (I n1), AD.one (I 1), AD.one (I 4)] [AD.one (B b4)], (!b4) = true]) :
    Ret Try.prog 109 [AD.agg [D.sl 4 l0, I n1, I n2]] [AD.one (B false)] :=
  .of [Ans.res [AD.one (B b3)], Ans.br false, Ans.res [AD.one (B b4)], Ans.br true] _ Try.func109 rfl (by kernel_rfl) h

theorem spec_GraphOk_p2 (l0 : List (List D)) (n1 : Int) (n2 : Int) (b3 : Bool) (b4 : Bool) (b5 : Bool)
    (h : Obs [Ret Try.prog 57 [AD.one (I (↑l0.length : Int)), AD.one (I 1), AD.one (I 8)] [AD.one (B b3)], (!b3) = false, Ret Try.prog 57 [AD.one (I n1), AD.one (I 1), AD.one (I 4)] [AD.one (B b4)], (!b4) = false, Ret Try.prog 57 [AD.one (I n2), AD.one (I 1), AD.one (I 4)] [AD.one (B b5)], (!b5) = true]) :
    Ret Try.prog 109 [AD.agg [D.sl 4 l0, I n1, I n2]] [AD.one (B false)] :=
  .of [Ans.res [AD.one (B b3)], Ans.br false, Ans.res [AD.one (B b4)], Ans.br false, Ans.res [AD.one (B b5)], Ans.br true] _ Try.func109 rfl (by kernel_rfl) h

def spec_GraphOk_L0 (n0 : Int) (l1 : List (List D)) (n2 : Int) (n3 : Int) : St :=
  { env := envOf 97 [(1, PV.al (AL.one (Leaf.ptr 1 0))), (3, PV.al (AL.one (Leaf.v (Value.int IntKind.i64 n0))))], boxes := [(1, [Leaf.sl Tag.free 4 l1, Leaf.v (Value.int IntKind.i64 n2), Leaf.v (Value.int IntKind.i64 n3)])] }

def spec_GraphOk_X0 (b0 : Bool) : St :=
  { env := envOf 97 [(2, PV.al (AL.one (Leaf.sb b0)))], boxes := [] }

theorem spec_GraphOk_L0_x0 (n6 : Int) (l7 : List (List D)) (n8 : Int) (n9 : Int) (n10 : Int) (n11 : Int) (n12 : Int) (l13 : List (List D)) (b14 : Bool)
    (h : Obs [decide (n6 < (↑l7.length : Int)) = true, 0 ≤ n6, n6 < (↑l7.length : Int), l7[n6.toNat]? = some [I n10, I n11, I n12, D.sl 1 l13], Ret Try.prog 135 [AD.agg [I n10, I n11, I n12, D.sl 1 l13]] [AD.one (B b14)], (!b14) = true]) :
    Tr Try.prog (loopOf Try.f109 0) (spec_GraphOk_L0 n6 l7 n8 n9) Ex.ret (spec_GraphOk_X0 false) :=
  .of_loopc (ks := [2]) (bs := []) (ans := [Ans.br true, Ans.el [I n10, I n11, I n12, D.sl 1 l13], Ans.res [AD.one (B b14)], Ans.br true]) (by kernel_rfl) h

theorem spec_GraphOk_L0_x1 (n6 : Int) (l7 : List (List D)) (n8 : Int) (n9 : Int) (n10 : Int) (n11 : Int) (n12 : Int) (l13 : List (List D)) (b14 : Bool)
    (h : Obs [decide (n6 < (↑l7.length : Int)) = true, 0 ≤ n6, n6 < (↑l7.length : Int), l7[n6.toNat]? = some [I n10, I n11, I n12, D.sl 1 l13], Ret Try.prog 135 [AD.agg [I n10, I n11, I n12, D.sl 1 l13]] [AD.one (B b14)], (!b14) = false, (!(n10 == 1) == (n6 == 0)) = true]) :
    Tr Try.prog (loopOf Try.f109 0) (spec_GraphOk_L0 n6 l7 n8 n9) Ex.ret (spec_GraphOk_X0 false) :=
  .of_loopc (ks := [2]) (bs := []) (ans := [Ans.br true, Ans.el [I n10, I n11, I n12, D.sl 1 l13], Ans.res [AD.one (B b14)], Ans.br false, Ans.br true]) (by kernel_rfl) h

def spec_GraphOk_L1 (n0 : Int) (l1 : List (List D)) (n2 : Int) (n3 : Int) (n4 : Int) (n5 : Int) (n6 : Int) (l7 : List (List D)) (n8 : Int) : St :=
  { env := envOf 97 [(1, PV.al (AL.one (Leaf.ptr 1 0))), (3, PV.al (AL.one (Leaf.v (Value.int IntKind.i64 n0)))), (4, PV.al (AL.one (Leaf.ptr 4 0))), (5, PV.al (AL.one (Leaf.v (Value.int IntKind.i64 n8))))], boxes := [(4, [Leaf.v (Value.int IntKind.i64 n4), Leaf.v (Value.int IntKind.i64 n5), Leaf.v (Value.int IntKind.i64 n6), Leaf.sl Tag.free 1 l7]), (1, [Leaf.sl Tag.free 4 l1, Leaf.v (Value.int IntKind.i64 n2), Leaf.v (Value.int IntKind.i64 n3)])] }

def spec_GraphOk_X1 (b0 : Bool) : St :=
  { env := envOf 97 [(2, PV.al (AL.one (Leaf.sb b0)))], boxes := [] }

theorem spec_GraphOk_L1_x0 (n6 : Int) (l7 : List (List D)) (n8 : Int) (n9 : Int) (n10 : Int) (n11 : Int) (n12 : Int) (l13 : List (List D)) (n15 : Int) (n16 : Int)
    (h : Obs [decide (n15 < (↑l13.length : Int)) = true, 0 ≤ n15, n15 < (↑l13.length : Int), l13[n15.toNat]? = some [I n16], decide (n16 ≥ (↑l7.length : Int)) = true]) :
    Tr Try.prog (loopOf Try.f109 1) (spec_GraphOk_L1 n6 l7 n8 n9 n10 n11 n12 l13 n15) Ex.ret (spec_GraphOk_X1 false) :=
  .of_loopc (ks := [2]) (bs := []) (ans := [Ans.br true, Ans.el [I n16], Ans.br true]) (by kernel_rfl) h

theorem spec_GraphOk_L1_x1 (n6 : Int) (l7 : List (List D)) (n8 : Int) (n9 : Int) (n10 : Int) (n11 : Int) (n12 : Int) (l13 : List (List D)) (n15 : Int) (n16 : Int)
    (h : Obs [decide (n15 < (↑l13.length : Int)) = true, 0 ≤ n15, n15 < (↑l13.length : Int), l13[n15.toNat]? = some [I n16], decide (n16 ≥ (↑l7.length : Int)) = false, (n10 != 7) = true, decide (n16 ≤ n6) = true]) :
    Tr Try.prog (loopOf Try.f109 1) (spec_GraphOk_L1 n6 l7 n8 n9 n10 n11 n12 l13 n15) Ex.ret (spec_GraphOk_X1 false) :=
  .of_loopc (ks := [2]) (bs := []) (ans := [Ans.br true, Ans.el [I n16], Ans.br false, Ans.br true, Ans.br true]) (by kernel_rfl) h

theorem spec_GraphOk_L1_x2 (n6 : Int) (l7 : List (List D)) (n8 : Int) (n9 : Int) (n10 : Int) (n11 : Int) (n12 : Int) (l13 : List (List D)) (n15 : Int) (n16 : Int) (n17 : Int) (n18 : Int) (n19 : Int) (l20 : List (List D))
    (h : Obs [decide (n15 < (↑l13.length : Int)) = true, 0 ≤ n15, n15 < (↑l13.length : Int), l13[n15.toNat]? = some [I n16], decide (n16 ≥ (↑l7.length : Int)) = false, (n10 != 7) = true, decide (n16 ≤ n6) = false, 0 ≤ n16, n16 < (↑l7.length : Int), l7[n16.toNat]? = some [I n17, I n18, I n19, D.sl 1 l20], (n10 == 7) = true, decide (n16 > n6) = true]) :
    Tr Try.prog (loopOf Try.f109 1) (spec_GraphOk_L1 n6 l7 n8 n9 n10 n11 n12 l13 n15) Ex.ret (spec_GraphOk_X1 false) :=
  .of_loopc (ks := [2]) (bs := []) (ans := [Ans.br true, Ans.el [I n16], Ans.br false, Ans.br true, Ans.br false, Ans.el [I n17, I n18, I n19, D.sl 1 l20], Ans.br true, Ans.br true]) (by kernel_rfl) h

theorem spec_GraphOk_L1_x3 (n6 : Int) (l7 : List (List D)) (n8 : Int) (n9 : Int) (n10 : Int) (n11 : Int) (n12 : Int) (l13 : List (List D)) (n15 : Int) (n16 : Int) (n17 : Int) (n18 : Int) (n19 : Int) (l20 : List (List D))
    (h : Obs [decide (n15 < (↑l13.length : Int)) = true, 0 ≤ n15, n15 < (↑l13.length : Int), l13[n15.toNat]? = some [I n16], decide (n16 ≥ (↑l7.length : Int)) = false, (n10 != 7) = true, decide (n16 ≤ n6) = false, 0 ≤ n16, n16 < (↑l7.length : Int), l7[n16.toNat]? = some [I n17, I n18, I n19, D.sl 1 l20], (n10 == 7) = true, decide (n16 > n6) = false, (n17 != 5) = true, (n17 != 6) = true]) :
    Tr Try.prog (loopOf Try.f109 1) (spec_GraphOk_L1 n6 l7 n8 n9 n10 n11 n12 l13 n15) Ex.ret (spec_GraphOk_X1 false) :=
  .of_loopc (ks := [2]) (bs := []) (ans := [Ans.br true, Ans.el [I n16], Ans.br false, Ans.br true, Ans.br false, Ans.el [I n17, I n18, I n19, D.sl 1 l20], Ans.br true, Ans.br false, Ans.br true, Ans.br true]) (by kernel_rfl) h

theorem spec_GraphOk_L1_s4 (n6 : Int) (l7 : List (List D)) (n8 : Int) (n9 : Int) (n10 : Int) (n11 : Int) (n12 : Int) (l13 : List (List D)) (n15 : Int) (n16 : Int) (n17 : Int) (n18 : Int) (n19 : Int) (l20 : List (List D))
    (h : Obs [decide (n15 < (↑l13.length : Int)) = true, 0 ≤ n15, n15 < (↑l13.length : Int), l13[n15.toNat]? = some [I n16], decide (n16 ≥ (↑l7.length : Int)) = false, (n10 != 7) = true, decide (n16 ≤ n6) = false, 0 ≤ n16, n16 < (↑l7.length : Int), l7[n16.toNat]? = some [I n17, I n18, I n19, D.sl 1 l20], (n10 == 7) = true, decide (n16 > n6) = false, (n17 != 5) = true, (n17 != 6) = false, inInt IntKind.i64 (n15 + 1)]) :
    Tr Try.prog (loopOf Try.f109 1) (spec_GraphOk_L1 n6 l7 n8 n9 n10 n11 n12 l13 n15) Ex.normal (spec_GraphOk_L1 n6 l7 n8 n9 n10 n11 n12 l13 (n15 + 1)) :=
  .of_loopc (ks := [5, 4, 1, 3]) (bs := [4, 1]) (ans := [Ans.br true, Ans.el [I n16], Ans.br false, Ans.br true, Ans.br false, Ans.el [I n17, I n18, I n19, D.sl 1 l20], Ans.br true, Ans.br false, Ans.br true, Ans.br false]) (by kernel_rfl) h

theorem spec_GraphOk_L1_s5 (n6 : Int) (l7 : List (List D)) (n8 : Int) (n9 : Int) (n10 : Int) (n11 : Int) (n12 : Int) (l13 : List (List D)) (n15 : Int) (n16 : Int) (n17 : Int) (n18 : Int) (n19 : Int) (l20 : List (List D))
    (h : Obs [decide (n15 < (↑l13.length : Int)) = true, 0 ≤ n15, n15 < (↑l13.length : Int), l13[n15.toNat]? = some [I n16], decide (n16 ≥ (↑l7.length : Int)) = false, (n10 != 7) = true, decide (n16 ≤ n6) = false, 0 ≤ n16, n16 < (↑l7.length : Int), l7[n16.toNat]? = some [I n17, I n18, I n19, D.sl 1 l20], (n10 == 7) = true, decide (n16 > n6) = false, (n17 != 5) = false, inInt IntKind.i64 (n15 + 1)]) :
    Tr Try.prog (loopOf Try.f109 1) (spec_GraphOk_L1 n6 l7 n8 n9 n10 n11 n12 l13 n15) Ex.normal (spec_GraphOk_L1 n6 l7 n8 n9 n10 n11 n12 l13 (n15 + 1)) :=
  .of_loopc (ks := [5, 4, 1, 3]) (bs := [4, 1]) (ans := [Ans.br true, Ans.el [I n16], Ans.br false, Ans.br true, Ans.br false, Ans.el [I n17, I n18, I n19, D.sl 1 l20], Ans.br true, Ans.br false, Ans.br false]) (by kernel_rfl) h

theorem spec_GraphOk_L1_s6 (n6 : Int) (l7 : List (List D)) (n8 : Int) (n9 : Int) (n10 : Int) (n11 : Int) (n12 : Int) (l13 : List (List D)) (n15 : Int) (n16 : Int) (n17 : Int) (n18 : Int) (n19 : Int) (l20 : List (List D))
    (h : Obs [decide (n15 < (↑l13.length : Int)) = true, 0 ≤ n15, n15 < (↑l13.length : Int), l13[n15.toNat]? = some [I n16], decide (n16 ≥ (↑l7.length : Int)) = false, (n10 != 7) = true, decide (n16 ≤ n6) = false, 0 ≤ n16, n16 < (↑l7.length : Int), l7[n16.toNat]? = some [I n17, I n18, I n19, D.sl 1 l20], (n10 == 7) = false, inInt IntKind.i64 (n15 + 1)]) :
    Tr Try.prog (loopOf Try.f109 1) (spec_GraphOk_L1 n6 l7 n8 n9 n10 n11 n12 l13 n15) Ex.normal (spec_GraphOk_L1 n6 l7 n8 n9 n10 n11 n12 l13 (n15 + 1)) :=
  .of_loopc (ks := [5, 4, 1, 3]) (bs := [4, 1]) (ans := [Ans.br true, Ans.el [I n16], Ans.br false, Ans.br true, Ans.br false, Ans.el [I n17, I n18, I n19, D.sl 1 l20], Ans.br false]) (by kernel_rfl) h

theorem spec_GraphOk_L1_x7 (n6 : Int) (l7 : List (List D)) (n8 : Int) (n9 : Int) (n10 : Int) (n11 : Int) (n12 : Int) (l13 : List (List D)) (n15 : Int) (n16 : Int) (n17 : Int) (n18 : Int) (n19 : Int) (l20 : List (List D))
    (h : Obs [decide (n15 < (↑l13.length : Int)) = true, 0 ≤ n15, n15 < (↑l13.length : Int), l13[n15.toNat]? = some [I n16], decide (n16 ≥ (↑l7.length : Int)) = false, (n10 != 7) = false, 0 ≤ n16, n16 < (↑l7.length : Int), l7[n16.toNat]? = some [I n17, I n18, I n19, D.sl 1 l20], (n10 == 7) = true, decide (n16 > n6) = true]) :
    Tr Try.prog (loopOf Try.f109 1) (spec_GraphOk_L1 n6 l7 n8 n9 n10 n11 n12 l13 n15) Ex.ret (spec_GraphOk_X1 false) :=
  .of_loopc (ks := [2]) (bs := []) (ans := [Ans.br true, Ans.el [I n16], Ans.br false, Ans.br false, Ans.el [I n17, I n18, I n19, D.sl 1 l20], Ans.br true, Ans.br true]) (by kernel_rfl) h

theorem spec_GraphOk_L1_x8 (n6 : Int) (l7 : List (List D)) (n8 : Int) (n9 : Int) (n10 : Int) (n11 : Int) (n12 : Int) (l13 : List (List D)) (n15 : Int) (n16 : Int) (n17 : Int) (n18 : Int) (n19 : Int) (l20 : List (List D))
    (h : Obs [decide (n15 < (↑l13.length : Int)) = true, 0 ≤ n15, n15 < (↑l13.length : Int), l13[n15.toNat]? = some [I n16], decide (n16 ≥ (↑l7.length : Int)) = false, (n10 != 7) = false, 0 ≤ n16, n16 < (↑l7.length : Int), l7[n16.toNat]? = some [I n17, I n18, I n19, D.sl 1 l20], (n10 == 7) = true, decide (n16 > n6) = false, (n17 != 5) = true, (n17 != 6) = true]) :
    Tr Try.prog (loopOf Try.f109 1) (spec_GraphOk_L1 n6 l7 n8 n9 n10 n11 n12 l13 n15) Ex.ret (spec_GraphOk_X1 false) :=
  .of_loopc (ks := [2]) (bs := []) (ans := [Ans.br true, Ans.el [I n16], Ans.br false, Ans.br false, Ans.el [I n17, I n18, I n19, D.sl 1 l20], Ans.br true, Ans.br false, Ans.br true, Ans.br true]) (by kernel_rfl) h

theorem spec_GraphOk_L1_s9 (n6 : Int) (l7 : List (List D)) (n8 : Int) (n9 : Int) (n10 : Int) (n11 : Int) (n12 : Int) (l13 : List (List D)) (n15 : Int) (n16 : Int) (n17 : Int) (n18 : Int) (n19 : Int) (l20 : List (List D))
    (h : Obs [decide (n15 < (↑l13.length : Int)) = true, 0 ≤ n15, n15 < (↑l13.length : Int), l13[n15.toNat]? = some [I n16], decide (n16 ≥ (↑l7.length : Int)) = false, (n10 != 7) = false, 0 ≤ n16, n16 < (↑l7.length : Int), l7[n16.toNat]? = some [I n17, I n18, I n19, D.sl 1 l20], (n10 == 7) = true, decide (n16 > n6) = false, (n17 != 5) = true, (n17 != 6) = false, inInt IntKind.i64 (n15 + 1)]) :
    Tr Try.prog (loopOf Try.f109 1) (spec_GraphOk_L1 n6 l7 n8 n9 n10 n11 n12 l13 n15) Ex.normal (spec_GraphOk_L1 n6 l7 n8 n9 n10 n11 n12 l13 (n15 + 1)) :=
  .of_loopc (ks := [5, 4, 1, 3]) (bs := [4, 1]) (ans := [Ans.br true, Ans.el [I n16], Ans.br false, Ans.br false, Ans.el [I n17, I n18, I n19, D.sl 1 l20], Ans.br true, Ans.br false, Ans.br true, Ans.br false]) (by kernel_rfl) h

theorem spec_GraphOk_L1_s10 (n6 : Int) (l7 : List (List D)) (n8 : Int) (n9 : Int) (n10 : Int) (n11 : Int) (n12 : Int) (l13 : List (List D)) (n15 : Int) (n16 : Int) (n17 : Int) (n18 : Int) (n19 : Int) (l20 : List (List D))
    (h : Obs [decide (n15 < (↑l13.length : Int)) = true, 0 ≤ n15, n15 < (↑l13.length : Int), l13[n15.toNat]? = some [I n16], decide (n16 ≥ (↑l7.length : Int)) = false, (n10 != 7) = false, 0 ≤ n16, n16 < (↑l7.length : Int), l7[n16.toNat]? = some [I n17, I n18, I n19, D.sl 1 l20], (n10 == 7) = true, decide (n16 > n6) = false, (n17 != 5) = false, inInt IntKind.i64 (n15 + 1)]) :
    Tr Try.prog (loopOf Try.f109 1) (spec_GraphOk_L1 n6 l7 n8 n9 n10 n11 n12 l13 n15) Ex.normal (spec_GraphOk_L1 n6 l7 n8 n9 n10 n11 n12 l13 (n15 + 1)) :=
  .of_loopc (ks := [5, 4, 1, 3]) (bs := [4, 1]) (ans := [Ans.br true, Ans.el [I n16], Ans.br false, Ans.br false, Ans.el [I n17, I n18, I n19, D.sl 1 l20], Ans.br true, Ans.br false, Ans.br false]) (by kernel_rfl) h

theorem spec_GraphOk_L1_s11 (n6 : Int) (l7 : List (List D)) (n8 : Int) (n9 : Int) (n10 : Int) (n11 : Int) (n12 : Int) (l13 : List (List D)) (n15 : Int) (n16 : Int) (n17 : Int) (n18 : Int) (n19 : Int) (l20 : List (List D))
    (h : Obs [decide (n15 < (↑l13.length : Int)) = true, 0 ≤ n15, n15 < (↑l13.length : Int), l13[n15.toNat]? = some [I n16], decide (n16 ≥ (↑l7.length : Int)) = false, (n10 != 7) = false, 0 ≤ n16, n16 < (↑l7.length : Int), l7[n16.toNat]? = some [I n17, I n18, I n19, D.sl 1 l20], (n10 == 7) = false, inInt IntKind.i64 (n15 + 1)]) :
    Tr Try.prog (loopOf Try.f109 1) (spec_GraphOk_L1 n6 l7 n8 n9 n10 n11 n12 l13 n15) Ex.normal (spec_GraphOk_L1 n6 l7 n8 n9 n10 n11 n12 l13 (n15 + 1)) :=
  .of_loopc (ks := [5, 4, 1, 3]) (bs := [4, 1]) (ans := [Ans.br true, Ans.el [I n16], Ans.br false, Ans.br false, Ans.el [I n17, I n18, I n19, D.sl 1 l20], Ans.br false]) (by kernel_rfl) h

def spec_GraphOk_X1v4 (n0 : Int) (l1 : List (List D)) (n2 : Int) (n3 : Int) : St :=
  { env := envOf 97 [(1, PV.al (AL.one (Leaf.ptr 1 0))), (3, PV.al (AL.one (Leaf.v (Value.int IntKind.i64 n0))))], boxes := [(1, [Leaf.sl Tag.free 4 l1, Leaf.v (Value.int IntKind.i64 n2), Leaf.v (Value.int IntKind.i64 n3)])] }

theorem spec_GraphOk_L1_x12 (n6 : Int) (l7 : List (List D)) (n8 : Int) (n9 : Int) (n10 : Int) (n11 : Int) (n12 : Int) (l13 : List (List D)) (n15 : Int)
    (h : Obs [decide (n15 < (↑l13.length : Int)) = false]) :
    Tr Try.prog (loopOf Try.f109 1) (spec_GraphOk_L1 n6 l7 n8 n9 n10 n11 n12 l13 n15) (Ex.exit 2) (spec_GraphOk_X1v4 n6 l7 n8 n9) :=
  .of_loopc (ks := [3, 1]) (bs := [1]) (ans := [Ans.br false]) (by kernel_rfl) h

theorem spec_GraphOk_L0_x2 (n6 : Int) (l7 : List (List D)) (n8 : Int) (n9 : Int) (n10 : Int) (n11 : Int) (n12 : Int) (l13 : List (List D)) (b14 : Bool) (b15 : Bool)
    (h : Obs [decide (n6 < (↑l7.length : Int)) = true, 0 ≤ n6, n6 < (↑l7.length : Int), l7[n6.toNat]? = some [I n10, I n11, I n12, D.sl 1 l13], Ret Try.prog 135 [AD.agg [I n10, I n11, I n12, D.sl 1 l13]] [AD.one (B b14)], (!b14) = false, (!(n10 == 1) == (n6 == 0)) = false, LoopOk Try.prog (loopOf Try.f109 1) (spec_GraphOk_L1 n6 l7 n8 n9 n10 n11 n12 l13 0) Ex.ret (spec_GraphOk_X1 b15)]) :
    Tr Try.prog (loopOf Try.f109 0) (spec_GraphOk_L0 n6 l7 n8 n9) Ex.ret (spec_GraphOk_X0 b15) :=
  .of_loopc (ks := [2]) (bs := []) (ans := [Ans.br true, Ans.el [I n10, I n11, I n12, D.sl 1 l13], Ans.res [AD.one (B b14)], Ans.br false, Ans.br false, Ans.loop [] [5, 4, 1, 3] [4, 1] Ex.ret (spec_GraphOk_X1 b15)]) (by kernel_rfl) h

theorem spec_GraphOk_L0_s3 (n6 : Int) (l7 : List (List D)) (n8 : Int) (n9 : Int) (n10 : Int) (n11 : Int) (n12 : Int) (l13 : List (List D)) (b14 : Bool)
    (h : Obs [decide (n6 < (↑l7.length : Int)) = true, 0 ≤ n6, n6 < (↑l7.length : Int), l7[n6.toNat]? = some [I n10, I n11, I n12, D.sl 1 l13], Ret Try.prog 135 [AD.agg [I n10, I n11, I n12, D.sl 1 l13]] [AD.one (B b14)], (!b14) = false, (!(n10 == 1) == (n6 == 0)) = false, LoopOk Try.prog (loopOf Try.f109 1) (spec_GraphOk_L1 n6 l7 n8 n9 n10 n11 n12 l13 0) (Ex.exit 2) (spec_GraphOk_X1v4 n6 l7 n8 n9), inInt IntKind.i64 (n6 + 1)]) :
    Tr Try.prog (loopOf Try.f109 0) (spec_GraphOk_L0 n6 l7 n8 n9) Ex.normal (spec_GraphOk_L0 (n6 + 1) l7 n8 n9) :=
  .of_loopc (ks := [3, 1]) (bs := [1]) (ans := [Ans.br true, Ans.el [I n10, I n11, I n12, D.sl 1 l13], Ans.res [AD.one (B b14)], Ans.br false, Ans.br false, Ans.loop [] [5, 4, 1, 3] [4, 1] (Ex.exit 2) (spec_GraphOk_X1v4 n6 l7 n8 n9)]) (by kernel_rfl) h

def spec_GraphOk_X0v5 : St :=
  { env := envOf 97 [], boxes := [] }

theorem spec_GraphOk_L0_x4 (n6 : Int) (l7 : List (List D)) (n8 : Int) (n9 : Int)
    (h : Obs [decide (n6 < (↑l7.length : Int)) = false]) :
    Tr Try.prog (loopOf Try.f109 0) (spec_GraphOk_L0 n6 l7 n8 n9) (Ex.exit 0) spec_GraphOk_X0v5 :=
  .of_loopc (ks := []) (bs := []) (ans := [Ans.br false]) (by kernel_rfl) h

theorem spec_GraphOk_p3 (l0 : List (List D)) (n1 : Int) (n2 : Int) (b3 : Bool) (b4 : Bool) (b5 : Bool) (b6 : Bool)
    (h : Obs [Ret Try.prog 57 [AD.one (I (↑l0.length : Int)), AD.one (I 1), AD.one (I 8)] [AD.one (B b3)], (!b3) = false, Ret Try.prog 57 [AD.one (I n1), AD.one (I 1), AD.one (I 4)] [AD.one (B b4)], (!b4) = false, Ret Try.prog 57 [AD.one (I n2), AD.one (I 1), AD.one (I 4)] [AD.one (B b5)], (!b5) = false, LoopOk Try.prog (loopOf Try.f109 0) (spec_GraphOk_L0 0 l0 n1 n2) Ex.ret (spec_GraphOk_X0 b6)]) :
    Ret Try.prog 109 [AD.agg [D.sl 4 l0, I n1, I n2]] [AD.one (B b6)] :=
  .of [Ans.res [AD.one (B b3)], Ans.br false, Ans.res [AD.one (B b4)], Ans.br false, Ans.res [AD.one (B b5)], Ans.br false, Ans.loop [] [3, 1] [1] Ex.ret (spec_GraphOk_X0 b6)] _ Try.func109 rfl (by kernel_rfl) h

theorem spec_GraphOk_p4 (l0 : List (List D)) (n1 : Int) (n2 : Int) (b3 : Bool) (b4 : Bool) (b5 : Bool)
    (h : Obs [Ret Try.prog 57 [AD.one (I (↑l0.length : Int)), AD.one (I 1), AD.one (I 8)] [AD.one (B b3)], (!b3) = false, Ret Try.prog 57 [AD.one (I n1), AD.one (I 1), AD.one (I 4)] [AD.one (B b4)], (!b4) = false, Ret Try.prog 57 [AD.one (I n2), AD.one (I 1), AD.one (I 4)] [AD.one (B b5)], (!b5) = false, LoopOk Try.prog (loopOf Try.f109 0) (spec_GraphOk_L0 0 l0 n1 n2) (Ex.exit 0) spec_GraphOk_X0v5]) :
    Ret Try.prog 109 [AD.agg [D.sl 4 l0, I n1, I n2]] [AD.one (B true)] :=
  .of [Ans.res [AD.one (B b3)], Ans.br false, Ans.res [AD.one (B b4)], Ans.br false, Ans.res [AD.one (B b5)], Ans.br false, Ans.loop [] [3, 1] [1] (Ex.exit 0) spec_GraphOk_X0v5] _ Try.func109 rfl (by kernel_rfl) h

/- loop.example/g00973/impl.GraphOk -/

theorem impl_GraphOk_p0 (l0 : List (List D)) (n1 : Int) (n2 : Int) (b3 : Bool)
    (h : Obs [Ret Try.prog 62 [AD.one (I (↑l0.length : Int)), AD.one (I 1), AD.one (I 8)] [AD.one (B b3)], (!b3) = true]) :
    Ret Try.prog 115 [AD.agg [D.sl 4 l0, I n1, I n2]] [AD.one (B false)] :=
  .of [Ans.res [AD.one (B b3)], Ans.br true] _ Try.func115 rfl (by kernel_rfl) h

theorem impl_GraphOk_p1 (l0 : List (List D)) (n1 : Int) (n2 : Int) (b3 : Bool) (b4 : Bool)
    (h : Obs [Ret Try.prog 62 [AD.one (I (↑l0.length : Int)), AD.one (I 1), AD.one (I 8)] [AD.one (B b3)], (!b3) = false, Ret Try.prog 62 [AD.one (I n1), AD.one (I 1), AD.one (I 4)] [AD.one (B b4)], (!b4) = true]) :
    Ret Try.prog 115 [AD.agg [D.sl 4 l0, I n1, I n2]] [AD.one (B false)] :=
  .of [Ans.res [AD.one (B b3)], Ans.br false, Ans.res [AD.one (B b4)], Ans.br true] _ Try.func115 rfl (by kernel_rfl) h

theorem impl_GraphOk_p2 (l0 : List (List D)) (n1 : Int) (n2 : Int) (b3 : Bool) (b4 : Bool) (b5 : Bool)
    (h : Obs [Ret Try.prog 62 [AD.one (I (↑l0.length : Int)), AD.one (I 1), AD.one (I 8)] [AD.one (B b3)], (!b3) = false, Ret Try.prog 62 [AD.one (I n1), AD.one (I 1), AD.one (I 4)] [AD.one (B b4)], (!b4) = false, Ret Try.prog 62 [AD.one (I n2), AD.one (I 1), AD.one (I 4)] [AD.one (B b5)], (!b5) = true]) :
    Ret Try.prog 115 [AD.agg [D.sl 4 l0, I n1, I n2]] [AD.one (B false)] :=
  .of [Ans.res [AD.one (B b3)], Ans.br false, Ans.res [AD.one (B b4)], Ans.br false, Ans.res [AD.one (B b5)], Ans.br true] _ Try.func115 rfl (by kernel_rfl) h

def impl_GraphOk_L0 (l0 : List (List D)) (n1 : Int) (l2 : List (List D)) (n3 : Int) (n4 : Int) : St :=
  { env := envOf 90 [(1, PV.al (AL.one (Leaf.ptr 1 0))), (26, PV.al (AL.one (Leaf.sl Tag.free 4 l0))), (27, PV.al (AL.one (Leaf.v (Value.int IntKind.i64 (↑l0.length : Int))))), (28, PV.al (AL.one (Leaf.v (Value.int IntKind.i64 n1))))], boxes := [(1, [Leaf.sl Tag.free 4 l2, Leaf.v (Value.int IntKind.i64 n3), Leaf.v (Value.int IntKind.i64 n4)])] }

def impl_GraphOk_X0 (b0 : Bool) : St :=
  { env := envOf 90 [(2, PV.al (AL.one (Leaf.sb b0)))], boxes := [] }

theorem impl_GraphOk_L0_x0 (l0 : List (List D)) (n6 : Int) (l7 : List (List D)) (n8 : Int) (n9 : Int) (n10 : Int) (n11 : Int) (n12 : Int) (l13 : List (List D)) (b14 : Bool)
    (h : Obs [decide (n6 < (↑l0.length : Int)) = true, 0 ≤ n6, n6 < (↑l0.length : Int), l0[n6.toNat]? = some [I n10, I n11, I n12, D.sl 1 l13], Ret Try.prog 141 [AD.agg [I n10, I n11, I n12, D.sl 1 l13]] [AD.one (B b14)], (!b14) = true]) :
    Tr Try.prog (loopOf Try.f115 0) (impl_GraphOk_L0 l0 n6 l7 n8 n9) Ex.ret (impl_GraphOk_X0 false) :=
  .of_loopc (ks := [2]) (bs := []) (ans := [Ans.br true, Ans.el [I n10, I n11, I n12, D.sl 1 l13], Ans.res [AD.one (B b14)], Ans.br true]) (by kernel_rfl) h

theorem impl_GraphOk_L0_x1 (l0 : List (List D)) (n6 : Int) (l7 : List (List D)) (n8 : Int) (n9 : Int) (n10 : Int) (n11 : Int) (n12 : Int) (l13 : List (List D)) (b14 : Bool)
    (h : Obs [decide (n6 < (↑l0.length : Int)) = true, 0 ≤ n6, n6 < (↑l0.length : Int), l0[n6.toNat]? = some [I n10, I n11, I n12, D.sl 1 l13], Ret Try.prog 141 [AD.agg [I n10, I n11, I n12, D.sl 1 l13]] [AD.one (B b14)], (!b14) = false, (!(n10 == 1) == (n6 == 0)) = true]) :
    Tr Try.prog (loopOf Try.f115 0) (impl_GraphOk_L0 l0 n6 l7 n8 n9) Ex.ret (impl_GraphOk_X0 false) :=
  .of_loopc (ks := [2]) (bs := []) (ans := [Ans.br true, Ans.el [I n10, I n11, I n12, D.sl 1 l13], Ans.res [AD.one (B b14)], Ans.br false, Ans.br true]) (by kernel_rfl) h

def impl_GraphOk_L1 (l0 : List (List D)) (n1 : Int) (l2 : List (List D)) (n3 : Int) (n4 : Int) (n5 : Int) (n6 : Int) (n7 : Int) (l8 : List (List D)) (n9 : Int) : St :=
  { env := envOf 90 [(1, PV.al (AL.one (Leaf.ptr 1 0))), (3, PV.al (AL.one (Leaf.v (Value.int IntKind.i64 n1)))), (4, PV.al (AL.one (Leaf.ptr 4 0))), (26, PV.al (AL.one (Leaf.sl Tag.free 4 l0))), (27, PV.al (AL.one (Leaf.v (Value.int IntKind.i64 (↑l0.length : Int))))), (28, PV.al (AL.one (Leaf.v (Value.int IntKind.i64 n1)))), (45, PV.al (AL.one (Leaf.sl Tag.free 1 l8))), (46, PV.al (AL.one (Leaf.v (Value.int IntKind.i64 (↑l8.length : Int))))), (47, PV.al (AL.one (Leaf.v (Value.int IntKind.i64 n9))))], boxes := [(4, [Leaf.v (Value.int IntKind.i64 n5), Leaf.v (Value.int IntKind.i64 n6), Leaf.v (Value.int IntKind.i64 n7), Leaf.sl Tag.free 1 l8]), (1, [Leaf.sl Tag.free 4 l2, Leaf.v (Value.int IntKind.i64 n3), Leaf.v (Value.int IntKind.i64 n4)])] }

def impl_GraphOk_X1 (b0 : Bool) : St :=
  { env := envOf 90 [(2, PV.al (AL.one (Leaf.sb b0)))], boxes := [] }

theorem impl_GraphOk_L1_x0 (l0 : List (List D)) (n6 : Int) (l7 : List (List D)) (n8 : Int) (n9 : Int) (n10 : Int) (n11 : Int) (n12 : Int) (l13 : List (List D)) (n15 : Int) (n16 : Int)
    (h : Obs [decide (n15 < (↑l13.length : Int)) = true, 0 ≤ n15, n15 < (↑l13.length : Int), l13[n15.toNat]? = some [I n16], decide (n16 ≥ (↑l7.length : Int)) = true]) :
    Tr Try.prog (loopOf Try.f115 1) (impl_GraphOk_L1 l0 n6 l7 n8 n9 n10 n11 n12 l13 n15) Ex.ret (impl_GraphOk_X1 false) :=
  .of_loopc (ks := [2]) (bs := []) (ans := [Ans.br true, Ans.el [I n16], Ans.br true]) (by kernel_rfl) h

theorem impl_GraphOk_L1_x1 (l0 : List (List D)) (n6 : Int) (l7 : List (List D)) (n8 : Int) (n9 : Int) (n10 : Int) (n11 : Int) (n12 : Int) (l13 : List (List D)) (n15 : Int) (n16 : Int) (n17 : Int) (n18 : Int) (n19 : Int) (l20 : List (List D))
    (h : Obs [decide (n15 < (↑l13.length : Int)) = true, 0 ≤ n15, n15 < (↑l13.length : Int), l13[n15.toNat]? = some [I n16], decide (n16 ≥ (↑l7.length : Int)) = false, 0 ≤ n16, n16 < (↑l7.length : Int), l7[n16.toNat]? = some [I n17, I n18, I n19, D.sl 1 l20], (n10 == 7) = true, decide (n16 > n6) = true]) :
    Tr Try.prog (loopOf Try.f115 1) (impl_GraphOk_L1 l0 n6 l7 n8 n9 n10 n11 n12 l13 n15) Ex.ret (impl_GraphOk_X1 false) :=
  .of_loopc (ks := [2]) (bs := []) (ans := [Ans.br true, Ans.el [I n16], Ans.br false, Ans.el [I n17, I n18, I n19, D.sl 1 l20], Ans.br true, Ans.br true]) (by kernel_rfl) h

theorem impl_GraphOk_L1_x2 (l0 : List (List D)) (n6 : Int) (l7 : List (List D)) (n8 : Int) (n9 : Int) (n10 : Int) (n11 : Int) (n12 : Int) (l13 : List (List D)) (n15 : Int) (n16 : Int) (n17 : Int) (n18 : Int) (n19 : Int) (l20 : List (List D))
    (h : Obs [decide (n15 < (↑l13.length : Int)) = true, 0 ≤ n15, n15 < (↑l13.length : Int), l13[n15.toNat]? = some [I n16], decide (n16 ≥ (↑l7.length : Int)) = false, 0 ≤ n16, n16 < (↑l7.length : Int), l7[n16.toNat]? = some [I n17, I n18, I n19, D.sl 1 l20], (n10 == 7) = true, decide (n16 > n6) = false, (n17 != 5) = true, (n17 != 6) = true]) :
    Tr Try.prog (loopOf Try.f115 1) (impl_GraphOk_L1 l0 n6 l7 n8 n9 n10 n11 n12 l13 n15) Ex.ret (impl_GraphOk_X1 false) :=
  .of_loopc (ks := [2]) (bs := []) (ans := [Ans.br true, Ans.el [I n16], Ans.br false, Ans.el [I n17, I n18, I n19, D.sl 1 l20], Ans.br true, Ans.br false, Ans.br true, Ans.br true]) (by kernel_rfl) h

theorem impl_GraphOk_L1_x3 (l0 : List (List D)) (n6 : Int) (l7 : List (List D)) (n8 : Int) (n9 : Int) (n10 : Int) (n11 : Int) (n12 : Int) (l13 : List (List D)) (n15 : Int) (n16 : Int) (n17 : Int) (n18 : Int) (n19 : Int) (l20 : List (List D))
    (h : Obs [decide (n15 < (↑l13.length : Int)) = true, 0 ≤ n15, n15 < (↑l13.length : Int), l13[n15.toNat]? = some [I n16], decide (n16 ≥ (↑l7.length : Int)) = false, 0 ≤ n16, n16 < (↑l7.length : Int), l7[n16.toNat]? = some [I n17, I n18, I n19, D.sl 1 l20], (n10 == 7) = true, decide (n16 > n6) = false, (n17 != 5) = true, (n17 != 6) = false, (n10 != 7) = true, decide (n16 ≤ n6) = true]) :
    Tr Try.prog (loopOf Try.f115 1) (impl_GraphOk_L1 l0 n6 l7 n8 n9 n10 n11 n12 l13 n15) Ex.ret (impl_GraphOk_X1 false) :=
  .of_loopc (ks := [2]) (bs := []) (ans := [Ans.br true, Ans.el [I n16], Ans.br false, Ans.el [I n17, I n18, I n19, D.sl 1 l20], Ans.br true, Ans.br false, Ans.br true, Ans.br false, Ans.br true, Ans.br true]) (by kernel_rfl) h

theorem impl_GraphOk_L1_s4 (l0 : List (List D)) (n6 : Int) (l7 : List (List D)) (n8 : Int) (n9 : Int) (n10 : Int) (n11 : Int) (n12 : Int) (l13 : List (List D)) (n15 : Int) (n16 : Int) (n17 : Int) (n18 : Int) (n19 : Int) (l20 : List (List D))
    (h : Obs [decide (n15 < (↑l13.length : Int)) = true, 0 ≤ n15, n15 < (↑l13.length : Int), l13[n15.toNat]? = some [I n16], decide (n16 ≥ (↑l7.length : Int)) = false, 0 ≤ n16, n16 < (↑l7.length : Int), l7[n16.toNat]? = some [I n17, I n18, I n19, D.sl 1 l20], (n10 == 7) = true, decide (n16 > n6) = false, (n17 != 5) = true, (n17 != 6) = false, (n10 != 7) = true, decide (n16 ≤ n6) = false, inInt IntKind.i64 (n15 + 1)]) :
    Tr Try.prog (loopOf Try.f115 1) (impl_GraphOk_L1 l0 n6 l7 n8 n9 n10 n11 n12 l13 n15) Ex.normal (impl_GraphOk_L1 l0 n6 l7 n8 n9 n10 n11 n12 l13 (n15 + 1)) :=
  .of_loopc (ks := [47, 46, 45, 1, 4, 3, 28, 27, 26]) (bs := [4, 1]) (ans := [Ans.br true, Ans.el [I n16], Ans.br false, Ans.el [I n17, I n18, I n19, D.sl 1 l20], Ans.br true, Ans.br false, Ans.br true, Ans.br false, Ans.br true, Ans.br false]) (by kernel_rfl) h

theorem impl_GraphOk_L1_s5 (l0 : List (List D)) (n6 : Int) (l7 : List (List D)) (n8 : Int) (n9 : Int) (n10 : Int) (n11 : Int) (n12 : Int) (l13 : List (List D)) (n15 : Int) (n16 : Int) (n17 : Int) (n18 : Int) (n19 : Int) (l20 : List (List D))
    (h : Obs [decide (n15 < (↑l13.length : Int)) = true, 0 ≤ n15, n15 < (↑l13.length : Int), l13[n15.toNat]? = some [I n16], decide (n16 ≥ (↑l7.length : Int)) = false, 0 ≤ n16, n16 < (↑l7.length : Int), l7[n16.toNat]? = some [I n17, I n18, I n19, D.sl 1 l20], (n10 == 7) = true, decide (n16 > n6) = false, (n17 != 5) = true, (n17 != 6) = false, (n10 != 7) = false, inInt IntKind.i64 (n15 + 1)]) :
    Tr Try.prog (loopOf Try.f115 1) (impl_GraphOk_L1 l0 n6 l7 n8 n9 n10 n11 n12 l13 n15) Ex.normal (impl_GraphOk_L1 l0 n6 l7 n8 n9 n10 n11 n12 l13 (n15 + 1)) :=
  .of_loopc (ks := [47, 46, 45, 1, 4, 3, 28, 27, 26]) (bs := [4, 1]) (ans := [Ans.br true, Ans.el [I n16], Ans.br false, Ans.el [I n17, I n18, I n19, D.sl 1 l20], Ans.br true, Ans.br false, Ans.br true, Ans.br false, Ans.br false]) (by kernel_rfl) h

theorem impl_GraphOk_L1_x6 (l0 : List (List D)) (n6 : Int) (l7 : List (List D)) (n8 : Int) (n9 : Int) (n10 : Int) (n11 : Int) (n12 : Int) (l13 : List (List D)) (n15 : Int) (n16 : Int) (n17 : Int) (n18 : Int) (n19 : Int) (l20 : List (List D))
    (h : Obs [decide (n15 < (↑l13.length : Int)) = true, 0 ≤ n15, n15 < (↑l13.length : Int), l13[n15.toNat]? = some [I n16], decide (n16 ≥ (↑l7.length : Int)) = false, 0 ≤ n16, n16 < (↑l7.length : Int), l7[n16.toNat]? = some [I n17, I n18, I n19, D.sl 1 l20], (n10 == 7) = true, decide (n16 > n6) = false, (n17 != 5) = false, (n10 != 7) = true, decide (n16 ≤ n6) = true]) :
    Tr Try.prog (loopOf Try.f115 1) (impl_GraphOk_L1 l0 n6 l7 n8 n9 n10 n11 n12 l13 n15) Ex.ret (impl_GraphOk_X1 false) :=
  .of_loopc (ks := [2]) (bs := []) (ans := [Ans.br true, Ans.el [I n16], Ans.br false, Ans.el [I n17, I n18, I n19, D.sl 1 l20], Ans.br true, Ans.br false, Ans.br false, Ans.br true, Ans.br true]) (by kernel_rfl) h

theorem impl_GraphOk_L1_s7 (l0 : List (List D)) (n6 : Int) (l7 : List (List D)) (n8 : Int) (n9 : Int) (n10 : Int) (n11 : Int) (n12 : Int) (l13 : List (List D)) (n15 : Int) (n16 : Int) (n17 : Int) (n18 : Int) (n19 : Int) (l20 : List (List D))
    (h : Obs [decide (n15 < (↑l13.length : Int)) = true, 0 ≤ n15, n15 < (↑l13.length : Int), l13[n15.toNat]? = some [I n16], decide (n16 ≥ (↑l7.length : Int)) = false, 0 ≤ n16, n16 < (↑l7.length : Int), l7[n16.toNat]? = some [I n17, I n18, I n19, D.sl 1 l20], (n10 == 7) = true, decide (n16 > n6) = false, (n17 != 5) = false, (n10 != 7) = true, decide (n16 ≤ n6) = false, inInt IntKind.i64 (n15 + 1)]) :
    Tr Try.prog (loopOf Try.f115 1) (impl_GraphOk_L1 l0 n6 l7 n8 n9 n10 n11 n12 l13 n15) Ex.normal (impl_GraphOk_L1 l0 n6 l7 n8 n9 n10 n11 n12 l13 (n15 + 1)) :=
  .of_loopc (ks := [47, 46, 45, 1, 4, 3, 28, 27, 26]) (bs := [4, 1]) (ans := [Ans.br true, Ans.el [I n16], Ans.br false, Ans.el [I n17, I n18, I n19, D.sl 1 l20], Ans.br true, Ans.br false, Ans.br false, Ans.br true, Ans.br false]) (by kernel_rfl) h

theorem impl_GraphOk_L1_s8 (l0 : List (List D)) (n6 : Int) (l7 : List (List D)) (n8 : Int) (n9 : Int) (n10 : Int) (n11 : Int) (n12 : Int) (l13 : List (List D)) (n15 : Int) (n16 : Int) (n17 : Int) (n18 : Int) (n19 : Int) (l20 : List (List D))
    (h : Obs [decide (n15 < (↑l13.length : Int)) = true, 0 ≤ n15, n15 < (↑l13.length : Int), l13[n15.toNat]? = some [I n16], decide (n16 ≥ (↑l7.length : Int)) = false, 0 ≤ n16, n16 < (↑l7.length : Int), l7[n16.toNat]? = some [I n17, I n18, I n19, D.sl 1 l20], (n10 == 7) = true, decide (n16 > n6) = false, (n17 != 5) = false, (n10 != 7) = false, inInt IntKind.i64 (n15 + 1)]) :
    Tr Try.prog (loopOf Try.f115 1) (impl_GraphOk_L1 l0 n6 l7 n8 n9 n10 n11 n12 l13 n15) Ex.normal (impl_GraphOk_L1 l0 n6 l7 n8 n9 n10 n11 n12 l13 (n15 + 1)) :=
  .of_loopc (ks := [47, 46, 45, 1, 4, 3, 28, 27, 26]) (bs := [4, 1]) (ans := [Ans.br true, Ans.el [I n16], Ans.br false, Ans.el [I n17, I n18, I n19, D.sl 1 l20], Ans.br true, Ans.br false, Ans.br false, Ans.br false]) (by kernel_rfl) h

theorem impl_GraphOk_L1_x9 (l0 : List (List D)) (n6 : Int) (l7 : List (List D)) (n8 : Int) (n9 : Int) (n10 : Int) (n11 : Int) (n12 : Int) (l13 : List (List D)) (n15 : Int) (n16 : Int) (n17 : Int) (n18 : Int) (n19 : Int) (l20 : List (List D))
    (h : Obs [decide (n15 < (↑l13.length : Int)) = true, 0 ≤ n15, n15 < (↑l13.length : Int), l13[n15.toNat]? = some [I n16], decide (n16 ≥ (↑l7.length : Int)) = false, 0 ≤ n16, n16 < (↑l7.length : Int), l7[n16.toNat]? = some [I n17, I n18, I n19, D.sl 1 l20], (n10 == 7) = false, (n10 != 7) = true, decide (n16 ≤ n6) = true]) :
    Tr Try.prog (loopOf Try.f115 1) (impl_GraphOk_L1 l0 n6 l7 n8 n9 n10 n11 n12 l13 n15) Ex.ret (impl_GraphOk_X1 false) :=
  .of_loopc (ks := [2]) (bs := []) (ans := [Ans.br true, Ans.el [I n16], Ans.br false, Ans.el [I n17, I n18, I n19, D.sl 1 l20], Ans.br false, Ans.br true, Ans.br true]) (by kernel_rfl) h

theorem impl_GraphOk_L1_s10 (l0 : List (List D)) (n6 : Int) (l7 : List (List D)) (n8 : Int) (n9 : Int) (n10 : Int) (n11 : Int) (n12 : Int) (l13 : List (List D)) (n15 : Int) (n16 : Int) (n17 : Int) (n18 : Int) (n19 : Int) (l20 : List (List D))
    (h : Obs [decide (n15 < (↑l13.length : Int)) = true, 0 ≤ n15, n15 < (↑l13.length : Int), l13[n15.toNat]? = some [I n16], decide (n16 ≥ (↑l7.length : Int)) = false, 0 ≤ n16, n16 < (↑l7.length : Int), l7[n16.toNat]? = some [I n17, I n18, I n19, D.sl 1 l20], (n10 == 7) = false, (n10 != 7) = true, decide (n16 ≤ n6) = false, inInt IntKind.i64 (n15 + 1)]) :
    Tr Try.prog (loopOf Try.f115 1) (impl_GraphOk_L1 l0 n6 l7 n8 n9 n10 n11 n12 l13 n15) Ex.normal (impl_GraphOk_L1 l0 n6 l7 n8 n9 n10 n11 n12 l13 (n15 + 1)) :=
  .of_loopc (ks := [47, 46, 45, 1, 4, 3, 28, 27, 26]) (bs := [4, 1]) (ans := [Ans.br true, Ans.el [I n16], Ans.br false, Ans.el [I n17, I n18, I n19, D.sl 1 l20], Ans.br false, Ans.br true, Ans.br false]) (by kernel_rfl) h

theorem impl_GraphOk_L1_s11 (l0 : List (List D)) (n6 : Int) (l7 : List (List D)) (n8 : Int) (n9 : Int) (n10 : Int) (n11 : Int) (n12 : Int) (l13 : List (List D)) (n15 : Int) (n16 : Int) (n17 : Int) (n18 : Int) (n19 : Int) (l20 : List (List D))
    (h : Obs [decide (n15 < (↑l13.length : Int)) = true, 0 ≤ n15, n15 < (↑l13.length : Int), l13[n15.toNat]? = some [I n16], decide (n16 ≥ (↑l7.length : Int)) = false, 0 ≤ n16, n16 < (↑l7.length : Int), l7[n16.toNat]? = some [I n17, I n18, I n19, D.sl 1 l20], (n10 == 7) = false, (n10 != 7) = false, inInt IntKind.i64 (n15 + 1)]) :
    Tr Try.prog (loopOf Try.f115 1) (impl_GraphOk_L1 l0 n6 l7 n8 n9 n10 n11 n12 l13 n15) Ex.normal (impl_GraphOk_L1 l0 n6 l7 n8 n9 n10 n11 n12 l13 (n15 + 1)) :=
  .of_loopc (ks := [47, 46, 45, 1, 4, 3, 28, 27, 26]) (bs := [4, 1]) (ans := [Ans.br true, Ans.el [I n16], Ans.br false, Ans.el [I n17, I n18, I n19, D.sl 1 l20], Ans.br false, Ans.br false]) (by kernel_rfl) h

def impl_GraphOk_X1v4 (l0 : List (List D)) (n1 : Int) (l2 : List (List D)) (n3 : Int) (n4 : Int) : St :=
  { env := envOf 90 [(1, PV.al (AL.one (Leaf.ptr 1 0))), (26, PV.al (AL.one (Leaf.sl Tag.free 4 l0))), (27, PV.al (AL.one (Leaf.v (Value.int IntKind.i64 (↑l0.length : Int))))), (28, PV.al (AL.one (Leaf.v (Value.int IntKind.i64 n1))))], boxes := [(1, [Leaf.sl Tag.free 4 l2, Leaf.v (Value.int IntKind.i64 n3), Leaf.v (Value.int IntKind.i64 n4)])] }

theorem impl_GraphOk_L1_x12 (l0 : List (List D)) (n6 : Int) (l7 : List (List D)) (n8 : Int) (n9 : Int) (n10 : Int) (n11 : Int) (n12 : Int) (l13 : List (List D)) (n15 : Int)
    (h : Obs [decide (n15 < (↑l13.length : Int)) = false]) :
    Tr Try.prog (loopOf Try.f115 1) (impl_GraphOk_L1 l0 n6 l7 n8 n9 n10 n11 n12 l13 n15) (Ex.exit 2) (impl_GraphOk_X1v4 l0 n6 l7 n8 n9) :=
  .of_loopc (ks := [28, 27, 26, 1]) (bs := [1]) (ans := [Ans.br false]) (by kernel_rfl) h

theorem impl_GraphOk_L0_x2 (l0 : List (List D)) (n6 : Int) (l7 : List (List D)) (n8 : Int) (n9 : Int) (n10 : Int) (n11 : Int) (n12 : Int) (l13 : List (List D)) (b14 : Bool) (b15 : Bool)
    (h : Obs [decide (n6 < (↑l0.length : Int)) = true, 0 ≤ n6, n6 < (↑l0.length : Int), l0[n6.toNat]? = some [I n10, I n11, I n12, D.sl 1 l13], Ret Try.prog 141 [AD.agg [I n10, I n11, I n12, D.sl 1 l13]] [AD.one (B b14)], (!b14) = false, (!(n10 == 1) == (n6 == 0)) = false, LoopOk Try.prog (loopOf Try.f115 1) (impl_GraphOk_L1 l0 n6 l7 n8 n9 n10 n11 n12 l13 0) Ex.ret (impl_GraphOk_X1 b15)]) :
    Tr Try.prog (loopOf Try.f115 0) (impl_GraphOk_L0 l0 n6 l7 n8 n9) Ex.ret (impl_GraphOk_X0 b15) :=
  .of_loopc (ks := [2]) (bs := []) (ans := [Ans.br true, Ans.el [I n10, I n11, I n12, D.sl 1 l13], Ans.res [AD.one (B b14)], Ans.br false, Ans.br false, Ans.loop [] [47, 46, 45, 1, 4, 3, 28, 27, 26] [4, 1] Ex.ret (impl_GraphOk_X1 b15)]) (by kernel_rfl) h

theorem impl_GraphOk_L0_s3 (l0 : List (List D)) (n6 : Int) (l7 : List (List D)) (n8 : Int) (n9 : Int) (n10 : Int) (n11 : Int) (n12 : Int) (l13 : List (List D)) (b14 : Bool)
    (h : Obs [decide (n6 < (↑l0.length : Int)) = true, 0 ≤ n6, n6 < (↑l0.length : Int), l0[n6.toNat]? = some [I n10, I n11, I n12, D.sl 1 l13], Ret Try.prog 141 [AD.agg [I n10, I n11, I n12, D.sl 1 l13]] [AD.one (B b14)], (!b14) = false, (!(n10 == 1) == (n6 == 0)) = false, LoopOk Try.prog (loopOf Try.f115 1) (impl_GraphOk_L1 l0 n6 l7 n8 n9 n10 n11 n12 l13 0) (Ex.exit 2) (impl_GraphOk_X1v4 l0 n6 l7 n8 n9), inInt IntKind.i64 (n6 + 1)]) :
    Tr Try.prog (loopOf Try.f115 0) (impl_GraphOk_L0 l0 n6 l7 n8 n9) Ex.normal (impl_GraphOk_L0 l0 (n6 + 1) l7 n8 n9) :=
  .of_loopc (ks := [28, 27, 26, 1]) (bs := [1]) (ans := [Ans.br true, Ans.el [I n10, I n11, I n12, D.sl 1 l13], Ans.res [AD.one (B b14)], Ans.br false, Ans.br false, Ans.loop [] [47, 46, 45, 1, 4, 3, 28, 27, 26] [4, 1] (Ex.exit 2) (impl_GraphOk_X1v4 l0 n6 l7 n8 n9)]) (by kernel_rfl) h

def impl_GraphOk_X0v5 : St :=
  { env := envOf 90 [], boxes := [] }

theorem impl_GraphOk_L0_x4 (l0 : List (List D)) (n6 : Int) (l7 : List (List D)) (n8 : Int) (n9 : Int)
    (h : Obs [decide (n6 < (↑l0.length : Int)) = false]) :
    Tr Try.prog (loopOf Try.f115 0) (impl_GraphOk_L0 l0 n6 l7 n8 n9) (Ex.exit 0) impl_GraphOk_X0v5 :=
  .of_loopc (ks := []) (bs := []) (ans := [Ans.br false]) (by kernel_rfl) h

theorem impl_GraphOk_p3 (l0 : List (List D)) (n1 : Int) (n2 : Int) (b3 : Bool) (b4 : Bool) (b5 : Bool) (b6 : Bool)
    (h : Obs [Ret Try.prog 62 [AD.one (I (↑l0.length : Int)), AD.one (I 1), AD.one (I 8)] [AD.one (B b3)], (!b3) = false, Ret Try.prog 62 [AD.one (I n1), AD.one (I 1), AD.one (I 4)] [AD.one (B b4)], (!b4) = false, Ret Try.prog 62 [AD.one (I n2), AD.one (I 1), AD.one (I 4)] [AD.one (B b5)], (!b5) = false, LoopOk Try.prog (loopOf Try.f115 0) (impl_GraphOk_L0 l0 0 l0 n1 n2) Ex.ret (impl_GraphOk_X0 b6)]) :
    Ret Try.prog 115 [AD.agg [D.sl 4 l0, I n1, I n2]] [AD.one (B b6)] :=
  .of [Ans.res [AD.one (B b3)], Ans.br false, Ans.res [AD.one (B b4)], Ans.br false, Ans.res [AD.one (B b5)], Ans.br false, Ans.loop [] [28, 27, 26, 1] [1] Ex.ret (impl_GraphOk_X0 b6)] _ Try.func115 rfl (by kernel_rfl) h

theorem impl_GraphOk_p4 (l0 : List (List D)) (n1 : Int) (n2 : Int) (b3 : Bool) (b4 : Bool) (b5 : Bool)
    (h : Obs [Ret Try.prog 62 [AD.one (I (↑l0.length : Int)), AD.one (I 1), AD.one (I 8)] [AD.one (B b3)], (!b3) = false, Ret Try.prog 62 [AD.one (I n1), AD.one (I 1), AD.one (I 4)] [AD.one (B b4)], (!b4) = false, Ret Try.prog 62 [AD.one (I n2), AD.one (I 1), AD.one (I 4)] [AD.one (B b5)], (!b5) = false, LoopOk Try.prog (loopOf Try.f115 0) (impl_GraphOk_L0 l0 0 l0 n1 n2) (Ex.exit 0) impl_GraphOk_X0v5]) :
    Ret Try.prog 115 [AD.agg [D.sl 4 l0, I n1, I n2]] [AD.one (B true)] :=
  .of [Ans.res [AD.one (B b3)], Ans.br false, Ans.res [AD.one (B b4)], Ans.br false, Ans.res [AD.one (B b5)], Ans.br false, Ans.loop [] [28, 27, 26, 1] [1] (Ex.exit 0) impl_GraphOk_X0v5] _ Try.func115 rfl (by kernel_rfl) h

/- loop.example/g00973/spec.RecordOk -/

theorem spec_RecordOk_p0 (n0 : Int) (n1 : Int) (n2 : Int) (n3 : Int) (n4 : Int) (b5 : Bool) (b6 : Bool) (b7 : Bool) (b8 : Bool)
    (h : Obs [Ret Try.prog 57 [AD.one (I n0), AD.one (I 0), AD.one (I 7)] [AD.one (B b5)], b5 = true, Ret Try.prog 136 [AD.agg [I n1, I n2]] [AD.one (B b6)], b6 = true, Ret Try.prog 57 [AD.one (I n3), AD.one (I 0), AD.one (I 99)] [AD.one (B b7)], b7 = true, Ret Try.prog 57 [AD.one (I n4), AD.one (I 0), AD.one (I 999)] [AD.one (B b8)]]) :
    Ret Try.prog 110 [AD.agg [I n0, I n1, I n2, I n3, I n4]] [AD.one (B b8)] :=
  .of [Ans.res [AD.one (B b5)], Ans.br true, Ans.res [AD.one (B b6)], Ans.br true, Ans.res [AD.one (B b7)], Ans.br true, Ans.res [AD.one (B b8)]] _ Try.func110 rfl (by kernel_rfl) h

theorem spec_RecordOk_p1 (n0 : Int) (n1 : Int) (n2 : Int) (n3 : Int) (n4 : Int) (b5 : Bool) (b6 : Bool) (b7 : Bool)
    (h : Obs [Ret Try.prog 57 [AD.one (I n0), AD.one (I 0), AD.one (I 7)] [AD.one (B b5)], b5 = true, Ret Try.prog 136 [AD.agg [I n1, I n2]] [AD.one (B b6)], b6 = true, Ret Try.prog 57 [AD.one (I n3), AD.one (I 0), AD.one (I 99)] [AD.one (B b7)], b7 = false]) :
    Ret Try.prog 110 [AD.agg [I n0, I n1, I n2, I n3, I n4]] [AD.one (B false)] :=
  .of [Ans.res [AD.one (B b5)], Ans.br true, Ans.res [AD.one (B b6)], Ans.br true, Ans.res [AD.one (B b7)], Ans.br false] _ Try.func110 rfl (by kernel_rfl) h

theorem spec_RecordOk_p2 (n0 : Int) (n1 : Int) (n2 : Int) (n3 : Int) (n4 : Int) (b5 : Bool) (b6 : Bool)
    (h : Obs [Ret Try.prog 57 [AD.one (I n0), AD.one (I 0), AD.one (I 7)] [AD.one (B b5)], b5 = true, Ret Try.prog 136 [AD.agg [I n1, I n2]] [AD.one (B b6)], b6 = false]) :
    Ret Try.prog 110 [AD.agg [I n0, I n1, I n2, I n3, I n4]] [AD.one (B false)] :=
  .of [Ans.res [AD.one (B b5)], Ans.br true, Ans.res [AD.one (B b6)], Ans.br false] _ Try.func110 rfl (by kernel_rfl) h

theorem spec_RecordOk_p3 (n0 : Int) (n1 : Int) (n2 : Int) (n3 : Int) (n4 : Int) (b5 : Bool)
    (h : Obs [Ret Try.prog 57 [AD.one (I n0), AD.one (I 0), AD.one (I 7)] [AD.one (B b5)], b5 = false]) :
    Ret Try.prog 110 [AD.agg [I n0, I n1, I n2, I n3, I n4]] [AD.one (B false)] :=
  .of [Ans.res [AD.one (B b5)], Ans.br false] _ Try.func110 rfl (by kernel_rfl) h

/- loop.example/g00973/impl.RecordOk -/

theorem impl_RecordOk_p0 (n0 : Int) (n1 : Int) (n2 : Int) (n3 : Int) (n4 : Int) (b5 : Bool) (b6 : Bool) (b7 : Bool)
    (h : Obs [Ret Try.prog 62 [AD.one (I n0), AD.one (I 0), AD.one (I 7)] [AD.one (B b5)], b5 = true, Ret Try.prog 142 [AD.agg [I n1, I n2]] [AD.one (B b6)], b6 = true, Ret Try.prog 143 [AD.one (I n3), AD.one (I n4)] [AD.one (B b7)]]) :
    Ret Try.prog 117 [AD.agg [I n0, I n1, I n2, I n3, I n4]] [AD.one (B b7)] :=
  .of [Ans.res [AD.one (B b5)], Ans.br true, Ans.res [AD.one (B b6)], Ans.br true, Ans.res [AD.one (B b7)]] _ Try.func117 rfl (by kernel_rfl) h

theorem impl_RecordOk_p1 (n0 : Int) (n1 : Int) (n2 : Int) (n3 : Int) (n4 : Int) (b5 : Bool) (b6 : Bool)
    (h : Obs [Ret Try.prog 62 [AD.one (I n0), AD.one (I 0), AD.one (I 7)] [AD.one (B b5)], b5 = true, Ret Try.prog 142 [AD.agg [I n1, I n2]] [AD.one (B b6)], b6 = false]) :
    Ret Try.prog 117 [AD.agg [I n0, I n1, I n2, I n3, I n4]] [AD.one (B false)] :=
  .of [Ans.res [AD.one (B b5)], Ans.br true, Ans.res [AD.one (B b6)], Ans.br false] _ Try.func117 rfl (by kernel_rfl) h

theorem impl_RecordOk_p2 (n0 : Int) (n1 : Int) (n2 : Int) (n3 : Int) (n4 : Int) (b5 : Bool)
    (h : Obs [Ret Try.prog 62 [AD.one (I n0), AD.one (I 0), AD.one (I 7)] [AD.one (B b5)], b5 = false]) :
    Ret Try.prog 117 [AD.agg [I n0, I n1, I n2, I n3, I n4]] [AD.one (B false)] :=
  .of [Ans.res [AD.one (B b5)], Ans.br false] _ Try.func117 rfl (by kernel_rfl) h

/- loop.example/g00973/spec.StampOk -/

theorem spec_StampOk_p0 (n0 : Int) (n1 : Int) (b2 : Bool) (b3 : Bool)
    (h : Obs [Ret Try.prog 57 [AD.one (I n0), AD.one (I 0), AD.one (I 3)] [AD.one (B b2)], b2 = true, Ret Try.prog 57 [AD.one (I n1), AD.one (I 0), AD.one (I 6)] [AD.one (B b3)]]) :
    Ret Try.prog 136 [AD.agg [I n0, I n1]] [AD.one (B b3)] :=
  .of [Ans.res [AD.one (B b2)], Ans.br true, Ans.res [AD.one (B b3)]] _ Try.func136 rfl (by kernel_rfl) h

theorem spec_StampOk_p1 (n0 : Int) (n1 : Int) (b2 : Bool)
    (h : Obs [Ret Try.prog 57 [AD.one (I n0), AD.one (I 0), AD.one (I 3)] [AD.one (B b2)], b2 = false]) :
    Ret Try.prog 136 [AD.agg [I n0, I n1]] [AD.one (B false)] :=
  .of [Ans.res [AD.one (B b2)], Ans.br false] _ Try.func136 rfl (by kernel_rfl) h

/- loop.example/g00973/impl.StampOk -/

theorem impl_StampOk_p0 (n0 : Int) (n1 : Int) (b2 : Bool) (b3 : Bool)
    (h : Obs [Ret Try.prog 62 [AD.one (I n0), AD.one (I 0), AD.one (I 3)] [AD.one (B b2)], b2 = true, Ret Try.prog 62 [AD.one (I n1), AD.one (I 0), AD.one (I 6)] [AD.one (B b3)]]) :
    Ret Try.prog 142 [AD.agg [I n0, I n1]] [AD.one (B b3)] :=
  .of [Ans.res [AD.one (B b2)], Ans.br true, Ans.res [AD.one (B b3)]] _ Try.func142 rfl (by kernel_rfl) h

theorem impl_StampOk_p1 (n0 : Int) (n1 : Int) (b2 : Bool)
    (h : Obs [Ret Try.prog 62 [AD.one (I n0), AD.one (I 0), AD.one (I 3)] [AD.one (B b2)], b2 = false]) :
    Ret Try.prog 142 [AD.agg [I n0, I n1]] [AD.one (B false)] :=
  .of [Ans.res [AD.one (B b2)], Ans.br false] _ Try.func142 rfl (by kernel_rfl) h

/- loop.example/g00973/spec.NextTurn -/

theorem spec_NextTurn_p0 (n0 : Int) (n1 : Int) (b2 : Bool)
    (h : Obs [Ret Try.prog 136 [AD.agg [I n0, I n1]] [AD.one (B b2)], (!b2) = true]) :
    Ret Try.prog 137 [AD.agg [I n0, I n1]] [AD.agg [I n0, I n1], AD.one (B false)] :=
  .of [Ans.res [AD.one (B b2)], Ans.br true] _ Try.func137 rfl (by kernel_rfl) h

theorem spec_NextTurn_p1 (n0 : Int) (n1 : Int) (b2 : Bool)
    (h : Obs [Ret Try.prog 136 [AD.agg [I n0, I n1]] [AD.one (B b2)], (!b2) = false, decide (n1 ≥ 6) = true]) :
    Ret Try.prog 137 [AD.agg [I n0, I n1]] [AD.agg [I n0, I n1], AD.one (B false)] :=
  .of [Ans.res [AD.one (B b2)], Ans.br false, Ans.br true] _ Try.func137 rfl (by kernel_rfl) h

theorem spec_NextTurn_p2 (n0 : Int) (n1 : Int) (b2 : Bool)
    (h : Obs [Ret Try.prog 136 [AD.agg [I n0, I n1]] [AD.one (B b2)], (!b2) = false, decide (n1 ≥ 6) = false, inInt IntKind.i64 (n1 + 1)]) :
    Ret Try.prog 137 [AD.agg [I n0, I n1]] [AD.agg [I n0, I (n1 + 1)], AD.one (B true)] :=
  .of [Ans.res [AD.one (B b2)], Ans.br false, Ans.br false] _ Try.func137 rfl (by kernel_rfl) h

/- loop.example/g00973/impl.NextTurn -/

theorem impl_NextTurn_p0 (n0 : Int) (n1 : Int) (b2 : Bool)
    (h : Obs [Ret Try.prog 142 [AD.agg [I n0, I n1]] [AD.one (B b2)], (!b2) = true]) :
    Ret Try.prog 146 [AD.agg [I n0, I n1]] [AD.agg [I n0, I n1], AD.one (B false)] :=
  .of [Ans.res [AD.one (B b2)], Ans.br true] _ Try.func146 rfl (by kernel_rfl) h

theorem impl_NextTurn_p1 (n0 : Int) (n1 : Int) (b2 : Bool)
    (h : Obs [Ret Try.prog 142 [AD.agg [I n0, I n1]] [AD.one (B b2)], (!b2) = false, (n1 == 6) = true]) :
    Ret Try.prog 146 [AD.agg [I n0, I n1]] [AD.agg [I n0, I n1], AD.one (B false)] :=
  .of [Ans.res [AD.one (B b2)], Ans.br false, Ans.br true] _ Try.func146 rfl (by kernel_rfl) h

theorem impl_NextTurn_p2 (n0 : Int) (n1 : Int) (b2 : Bool)
    (h : Obs [Ret Try.prog 142 [AD.agg [I n0, I n1]] [AD.one (B b2)], (!b2) = false, (n1 == 6) = false, inInt IntKind.i64 (n1 + 1)]) :
    Ret Try.prog 146 [AD.agg [I n0, I n1]] [AD.agg [I n0, I (n1 + 1)], AD.one (B true)] :=
  .of [Ans.res [AD.one (B b2)], Ans.br false, Ans.br false] _ Try.func146 rfl (by kernel_rfl) h

/- loop.example/g00973/spec.Changed -/

theorem spec_Changed_p0 (n0 : Int) (n1 : Int) (n2 : Int) (l3 : List (List D)) (n4 : Int) (n5 : Int) (b6 : Bool)
    (h : Obs [Ret Try.prog 135 [AD.agg [I n0, I n1, I n2, D.sl 1 l3]] [AD.one (B b6)], (!b6) = true]) :
    Ret Try.prog 138 [AD.agg [I n0, I n1, I n2, D.sl 1 l3], AD.one (I n4), AD.one (I n5)] [AD.one (I n4), AD.one (I n5), AD.one (B false)] :=
  .of [Ans.res [AD.one (B b6)], Ans.br true] _ Try.func138 rfl (by kernel_rfl) h

theorem spec_Changed_p1 (n0 : Int) (n1 : Int) (n2 : Int) (l3 : List (List D)) (n4 : Int) (n5 : Int) (b6 : Bool) (b7 : Bool)
    (h : Obs [Ret Try.prog 135 [AD.agg [I n0, I n1, I n2, D.sl 1 l3]] [AD.one (B b6)], (!b6) = false, Ret Try.prog 57 [AD.one (I n4), AD.one (I 0), AD.one (I 99)] [AD.one (B b7)], (!b7) = true]) :
    Ret Try.prog 138 [AD.agg [I n0, I n1, I n2, D.sl 1 l3], AD.one (I n4), AD.one (I n5)] [AD.one (I n4), AD.one (I n5), AD.one (B false)] :=
  .of [Ans.res [AD.one (B b6)], Ans.br false, Ans.res [AD.one (B b7)], Ans.br true] _ Try.func138 rfl (by kernel_rfl) h

theorem spec_Changed_p2 (n0 : Int) (n1 : Int) (n2 : Int) (l3 : List (List D)) (n4 : Int) (n5 : Int) (b6 : Bool) (b7 : Bool) (b8 : Bool)
    (h : Obs [Ret Try.prog 135 [AD.agg [I n0, I n1, I n2, D.sl 1 l3]] [AD.one (B b6)], (!b6) = false, Ret Try.prog 57 [AD.one (I n4), AD.one (I 0), AD.one (I 99)] [AD.one (B b7)], (!b7) = false, Ret Try.prog 57 [AD.one (I n5), AD.one (I 0), AD.one (I 999)] [AD.one (B b8)], (!b8) = true]) :
    Ret Try.prog 138 [AD.agg [I n0, I n1, I n2, D.sl 1 l3], AD.one (I n4), AD.one (I n5)] [AD.one (I n4), AD.one (I n5), AD.one (B false)] :=
  .of [Ans.res [AD.one (B b6)], Ans.br false, Ans.res [AD.one (B b7)], Ans.br false, Ans.res [AD.one (B b8)], Ans.br true] _ Try.func138 rfl (by kernel_rfl) h

theorem spec_Changed_p3 (n0 : Int) (n1 : Int) (n2 : Int) (l3 : List (List D)) (n4 : Int) (n5 : Int) (b6 : Bool) (b7 : Bool) (b8 : Bool) (n9 : Int)
    (h : Obs [Ret Try.prog 135 [AD.agg [I n0, I n1, I n2, D.sl 1 l3]] [AD.one (B b6)], (!b6) = false, Ret Try.prog 57 [AD.one (I n4), AD.one (I 0), AD.one (I 99)] [AD.one (B b7)], (!b7) = false, Ret Try.prog 57 [AD.one (I n5), AD.one (I 0), AD.one (I 999)] [AD.one (B b8)], (!b8) = false, (n0 == 2) = true, inInt IntKind.i64 (n5 + n1), Ret Try.prog 153 [AD.one (I (n5 + n1)), AD.one (I 999)] [AD.one (I n9)]]) :
    Ret Try.prog 138 [AD.agg [I n0, I n1, I n2, D.sl 1 l3], AD.one (I n4), AD.one (I n5)] [AD.one (I n4), AD.one (I n9), AD.one (B true)] :=
  .of [Ans.res [AD.one (B b6)], Ans.br false, Ans.res [AD.one (B b7)], Ans.br false, Ans.res [AD.one (B b8)], Ans.br false, Ans.br true, Ans.res [AD.one (I n9)]] _ Try.func138 rfl (by kernel_rfl) h

theorem spec_Changed_p4 (n0 : Int) (n1 : Int) (n2 : Int) (l3 : List (List D)) (n4 : Int) (n5 : Int) (b6 : Bool) (b7 : Bool) (b8 : Bool)
    (h : Obs [Ret Try.prog 135 [AD.agg [I n0, I n1, I n2, D.sl 1 l3]] [AD.one (B b6)], (!b6) = false, Ret Try.prog 57 [AD.one (I n4), AD.one (I 0), AD.one (I 99)] [AD.one (B b7)], (!b7) = false, Ret Try.prog 57 [AD.one (I n5), AD.one (I 0), AD.one (I 999)] [AD.one (B b8)], (!b8) = false, (n0 == 2) = false, (n0 == 4) = true, inInt IntKind.i64 (n4 + n1), (100 : Int) ≠ 0]) :
    Ret Try.prog 138 [AD.agg [I n0, I n1, I n2, D.sl 1 l3], AD.one (I n4), AD.one (I n5)] [AD.one (I ((n4 + n1).tmod 100)), AD.one (I n5), AD.one (B true)] :=
  .of [Ans.res [AD.one (B b6)], Ans.br false, Ans.res [AD.one (B b7)], Ans.br false, Ans.res [AD.one (B b8)], Ans.br false, Ans.br false, Ans.br true] _ Try.func138 rfl (by kernel_rfl) h

theorem spec_Changed_p5 (n0 : Int) (n1 : Int) (n2 : Int) (l3 : List (List D)) (n4 : Int) (n5 : Int) (b6 : Bool) (b7 : Bool) (b8 : Bool)
    (h : Obs [Ret Try.prog 135 [AD.agg [I n0, I n1, I n2, D.sl 1 l3]] [AD.one (B b6)], (!b6) = false, Ret Try.prog 57 [AD.one (I n4), AD.one (I 0), AD.one (I 99)] [AD.one (B b7)], (!b7) = false, Ret Try.prog 57 [AD.one (I n5), AD.one (I 0), AD.one (I 999)] [AD.one (B b8)], (!b8) = false, (n0 == 2) = false, (n0 == 4) = false, (n0 == 3) = true, n1 ≠ 0]) :
    Ret Try.prog 138 [AD.agg [I n0, I n1, I n2, D.sl 1 l3], AD.one (I n4), AD.one (I n5)] [AD.one (I n4), AD.one (I n5), AD.one (B (n4.tmod n1 == n2))] :=
  .of [Ans.res [AD.one (B b6)], Ans.br false, Ans.res [AD.one (B b7)], Ans.br false, Ans.res [AD.one (B b8)], Ans.br false, Ans.br false, Ans.br false, Ans.br true] _ Try.func138 rfl (by kernel_rfl) h

theorem spec_Changed_p6 (n0 : Int) (n1 : Int) (n2 : Int) (l3 : List (List D)) (n4 : Int) (n5 : Int) (b6 : Bool) (b7 : Bool) (b8 : Bool)
    (h : Obs [Ret Try.prog 135 [AD.agg [I n0, I n1, I n2, D.sl 1 l3]] [AD.one (B b6)], (!b6) = false, Ret Try.prog 57 [AD.one (I n4), AD.one (I 0), AD.one (I 99)] [AD.one (B b7)], (!b7) = false, Ret Try.prog 57 [AD.one (I n5), AD.one (I 0), AD.one (I 999)] [AD.one (B b8)], (!b8) = false, (n0 == 2) = false, (n0 == 4) = false, (n0 == 3) = false]) :
    Ret Try.prog 138 [AD.agg [I n0, I n1, I n2, D.sl 1 l3], AD.one (I n4), AD.one (I n5)] [AD.one (I n4), AD.one (I n5), AD.one (B (n0 != 8))] :=
  .of [Ans.res [AD.one (B b6)], Ans.br false, Ans.res [AD.one (B b7)], Ans.br false, Ans.res [AD.one (B b8)], Ans.br false, Ans.br false, Ans.br false, Ans.br false] _ Try.func138 rfl (by kernel_rfl) h

/- loop.example/g00973/impl.Changed -/

theorem impl_Changed_p0 (n0 : Int) (n1 : Int) (n2 : Int) (l3 : List (List D)) (n4 : Int) (n5 : Int) (b6 : Bool)
    (h : Obs [Ret Try.prog 141 [AD.agg [I n0, I n1, I n2, D.sl 1 l3]] [AD.one (B b6)], (!b6) = true]) :
    Ret Try.prog 144 [AD.agg [I n0, I n1, I n2, D.sl 1 l3], AD.one (I n4), AD.one (I n5)] [AD.one (I n4), AD.one (I n5), AD.one (B false)] :=
  .of [Ans.res [AD.one (B b6)], Ans.br true] _ Try.func144 rfl (by kernel_rfl) h

theorem impl_Changed_p1 (n0 : Int) (n1 : Int) (n2 : Int) (l3 : List (List D)) (n4 : Int) (n5 : Int) (b6 : Bool) (b7 : Bool)
    (h : Obs [Ret Try.prog 141 [AD.agg [I n0, I n1, I n2, D.sl 1 l3]] [AD.one (B b6)], (!b6) = false, Ret Try.prog 143 [AD.one (I n4), AD.one (I n5)] [AD.one (B b7)], (!b7) = true]) :
    Ret Try.prog 144 [AD.agg [I n0, I n1, I n2, D.sl 1 l3], AD.one (I n4), AD.one (I n5)] [AD.one (I n4), AD.one (I n5), AD.one (B false)] :=
  .of [Ans.res [AD.one (B b6)], Ans.br false, Ans.res [AD.one (B b7)], Ans.br true] _ Try.func144 rfl (by kernel_rfl) h

theorem impl_Changed_p2 (n0 : Int) (n1 : Int) (n2 : Int) (l3 : List (List D)) (n4 : Int) (n5 : Int) (b6 : Bool) (b7 : Bool)
    (h : Obs [Ret Try.prog 141 [AD.agg [I n0, I n1, I n2, D.sl 1 l3]] [AD.one (B b6)], (!b6) = false, Ret Try.prog 143 [AD.one (I n4), AD.one (I n5)] [AD.one (B b7)], (!b7) = false, (n0 == 2) = true, inInt IntKind.i64 (n5 + n1)]) :
    Ret Try.prog 144 [AD.agg [I n0, I n1, I n2, D.sl 1 l3], AD.one (I n4), AD.one (I n5)] [AD.one (I n4), AD.one (I (if n5 + n1 < 999 then n5 + n1 else 999)), AD.one (B true)] :=
  .of [Ans.res [AD.one (B b6)], Ans.br false, Ans.res [AD.one (B b7)], Ans.br false, Ans.br true] _ Try.func144 rfl (by kernel_rfl) h

theorem impl_Changed_p3 (n0 : Int) (n1 : Int) (n2 : Int) (l3 : List (List D)) (n4 : Int) (n5 : Int) (b6 : Bool) (b7 : Bool)
    (h : Obs [Ret Try.prog 141 [AD.agg [I n0, I n1, I n2, D.sl 1 l3]] [AD.one (B b6)], (!b6) = false, Ret Try.prog 143 [AD.one (I n4), AD.one (I n5)] [AD.one (B b7)], (!b7) = false, (n0 == 2) = false, (n0 == 4) = true, inInt IntKind.i64 (n4 + n1), (100 : Int) ≠ 0]) :
    Ret Try.prog 144 [AD.agg [I n0, I n1, I n2, D.sl 1 l3], AD.one (I n4), AD.one (I n5)] [AD.one (I ((n4 + n1).tmod 100)), AD.one (I n5), AD.one (B true)] :=
  .of [Ans.res [AD.one (B b6)], Ans.br false, Ans.res [AD.one (B b7)], Ans.br false, Ans.br false, Ans.br true] _ Try.func144 rfl (by kernel_rfl) h

theorem impl_Changed_p4 (n0 : Int) (n1 : Int) (n2 : Int) (l3 : List (List D)) (n4 : Int) (n5 : Int) (b6 : Bool) (b7 : Bool)
    (h : Obs [Ret Try.prog 141 [AD.agg [I n0, I n1, I n2, D.sl 1 l3]] [AD.one (B b6)], (!b6) = false, Ret Try.prog 143 [AD.one (I n4), AD.one (I n5)] [AD.one (B b7)], (!b7) = false, (n0 == 2) = false, (n0 == 4) = false, (n0 == 3) = true, n1 ≠ 0]) :
    Ret Try.prog 144 [AD.agg [I n0, I n1, I n2, D.sl 1 l3], AD.one (I n4), AD.one (I n5)] [AD.one (I n4), AD.one (I n5), AD.one (B (n4.tmod n1 == n2))] :=
  .of [Ans.res [AD.one (B b6)], Ans.br false, Ans.res [AD.one (B b7)], Ans.br false, Ans.br false, Ans.br false, Ans.br true] _ Try.func144 rfl (by kernel_rfl) h

theorem impl_Changed_p5 (n0 : Int) (n1 : Int) (n2 : Int) (l3 : List (List D)) (n4 : Int) (n5 : Int) (b6 : Bool) (b7 : Bool)
    (h : Obs [Ret Try.prog 141 [AD.agg [I n0, I n1, I n2, D.sl 1 l3]] [AD.one (B b6)], (!b6) = false, Ret Try.prog 143 [AD.one (I n4), AD.one (I n5)] [AD.one (B b7)], (!b7) = false, (n0 == 2) = false, (n0 == 4) = false, (n0 == 3) = false]) :
    Ret Try.prog 144 [AD.agg [I n0, I n1, I n2, D.sl 1 l3], AD.one (I n4), AD.one (I n5)] [AD.one (I n4), AD.one (I n5), AD.one (B (n0 != 8))] :=
  .of [Ans.res [AD.one (B b6)], Ans.br false, Ans.res [AD.one (B b7)], Ans.br false, Ans.br false, Ans.br false, Ans.br false] _ Try.func144 rfl (by kernel_rfl) h

/- loop.example/g00973/spec.l02Less -/

theorem spec_l02Less_p0 (n0 : Int) (n1 : Int)
    (h : Obs [decide (n1 < n0) = true]) :
    Ret Try.prog 153 [AD.one (I n0), AD.one (I n1)] [AD.one (I n1)] :=
  .of [Ans.br true] _ Try.func153 rfl (by kernel_rfl) h

theorem spec_l02Less_p1 (n0 : Int) (n1 : Int)
    (h : Obs [decide (n1 < n0) = false]) :
    Ret Try.prog 153 [AD.one (I n0), AD.one (I n1)] [AD.one (I n0)] :=
  .of [Ans.br false] _ Try.func153 rfl (by kernel_rfl) h

/- loop.example/g00973/impl.itemOk -/

theorem impl_itemOk_p0 (n0 : Int) (n1 : Int) (b2 : Bool) (b3 : Bool)
    (h : Obs [Ret Try.prog 62 [AD.one (I n0), AD.one (I 0), AD.one (I 99)] [AD.one (B b2)], b2 = true, Ret Try.prog 62 [AD.one (I n1), AD.one (I 0), AD.one (I 999)] [AD.one (B b3)]]) :
    Ret Try.prog 143 [AD.one (I n0), AD.one (I n1)] [AD.one (B b3)] :=
  .of [Ans.res [AD.one (B b2)], Ans.br true, Ans.res [AD.one (B b3)]] _ Try.func143 rfl (by kernel_rfl) h

theorem impl_itemOk_p1 (n0 : Int) (n1 : Int) (b2 : Bool)
    (h : Obs [Ret Try.prog 62 [AD.one (I n0), AD.one (I 0), AD.one (I 99)] [AD.one (B b2)], b2 = false]) :
    Ret Try.prog 143 [AD.one (I n0), AD.one (I n1)] [AD.one (B false)] :=
  .of [Ans.res [AD.one (B b2)], Ans.br false] _ Try.func143 rfl (by kernel_rfl) h

end Go.Proofs.Ytbbjajmimckabaa
