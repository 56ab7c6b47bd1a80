import Derived.Test.YtcdpehhhkfdoaaaRows
import Derived.Test.YtcdpehhhkfdoaaaR17
set_option linter.unusedVariables false
set_option linter.unusedSimpArgs false
namespace Go.Proofs.Ytcdpehhhkfdoaaa
open Go.Sx Go.RowKit

/- loop.example/g00973/spec.l01In -/

theorem spec_l01In_p0 (n0 : Int) (n1 : Int) (n2 : Int)
    (h : Obs [decide (n0 ≥ n1) = true]) :
    Ret Try.prog 90 [AD.one (I n0), AD.one (I n1), AD.one (I n2)] [AD.one (B (decide (n0 ≤ n2)))] :=
  .of [Ans.br true] _ Try.func90 rfl (by kernel_rfl) h

theorem spec_l01In_p1 (n0 : Int) (n1 : Int) (n2 : Int)
    (h : Obs [decide (n0 ≥ n1) = false]) :
    Ret Try.prog 90 [AD.one (I n0), AD.one (I n1), AD.one (I n2)] [AD.one (B false)] :=
  .of [Ans.br false] _ Try.func90 rfl (by kernel_rfl) h

/- loop.example/g00973/impl.within -/

theorem impl_within_p0 (n0 : Int) (n1 : Int) (n2 : Int)
    (h : Obs [decide (n0 ≥ n1) = true]) :
    Ret Try.prog 91 [AD.one (I n0), AD.one (I n1), AD.one (I n2)] [AD.one (B (decide (n0 ≤ n2)))] :=
  .of [Ans.br true] _ Try.func91 rfl (by kernel_rfl) h

theorem impl_within_p1 (n0 : Int) (n1 : Int) (n2 : Int)
    (h : Obs [decide (n0 ≥ n1) = false]) :
    Ret Try.prog 91 [AD.one (I n0), AD.one (I n1), AD.one (I n2)] [AD.one (B false)] :=
  .of [Ans.br false] _ Try.func91 rfl (by kernel_rfl) h

/- loop.example/g00973/spec.DoneOf -/

def spec_DoneOf_L0 (n0 : Int) (n1 : Int) (n2 : Int) (b3 : Bool) (l4 : List (List D)) (l5 : List (List D)) (l6 : List (List D)) (l7 : List (List D)) (l8 : List (List D)) (l9 : List (List D)) (l10 : List (List D)) (l11 : List (List D)) : St :=
  { env := envOf 28 [(1, PV.al (AL.one (Leaf.v (Value.int IntKind.i64 n0)))), (2, PV.al (AL.one (Leaf.ptr 2 0))), (4, PV.al (AL.one (Leaf.ptr 4 0))), (6, PV.al (AL.one (Leaf.v (Value.int IntKind.i64 n1))))], boxes := [(4, [Leaf.v (Value.int IntKind.i64 n2), Leaf.sb b3]), (2, [Leaf.sl Tag.free 5 l4, Leaf.sl Tag.free 5 l5, Leaf.sl Tag.free 5 l6, Leaf.sl Tag.free 4 l7, Leaf.sl Tag.free 1 l8, Leaf.sl Tag.free 1 l9, Leaf.sl Tag.free 1 l10, Leaf.sl Tag.free 2 l11])] }

def spec_DoneOf_X0 (b0 : Bool) (n1 : Int) (b2 : Bool) : St :=
  { env := envOf 28 [(4, PV.al (AL.one (Leaf.ptr 4 0))), (5, PV.al (AL.one (Leaf.sb b0)))], boxes := [(4, [Leaf.v (Value.int IntKind.i64 n1), Leaf.sb b2])] }

theorem spec_DoneOf_L0_x0 (n8 : Int) (n9 : Int) (n10 : Int) (b11 : Bool) (l12 : List (List D)) (l13 : List (List D)) (l14 : List (List D)) (l15 : List (List D)) (l16 : List (List D)) (l17 : List (List D)) (l18 : List (List D)) (l19 : List (List D)) (n20 : Int) (b21 : Bool) (n22 : Int) (b23 : Bool)
    (h : Obs [decide (n9 < (↑l19.length : Int)) = true, 0 ≤ n9, n9 < (↑l19.length : Int), l19[n9.toNat]? = some [I n20, B b21], (n20 == n8) = true, 0 ≤ n9, n9 < (↑l19.length : Int), l19[n9.toNat]? = some [I n22, B b23]]) :
    Tr Try.prog (loopOf Try.f24 0) (spec_DoneOf_L0 n8 n9 n10 b11 l12 l13 l14 l15 l16 l17 l18 l19) Ex.ret (spec_DoneOf_X0 true n22 b23) :=
  .of_loopc (ks := [4, 5]) (bs := [4]) (ans := [Ans.br true, Ans.el [I n20, B b21], Ans.br true, Ans.el [I n22, B b23]]) (by kernel_rfl) h

theorem spec_DoneOf_L0_s1 (n8 : Int) (n9 : Int) (n10 : Int) (b11 : Bool) (l12 : List (List D)) (l13 : List (List D)) (l14 : List (List D)) (l15 : List (List D)) (l16 : List (List D)) (l17 : List (List D)) (l18 : List (List D)) (l19 : List (List D)) (n20 : Int) (b21 : Bool)
    (h : Obs [decide (n9 < (↑l19.length : Int)) = true, 0 ≤ n9, n9 < (↑l19.length : Int), l19[n9.toNat]? = some [I n20, B b21], (n20 == n8) = false, inInt IntKind.i64 (n9 + 1)]) :
    Tr Try.prog (loopOf Try.f24 0) (spec_DoneOf_L0 n8 n9 n10 b11 l12 l13 l14 l15 l16 l17 l18 l19) Ex.normal (spec_DoneOf_L0 n8 (n9 + 1) n10 b11 l12 l13 l14 l15 l16 l17 l18 l19) :=
  .of_loopc (ks := [6, 2, 1, 4]) (bs := [4, 2]) (ans := [Ans.br true, Ans.el [I n20, B b21], Ans.br false]) (by kernel_rfl) h

def spec_DoneOf_X0v2 (n0 : Int) (b1 : Bool) : St :=
  { env := envOf 28 [(4, PV.al (AL.one (Leaf.ptr 4 0)))], boxes := [(4, [Leaf.v (Value.int IntKind.i64 n0), Leaf.sb b1])] }

theorem spec_DoneOf_L0_x2 (n8 : Int) (n9 : Int) (n10 : Int) (b11 : Bool) (l12 : List (List D)) (l13 : List (List D)) (l14 : List (List D)) (l15 : List (List D)) (l16 : List (List D)) (l17 : List (List D)) (l18 : List (List D)) (l19 : List (List D))
    (h : Obs [decide (n9 < (↑l19.length : Int)) = false]) :
    Tr Try.prog (loopOf Try.f24 0) (spec_DoneOf_L0 n8 n9 n10 b11 l12 l13 l14 l15 l16 l17 l18 l19) (Ex.exit 0) (spec_DoneOf_X0v2 n10 b11) :=
  .of_loopc (ks := [4]) (bs := [4]) (ans := [Ans.br false]) (by kernel_rfl) h

theorem spec_DoneOf_p0 (l0 : List (List D)) (l1 : List (List D)) (l2 : List (List D)) (l3 : List (List D)) (l4 : List (List D)) (l5 : List (List D)) (l6 : List (List D)) (l7 : List (List D)) (n8 : Int) (b9 : Bool) (n10 : Int) (b11 : Bool)
    (h : Obs [LoopOk Try.prog (loopOf Try.f24 0) (spec_DoneOf_L0 n8 0 0 false l0 l1 l2 l3 l4 l5 l6 l7) Ex.ret (spec_DoneOf_X0 b9 n10 b11)]) :
    Ret Try.prog 24 [AD.agg [D.sl 5 l0, D.sl 5 l1, D.sl 5 l2, D.sl 4 l3, D.sl 1 l4, D.sl 1 l5, D.sl 1 l6, D.sl 2 l7], AD.one (I n8)] [AD.agg [I n10, B b11], AD.one (B b9)] :=
  .of [Ans.loop [] [6, 2, 1, 4] [4, 2] Ex.ret (spec_DoneOf_X0 b9 n10 b11)] _ Try.func24 rfl (by kernel_rfl) h

theorem spec_DoneOf_p1 (l0 : List (List D)) (l1 : List (List D)) (l2 : List (List D)) (l3 : List (List D)) (l4 : List (List D)) (l5 : List (List D)) (l6 : List (List D)) (l7 : List (List D)) (n8 : Int) (n9 : Int) (b10 : Bool)
    (h : Obs [LoopOk Try.prog (loopOf Try.f24 0) (spec_DoneOf_L0 n8 0 0 false l0 l1 l2 l3 l4 l5 l6 l7) (Ex.exit 0) (spec_DoneOf_X0v2 n9 b10)]) :
    Ret Try.prog 24 [AD.agg [D.sl 5 l0, D.sl 5 l1, D.sl 5 l2, D.sl 4 l3, D.sl 1 l4, D.sl 1 l5, D.sl 1 l6, D.sl 2 l7], AD.one (I n8)] [AD.agg [I 0, B false], AD.one (B false)] :=
  .of [Ans.loop [] [6, 2, 1, 4] [4, 2] (Ex.exit 0) (spec_DoneOf_X0v2 n9 b10)] _ Try.func24 rfl (by kernel_rfl) h

/- loop.example/g00973/impl.DoneOf -/

def impl_DoneOf_L0 (l0 : List (List D)) (n1 : Int) (n2 : Int) (n3 : Int) (b4 : Bool) : St :=
  { env := envOf 22 [(1, PV.al (AL.one (Leaf.v (Value.int IntKind.i64 n1)))), (4, PV.al (AL.one (Leaf.ptr 4 0))), (9, PV.al (AL.one (Leaf.sl Tag.free 2 l0))), (10, PV.al (AL.one (Leaf.v (Value.int IntKind.i64 (↑l0.length : Int))))), (11, PV.al (AL.one (Leaf.v (Value.int IntKind.i64 n2))))], boxes := [(4, [Leaf.v (Value.int IntKind.i64 n3), Leaf.sb b4])] }

def impl_DoneOf_X0 (b0 : Bool) (n1 : Int) (b2 : Bool) : St :=
  { env := envOf 22 [(4, PV.al (AL.one (Leaf.ptr 4 0))), (5, PV.al (AL.one (Leaf.sb b0)))], boxes := [(4, [Leaf.v (Value.int IntKind.i64 n1), Leaf.sb b2])] }

theorem impl_DoneOf_L0_x0 (l7 : List (List D)) (n8 : Int) (n9 : Int) (n10 : Int) (b11 : Bool) (n12 : Int) (b13 : Bool)
    (h : Obs [decide (n9 < (↑l7.length : Int)) = true, 0 ≤ n9, n9 < (↑l7.length : Int), l7[n9.toNat]? = some [I n12, B b13], (n12 == n8) = true]) :
    Tr Try.prog (loopOf Try.f26 0) (impl_DoneOf_L0 l7 n8 n9 n10 b11) Ex.ret (impl_DoneOf_X0 true n12 b13) :=
  .of_loopc (ks := [4, 5]) (bs := [4]) (ans := [Ans.br true, Ans.el [I n12, B b13], Ans.br true]) (by kernel_rfl) h

theorem impl_DoneOf_L0_s1 (l7 : List (List D)) (n8 : Int) (n9 : Int) (n10 : Int) (b11 : Bool) (n12 : Int) (b13 : Bool)
    (h : Obs [decide (n9 < (↑l7.length : Int)) = true, 0 ≤ n9, n9 < (↑l7.length : Int), l7[n9.toNat]? = some [I n12, B b13], (n12 == n8) = false, inInt IntKind.i64 (n9 + 1)]) :
    Tr Try.prog (loopOf Try.f26 0) (impl_DoneOf_L0 l7 n8 n9 n10 b11) Ex.normal (impl_DoneOf_L0 l7 n8 (n9 + 1) n10 b11) :=
  .of_loopc (ks := [11, 10, 9, 1, 4]) (bs := [4]) (ans := [Ans.br true, Ans.el [I n12, B b13], Ans.br false]) (by kernel_rfl) h

def impl_DoneOf_X0v2 (n0 : Int) (b1 : Bool) : St :=
  { env := envOf 22 [(4, PV.al (AL.one (Leaf.ptr 4 0)))], boxes := [(4, [Leaf.v (Value.int IntKind.i64 n0), Leaf.sb b1])] }

theorem impl_DoneOf_L0_x2 (l7 : List (List D)) (n8 : Int) (n9 : Int) (n10 : Int) (b11 : Bool)
    (h : Obs [decide (n9 < (↑l7.length : Int)) = false]) :
    Tr Try.prog (loopOf Try.f26 0) (impl_DoneOf_L0 l7 n8 n9 n10 b11) (Ex.exit 0) (impl_DoneOf_X0v2 n10 b11) :=
  .of_loopc (ks := [4]) (bs := [4]) (ans := [Ans.br false]) (by kernel_rfl) h

theorem impl_DoneOf_p0 (l0 : List (List D)) (l1 : List (List D)) (l2 : List (List D)) (l3 : List (List D)) (l4 : List (List D)) (l5 : List (List D)) (l6 : List (List D)) (l7 : List (List D)) (n8 : Int) (b9 : Bool) (n10 : Int) (b11 : Bool)
    (h : Obs [LoopOk Try.prog (loopOf Try.f26 0) (impl_DoneOf_L0 l7 n8 0 0 false) Ex.ret (impl_DoneOf_X0 b9 n10 b11)]) :
    Ret Try.prog 26 [AD.agg [D.sl 5 l0, D.sl 5 l1, D.sl 5 l2, D.sl 4 l3, D.sl 1 l4, D.sl 1 l5, D.sl 1 l6, D.sl 2 l7], AD.one (I n8)] [AD.agg [I n10, B b11], AD.one (B b9)] :=
  .of [Ans.loop [] [11, 10, 9, 1, 4] [4] Ex.ret (impl_DoneOf_X0 b9 n10 b11)] _ Try.func26 rfl (by kernel_rfl) h

theorem impl_DoneOf_p1 (l0 : List (List D)) (l1 : List (List D)) (l2 : List (List D)) (l3 : List (List D)) (l4 : List (List D)) (l5 : List (List D)) (l6 : List (List D)) (l7 : List (List D)) (n8 : Int) (n9 : Int) (b10 : Bool)
    (h : Obs [LoopOk Try.prog (loopOf Try.f26 0) (impl_DoneOf_L0 l7 n8 0 0 false) (Ex.exit 0) (impl_DoneOf_X0v2 n9 b10)]) :
    Ret Try.prog 26 [AD.agg [D.sl 5 l0, D.sl 5 l1, D.sl 5 l2, D.sl 4 l3, D.sl 1 l4, D.sl 1 l5, D.sl 1 l6, D.sl 2 l7], AD.one (I n8)] [AD.agg [I 0, B false], AD.one (B false)] :=
  .of [Ans.loop [] [11, 10, 9, 1, 4] [4] (Ex.exit 0) (impl_DoneOf_X0v2 n9 b10)] _ Try.func26 rfl (by kernel_rfl) h

/- loop.example/g00973/spec.CreditsIn -/

def spec_CreditsIn_L0 (l0 : List (List D)) (n1 : Int) (n2 : Int) (l3 : List (List D)) (l4 : List (List D)) (l5 : List (List D)) (l6 : List (List D)) (n7 : Int) (n8 : Int) : St :=
  { env := envOf 28 [(1, PV.al (AL.one (Leaf.ptr 1 0))), (3, PV.al (AL.one (Leaf.v (Value.int IntKind.i64 n8)))), (4, PV.al (AL.one (Leaf.v (Value.int IntKind.i64 n7))))], boxes := [(1, [Leaf.sl Tag.free 4 l0, Leaf.v (Value.int IntKind.i64 n1), Leaf.v (Value.int IntKind.i64 n2), Leaf.sl Tag.free 8 l3, Leaf.sl Tag.free 6 l4, Leaf.sl Tag.free 5 l5, Leaf.sl Tag.free 3 l6])] }

theorem spec_CreditsIn_L0_s0 (l0 : List (List D)) (n1 : Int) (n2 : Int) (l3 : List (List D)) (l4 : List (List D)) (l5 : List (List D)) (l6 : List (List D)) (n7 : Int) (n8 : Int) (n9 : Int) (l10 : List (List D)) (n11 : Int) (n12 : Int) (n13 : Int) (n14 : Int) (n15 : Int) (l16 : List (List D)) (n17 : Int) (n18 : Int) (n19 : Int) (n20 : Int)
    (h : Obs [decide (n7 < (↑l4.length : Int)) = true, 0 ≤ n7, n7 < (↑l4.length : Int), l4[n7.toNat]? = some [I n9, D.sl 5 l10, I n11, I n12, I n13, I n14], 0 ≤ n7, n7 < (↑l4.length : Int), l4[n7.toNat]? = some [I n15, D.sl 5 l16, I n17, I n18, I n19, I n20], inInt IntKind.i64 (n7 + 1)]) :
    Tr Try.prog (loopOf Try.f30 0) (spec_CreditsIn_L0 l0 n1 n2 l3 l4 l5 l6 n7 n8) Ex.normal (spec_CreditsIn_L0 l0 n1 n2 l3 l4 l5 l6 (n7 + 1) (IntKind.i64.wrap (IntKind.i64.wrap (n8 + n11) + n18))) :=
  .of_loopc (ks := [4, 1, 3]) (bs := [1]) (ans := [Ans.br true, Ans.el [I n9, D.sl 5 l10, I n11, I n12, I n13, I n14], Ans.wr, Ans.el [I n15, D.sl 5 l16, I n17, I n18, I n19, I n20], Ans.wr]) (by kernel_rfl) h

def spec_CreditsIn_X0 (n0 : Int) : St :=
  { env := envOf 28 [(3, PV.al (AL.one (Leaf.v (Value.int IntKind.i64 n0))))], boxes := [] }

theorem spec_CreditsIn_L0_x1 (l0 : List (List D)) (n1 : Int) (n2 : Int) (l3 : List (List D)) (l4 : List (List D)) (l5 : List (List D)) (l6 : List (List D)) (n7 : Int) (n8 : Int)
    (h : Obs [decide (n7 < (↑l4.length : Int)) = false]) :
    Tr Try.prog (loopOf Try.f30 0) (spec_CreditsIn_L0 l0 n1 n2 l3 l4 l5 l6 n7 n8) (Ex.exit 0) (spec_CreditsIn_X0 n8) :=
  .of_loopc (ks := [3]) (bs := []) (ans := [Ans.br false]) (by kernel_rfl) h

theorem spec_CreditsIn_p0 (l0 : List (List D)) (n1 : Int) (n2 : Int) (l3 : List (List D)) (l4 : List (List D)) (l5 : List (List D)) (l6 : List (List D)) (n7 : Int)
    (h : Obs [LoopOk Try.prog (loopOf Try.f30 0) (spec_CreditsIn_L0 l0 n1 n2 l3 l4 l5 l6 0 0) (Ex.exit 0) (spec_CreditsIn_X0 n7)]) :
    Ret Try.prog 30 [AD.agg [D.sl 4 l0, I n1, I n2, D.sl 8 l3, D.sl 6 l4, D.sl 5 l5, D.sl 3 l6]] [AD.one (I n7)] :=
  .of [Ans.loop [] [4, 1, 3] [1] (Ex.exit 0) (spec_CreditsIn_X0 n7)] _ Try.func30 rfl (by kernel_rfl) h

/- loop.example/g00973/impl.CreditsIn -/

def impl_CreditsIn_L0 (l0 : List (List D)) (n1 : Int) (n2 : Int) : St :=
  { env := envOf 22 [(3, PV.al (AL.one (Leaf.v (Value.int IntKind.i64 n2)))), (7, PV.al (AL.one (Leaf.sl Tag.free 6 l0))), (8, PV.al (AL.one (Leaf.v (Value.int IntKind.i64 (↑l0.length : Int))))), (9, PV.al (AL.one (Leaf.v (Value.int IntKind.i64 n1))))], boxes := [] }

theorem impl_CreditsIn_L0_s0 (l4 : List (List D)) (n7 : Int) (n8 : Int) (n9 : Int) (l10 : List (List D)) (n11 : Int) (n12 : Int) (n13 : Int) (n14 : Int)
    (h : Obs [decide (n7 < (↑l4.length : Int)) = true, 0 ≤ n7, n7 < (↑l4.length : Int), l4[n7.toNat]? = some [I n9, D.sl 5 l10, I n11, I n12, I n13, I n14], inInt IntKind.i64 (n7 + 1)]) :
    Tr Try.prog (loopOf Try.f32 0) (impl_CreditsIn_L0 l4 n7 n8) Ex.normal (impl_CreditsIn_L0 l4 (n7 + 1) (IntKind.i64.wrap (n8 + IntKind.i64.wrap (n11 + n12)))) :=
  .of_loopc (ks := [9, 8, 7, 3]) (bs := []) (ans := [Ans.br true, Ans.el [I n9, D.sl 5 l10, I n11, I n12, I n13, I n14], Ans.wr, Ans.wr]) (by kernel_rfl) h

def impl_CreditsIn_X0 (n0 : Int) : St :=
  { env := envOf 22 [(3, PV.al (AL.one (Leaf.v (Value.int IntKind.i64 n0))))], boxes := [] }

theorem impl_CreditsIn_L0_x1 (l4 : List (List D)) (n7 : Int) (n8 : Int)
    (h : Obs [decide (n7 < (↑l4.length : Int)) = false]) :
    Tr Try.prog (loopOf Try.f32 0) (impl_CreditsIn_L0 l4 n7 n8) (Ex.exit 0) (impl_CreditsIn_X0 n8) :=
  .of_loopc (ks := [3]) (bs := []) (ans := [Ans.br false]) (by kernel_rfl) h

theorem impl_CreditsIn_p0 (l0 : List (List D)) (n1 : Int) (n2 : Int) (l3 : List (List D)) (l4 : List (List D)) (l5 : List (List D)) (l6 : List (List D)) (n7 : Int)
    (h : Obs [LoopOk Try.prog (loopOf Try.f32 0) (impl_CreditsIn_L0 l4 0 0) (Ex.exit 0) (impl_CreditsIn_X0 n7)]) :
    Ret Try.prog 32 [AD.agg [D.sl 4 l0, I n1, I n2, D.sl 8 l3, D.sl 6 l4, D.sl 5 l5, D.sl 3 l6]] [AD.one (I n7)] :=
  .of [Ans.loop [] [9, 8, 7, 3] [] (Ex.exit 0) (impl_CreditsIn_X0 n7)] _ Try.func32 rfl (by kernel_rfl) h

/- loop.example/g00973/spec.CreditsOk -/

def spec_CreditsOk_L0 (n0 : Int) (l1 : List (List D)) (n2 : Int) (n3 : Int) (l4 : List (List D)) (l5 : List (List D)) (l6 : List (List D)) (l7 : List (List D)) : St :=
  { env := envOf 45 [(1, PV.al (AL.one (Leaf.ptr 1 0))), (3, PV.al (AL.one (Leaf.v (Value.int IntKind.i64 n0))))], boxes := [(1, [Leaf.sl Tag.free 4 l1, Leaf.v (Value.int IntKind.i64 n2), Leaf.v (Value.int IntKind.i64 n3), Leaf.sl Tag.free 8 l4, Leaf.sl Tag.free 6 l5, Leaf.sl Tag.free 5 l6, Leaf.sl Tag.free 3 l7])] }

def spec_CreditsOk_X0 (b0 : Bool) : St :=
  { env := envOf 45 [(2, PV.al (AL.one (Leaf.sb b0)))], boxes := [] }

theorem spec_CreditsOk_L0_x0 (n7 : Int) (l8 : List (List D)) (n9 : Int) (n10 : Int) (l11 : List (List D)) (l12 : List (List D)) (l13 : List (List D)) (l14 : List (List D)) (n15 : Int) (l16 : List (List D)) (n17 : Int) (n18 : Int) (n19 : Int) (n20 : Int) (b21 : Bool)
    (h : Obs [decide (n7 < (↑l12.length : Int)) = true, 0 ≤ n7, n7 < (↑l12.length : Int), l12[n7.toNat]? = some [I n15, D.sl 5 l16, I n17, I n18, I n19, I n20], Ret Try.prog 90 [AD.one (I n17), AD.one (I 0), AD.one (I n15)] [AD.one (B b21)], (!b21) = true]) :
    Tr Try.prog (loopOf Try.f34 0) (spec_CreditsOk_L0 n7 l8 n9 n10 l11 l12 l13 l14) Ex.ret (spec_CreditsOk_X0 false) :=
  .of_loopc (ks := [2]) (bs := []) (ans := [Ans.br true, Ans.el [I n15, D.sl 5 l16, I n17, I n18, I n19, I n20], Ans.res [AD.one (B b21)], Ans.br true]) (by kernel_rfl) h

theorem spec_CreditsOk_L0_x1 (n7 : Int) (l8 : List (List D)) (n9 : Int) (n10 : Int) (l11 : List (List D)) (l12 : List (List D)) (l13 : List (List D)) (l14 : List (List D)) (n15 : Int) (l16 : List (List D)) (n17 : Int) (n18 : Int) (n19 : Int) (n20 : Int) (b21 : Bool) (b22 : Bool)
    (h : Obs [decide (n7 < (↑l12.length : Int)) = true, 0 ≤ n7, n7 < (↑l12.length : Int), l12[n7.toNat]? = some [I n15, D.sl 5 l16, I n17, I n18, I n19, I n20], Ret Try.prog 90 [AD.one (I n17), AD.one (I 0), AD.one (I n15)] [AD.one (B b21)], (!b21) = false, Ret Try.prog 90 [AD.one (I n18), AD.one (I 0), AD.one (I n15)] [AD.one (B b22)], (!b22) = true]) :
    Tr Try.prog (loopOf Try.f34 0) (spec_CreditsOk_L0 n7 l8 n9 n10 l11 l12 l13 l14) Ex.ret (spec_CreditsOk_X0 false) :=
  .of_loopc (ks := [2]) (bs := []) (ans := [Ans.br true, Ans.el [I n15, D.sl 5 l16, I n17, I n18, I n19, I n20], Ans.res [AD.one (B b21)], Ans.br false, Ans.res [AD.one (B b22)], Ans.br true]) (by kernel_rfl) h

theorem spec_CreditsOk_L0_x2 (n7 : Int) (l8 : List (List D)) (n9 : Int) (n10 : Int) (l11 : List (List D)) (l12 : List (List D)) (l13 : List (List D)) (l14 : List (List D)) (n15 : Int) (l16 : List (List D)) (n17 : Int) (n18 : Int) (n19 : Int) (n20 : Int) (b21 : Bool) (b22 : Bool)
    (h : Obs [decide (n7 < (↑l12.length : Int)) = true, 0 ≤ n7, n7 < (↑l12.length : Int), l12[n7.toNat]? = some [I n15, D.sl 5 l16, I n17, I n18, I n19, I n20], Ret Try.prog 90 [AD.one (I n17), AD.one (I 0), AD.one (I n15)] [AD.one (B b21)], (!b21) = false, Ret Try.prog 90 [AD.one (I n18), AD.one (I 0), AD.one (I n15)] [AD.one (B b22)], (!b22) = false, (IntKind.i64.wrap (IntKind.i64.wrap (n17 + n18) + (↑l16.length : Int)) != n15) = true]) :
    Tr Try.prog (loopOf Try.f34 0) (spec_CreditsOk_L0 n7 l8 n9 n10 l11 l12 l13 l14) Ex.ret (spec_CreditsOk_X0 false) :=
  .of_loopc (ks := [2]) (bs := []) (ans := [Ans.br true, Ans.el [I n15, D.sl 5 l16, I n17, I n18, I n19, I n20], Ans.res [AD.one (B b21)], Ans.br false, Ans.res [AD.one (B b22)], Ans.br false, Ans.wr, Ans.wr, Ans.br true]) (by kernel_rfl) h

theorem spec_CreditsOk_L0_s3 (n7 : Int) (l8 : List (List D)) (n9 : Int) (n10 : Int) (l11 : List (List D)) (l12 : List (List D)) (l13 : List (List D)) (l14 : List (List D)) (n15 : Int) (l16 : List (List D)) (n17 : Int) (n18 : Int) (n19 : Int) (n20 : Int) (b21 : Bool) (b22 : Bool)
    (h : Obs [decide (n7 < (↑l12.length : Int)) = true, 0 ≤ n7, n7 < (↑l12.length : Int), l12[n7.toNat]? = some [I n15, D.sl 5 l16, I n17, I n18, I n19, I n20], Ret Try.prog 90 [AD.one (I n17), AD.one (I 0), AD.one (I n15)] [AD.one (B b21)], (!b21) = false, Ret Try.prog 90 [AD.one (I n18), AD.one (I 0), AD.one (I n15)] [AD.one (B b22)], (!b22) = false, (IntKind.i64.wrap (IntKind.i64.wrap (n17 + n18) + (↑l16.length : Int)) != n15) = false, inInt IntKind.i64 (n7 + 1)]) :
    Tr Try.prog (loopOf Try.f34 0) (spec_CreditsOk_L0 n7 l8 n9 n10 l11 l12 l13 l14) Ex.normal (spec_CreditsOk_L0 (n7 + 1) l8 n9 n10 l11 l12 l13 l14) :=
  .of_loopc (ks := [3, 1]) (bs := [1]) (ans := [Ans.br true, Ans.el [I n15, D.sl 5 l16, I n17, I n18, I n19, I n20], Ans.res [AD.one (B b21)], Ans.br false, Ans.res [AD.one (B b22)], Ans.br false, Ans.wr, Ans.wr, Ans.br false]) (by kernel_rfl) h

def spec_CreditsOk_X0v2 : St :=
  { env := envOf 45 [], boxes := [] }

theorem spec_CreditsOk_L0_x4 (n7 : Int) (l8 : List (List D)) (n9 : Int) (n10 : Int) (l11 : List (List D)) (l12 : List (List D)) (l13 : List (List D)) (l14 : List (List D))
    (h : Obs [decide (n7 < (↑l12.length : Int)) = false]) :
    Tr Try.prog (loopOf Try.f34 0) (spec_CreditsOk_L0 n7 l8 n9 n10 l11 l12 l13 l14) (Ex.exit 0) spec_CreditsOk_X0v2 :=
  .of_loopc (ks := []) (bs := []) (ans := [Ans.br false]) (by kernel_rfl) h

theorem spec_CreditsOk_p0 (l0 : List (List D)) (n1 : Int) (n2 : Int) (l3 : List (List D)) (l4 : List (List D)) (l5 : List (List D)) (l6 : List (List D)) (b7 : Bool)
    (h : Obs [LoopOk Try.prog (loopOf Try.f34 0) (spec_CreditsOk_L0 0 l0 n1 n2 l3 l4 l5 l6) Ex.ret (spec_CreditsOk_X0 b7)]) :
    Ret Try.prog 34 [AD.agg [D.sl 4 l0, I n1, I n2, D.sl 8 l3, D.sl 6 l4, D.sl 5 l5, D.sl 3 l6]] [AD.one (B b7)] :=
  .of [Ans.loop [] [3, 1] [1] Ex.ret (spec_CreditsOk_X0 b7)] _ Try.func34 rfl (by kernel_rfl) h

theorem spec_CreditsOk_p1 (l0 : List (List D)) (n1 : Int) (n2 : Int) (l3 : List (List D)) (l4 : List (List D)) (l5 : List (List D)) (l6 : List (List D))
    (h : Obs [LoopOk Try.prog (loopOf Try.f34 0) (spec_CreditsOk_L0 0 l0 n1 n2 l3 l4 l5 l6) (Ex.exit 0) spec_CreditsOk_X0v2]) :
    Ret Try.prog 34 [AD.agg [D.sl 4 l0, I n1, I n2, D.sl 8 l3, D.sl 6 l4, D.sl 5 l5, D.sl 3 l6]] [AD.one (B true)] :=
  .of [Ans.loop [] [3, 1] [1] (Ex.exit 0) spec_CreditsOk_X0v2] _ Try.func34 rfl (by kernel_rfl) h

/- loop.example/g00973/impl.CreditsOk -/

def impl_CreditsOk_L0 (l0 : List (List D)) (n1 : Int) : St :=
  { env := envOf 51 [(6, PV.al (AL.one (Leaf.sl Tag.free 6 l0))), (7, PV.al (AL.one (Leaf.v (Value.int IntKind.i64 (↑l0.length : Int))))), (8, PV.al (AL.one (Leaf.v (Value.int IntKind.i64 n1))))], boxes := [] }

def impl_CreditsOk_X0 (b0 : Bool) : St :=
  { env := envOf 51 [(2, PV.al (AL.one (Leaf.sb b0)))], boxes := [] }

theorem impl_CreditsOk_L0_x0 (l4 : List (List D)) (n7 : Int) (n8 : Int) (l9 : List (List D)) (n10 : Int) (n11 : Int) (n12 : Int) (n13 : Int) (b14 : Bool)
    (h : Obs [decide (n7 < (↑l4.length : Int)) = true, 0 ≤ n7, n7 < (↑l4.length : Int), l4[n7.toNat]? = some [I n8, D.sl 5 l9, I n10, I n11, I n12, I n13], Ret Try.prog 91 [AD.one (I n10), AD.one (I 0), AD.one (I n8)] [AD.one (B b14)], (!b14) = true]) :
    Tr Try.prog (loopOf Try.f35 0) (impl_CreditsOk_L0 l4 n7) Ex.ret (impl_CreditsOk_X0 false) :=
  .of_loopc (ks := [2]) (bs := []) (ans := [Ans.br true, Ans.el [I n8, D.sl 5 l9, I n10, I n11, I n12, I n13], Ans.res [AD.one (B b14)], Ans.br true]) (by kernel_rfl) h

theorem impl_CreditsOk_L0_x1 (l4 : List (List D)) (n7 : Int) (n8 : Int) (l9 : List (List D)) (n10 : Int) (n11 : Int) (n12 : Int) (n13 : Int) (b14 : Bool) (b15 : Bool)
    (h : Obs [decide (n7 < (↑l4.length : Int)) = true, 0 ≤ n7, n7 < (↑l4.length : Int), l4[n7.toNat]? = some [I n8, D.sl 5 l9, I n10, I n11, I n12, I n13], Ret Try.prog 91 [AD.one (I n10), AD.one (I 0), AD.one (I n8)] [AD.one (B b14)], (!b14) = false, Ret Try.prog 91 [AD.one (I n11), AD.one (I 0), AD.one (I n8)] [AD.one (B b15)], (!b15) = true]) :
    Tr Try.prog (loopOf Try.f35 0) (impl_CreditsOk_L0 l4 n7) Ex.ret (impl_CreditsOk_X0 false) :=
  .of_loopc (ks := [2]) (bs := []) (ans := [Ans.br true, Ans.el [I n8, D.sl 5 l9, I n10, I n11, I n12, I n13], Ans.res [AD.one (B b14)], Ans.br false, Ans.res [AD.one (B b15)], Ans.br true]) (by kernel_rfl) h

theorem impl_CreditsOk_L0_x2 (l4 : List (List D)) (n7 : Int) (n8 : Int) (l9 : List (List D)) (n10 : Int) (n11 : Int) (n12 : Int) (n13 : Int) (b14 : Bool) (b15 : Bool)
    (h : Obs [decide (n7 < (↑l4.length : Int)) = true, 0 ≤ n7, n7 < (↑l4.length : Int), l4[n7.toNat]? = some [I n8, D.sl 5 l9, I n10, I n11, I n12, I n13], Ret Try.prog 91 [AD.one (I n10), AD.one (I 0), AD.one (I n8)] [AD.one (B b14)], (!b14) = false, Ret Try.prog 91 [AD.one (I n11), AD.one (I 0), AD.one (I n8)] [AD.one (B b15)], (!b15) = false, inInt IntKind.i64 (n8 - n11), decide (n10 > n8 - n11) = true]) :
    Tr Try.prog (loopOf Try.f35 0) (impl_CreditsOk_L0 l4 n7) Ex.ret (impl_CreditsOk_X0 false) :=
  .of_loopc (ks := [2]) (bs := []) (ans := [Ans.br true, Ans.el [I n8, D.sl 5 l9, I n10, I n11, I n12, I n13], Ans.res [AD.one (B b14)], Ans.br false, Ans.res [AD.one (B b15)], Ans.br false, Ans.br true]) (by kernel_rfl) h

theorem impl_CreditsOk_L0_x3 (l4 : List (List D)) (n7 : Int) (n8 : Int) (l9 : List (List D)) (n10 : Int) (n11 : Int) (n12 : Int) (n13 : Int) (b14 : Bool) (b15 : Bool)
    (h : Obs [decide (n7 < (↑l4.length : Int)) = true, 0 ≤ n7, n7 < (↑l4.length : Int), l4[n7.toNat]? = some [I n8, D.sl 5 l9, I n10, I n11, I n12, I n13], Ret Try.prog 91 [AD.one (I n10), AD.one (I 0), AD.one (I n8)] [AD.one (B b14)], (!b14) = false, Ret Try.prog 91 [AD.one (I n11), AD.one (I 0), AD.one (I n8)] [AD.one (B b15)], (!b15) = false, inInt IntKind.i64 (n8 - n11), decide (n10 > n8 - n11) = false, inInt IntKind.i64 (n8 - n11), inInt IntKind.i64 (n8 - n11 - n10), (n8 - n11 - n10 != (↑l9.length : Int)) = true]) :
    Tr Try.prog (loopOf Try.f35 0) (impl_CreditsOk_L0 l4 n7) Ex.ret (impl_CreditsOk_X0 false) :=
  .of_loopc (ks := [2]) (bs := []) (ans := [Ans.br true, Ans.el [I n8, D.sl 5 l9, I n10, I n11, I n12, I n13], Ans.res [AD.one (B b14)], Ans.br false, Ans.res [AD.one (B b15)], Ans.br false, Ans.br false, Ans.br true]) (by kernel_rfl) h

theorem impl_CreditsOk_L0_s4 (l4 : List (List D)) (n7 : Int) (n8 : Int) (l9 : List (List D)) (n10 : Int) (n11 : Int) (n12 : Int) (n13 : Int) (b14 : Bool) (b15 : Bool)
    (h : Obs [decide (n7 < (↑l4.length : Int)) = true, 0 ≤ n7, n7 < (↑l4.length : Int), l4[n7.toNat]? = some [I n8, D.sl 5 l9, I n10, I n11, I n12, I n13], Ret Try.prog 91 [AD.one (I n10), AD.one (I 0), AD.one (I n8)] [AD.one (B b14)], (!b14) = false, Ret Try.prog 91 [AD.one (I n11), AD.one (I 0), AD.one (I n8)] [AD.one (B b15)], (!b15) = false, inInt IntKind.i64 (n8 - n11), decide (n10 > n8 - n11) = false, inInt IntKind.i64 (n8 - n11), inInt IntKind.i64 (n8 - n11 - n10), (n8 - n11 - n10 != (↑l9.length : Int)) = false, inInt IntKind.i64 (n7 + 1)]) :
    Tr Try.prog (loopOf Try.f35 0) (impl_CreditsOk_L0 l4 n7) Ex.normal (impl_CreditsOk_L0 l4 (n7 + 1)) :=
  .of_loopc (ks := [8, 7, 6]) (bs := []) (ans := [Ans.br true, Ans.el [I n8, D.sl 5 l9, I n10, I n11, I n12, I n13], Ans.res [AD.one (B b14)], Ans.br false, Ans.res [AD.one (B b15)], Ans.br false, Ans.br false, Ans.br false]) (by kernel_rfl) h

def impl_CreditsOk_X0v2 : St :=
  { env := envOf 51 [], boxes := [] }

theorem impl_CreditsOk_L0_x5 (l4 : List (List D)) (n7 : Int)
    (h : Obs [decide (n7 < (↑l4.length : Int)) = false]) :
    Tr Try.prog (loopOf Try.f35 0) (impl_CreditsOk_L0 l4 n7) (Ex.exit 0) impl_CreditsOk_X0v2 :=
  .of_loopc (ks := []) (bs := []) (ans := [Ans.br false]) (by kernel_rfl) h

theorem impl_CreditsOk_p0 (l0 : List (List D)) (n1 : Int) (n2 : Int) (l3 : List (List D)) (l4 : List (List D)) (l5 : List (List D)) (l6 : List (List D)) (b7 : Bool)
    (h : Obs [LoopOk Try.prog (loopOf Try.f35 0) (impl_CreditsOk_L0 l4 0) Ex.ret (impl_CreditsOk_X0 b7)]) :
    Ret Try.prog 35 [AD.agg [D.sl 4 l0, I n1, I n2, D.sl 8 l3, D.sl 6 l4, D.sl 5 l5, D.sl 3 l6]] [AD.one (B b7)] :=
  .of [Ans.loop [] [8, 7, 6] [] Ex.ret (impl_CreditsOk_X0 b7)] _ Try.func35 rfl (by kernel_rfl) h

theorem impl_CreditsOk_p1 (l0 : List (List D)) (n1 : Int) (n2 : Int) (l3 : List (List D)) (l4 : List (List D)) (l5 : List (List D)) (l6 : List (List D))
    (h : Obs [LoopOk Try.prog (loopOf Try.f35 0) (impl_CreditsOk_L0 l4 0) (Ex.exit 0) impl_CreditsOk_X0v2]) :
    Ret Try.prog 35 [AD.agg [D.sl 4 l0, I n1, I n2, D.sl 8 l3, D.sl 6 l4, D.sl 5 l5, D.sl 3 l6]] [AD.one (B true)] :=
  .of [Ans.loop [] [8, 7, 6] [] (Ex.exit 0) impl_CreditsOk_X0v2] _ Try.func35 rfl (by kernel_rfl) h

/- loop.example/g00973/spec.Consumed -/

theorem spec_Consumed_p0 (l0 : List (List D)) (n1 : Int) (n2 : Int) (l3 : List (List D)) (l4 : List (List D)) (l5 : List (List D)) (l6 : List (List D)) (n7 : Int) (n8 : Int) (n9 : Int) (b10 : Bool)
    (h : Obs [inInt IntKind.i64 ((↑l3.length : Int) - 1), Ret Try.prog 90 [AD.one (I n8), AD.one (I 0), AD.one (I ((↑l3.length : Int) - 1))] [AD.one (B b10)], (!b10) = true]) :
    Ret Try.prog 40 [AD.agg [D.sl 4 l0, I n1, I n2, D.sl 8 l3, D.sl 6 l4, D.sl 5 l5, D.sl 3 l6], AD.agg [I n7, I n8, I n9]] [AD.agg [I 0, I 0, I 0, I 0, I 0], AD.one (B false)] :=
  .of [Ans.res [AD.one (B b10)], Ans.br true] _ Try.func40 rfl (by kernel_rfl) h

theorem spec_Consumed_p1 (l0 : List (List D)) (n1 : Int) (n2 : Int) (l3 : List (List D)) (l4 : List (List D)) (l5 : List (List D)) (l6 : List (List D)) (n7 : Int) (n8 : Int) (n9 : Int) (b10 : Bool) (l11 : List (List D)) (l12 : List (List D)) (l13 : List (List D)) (l14 : List (List D)) (l15 : List (List D)) (l16 : List (List D)) (l17 : List (List D)) (l18 : List (List D)) (n19 : Int) (n20 : Int) (n21 : Int) (n22 : Int) (n23 : Int)
    (h : Obs [inInt IntKind.i64 ((↑l3.length : Int) - 1), Ret Try.prog 90 [AD.one (I n8), AD.one (I 0), AD.one (I ((↑l3.length : Int) - 1))] [AD.one (B b10)], (!b10) = false, 0 ≤ n8, n8 < (↑l3.length : Int), l3[n8.toNat]? = some [D.sl 5 l11, D.sl 5 l12, D.sl 5 l13, D.sl 4 l14, D.sl 1 l15, D.sl 1 l16, D.sl 1 l17, D.sl 2 l18], (n7 == 2) = true, decide ((↑l13.length : Int) > 0) = true, (0 : Int) ≤ 0, 0 < (↑l13.length : Int), l13[0]? = some [I n19, I n20, I n21, I n22, I n23]]) :
    Ret Try.prog 40 [AD.agg [D.sl 4 l0, I n1, I n2, D.sl 8 l3, D.sl 6 l4, D.sl 5 l5, D.sl 3 l6], AD.agg [I n7, I n8, I n9]] [AD.agg [I n19, I n20, I n21, I n22, I n23], AD.one (B true)] :=
  .of [Ans.res [AD.one (B b10)], Ans.br false, Ans.el [D.sl 5 l11, D.sl 5 l12, D.sl 5 l13, D.sl 4 l14, D.sl 1 l15, D.sl 1 l16, D.sl 1 l17, D.sl 2 l18], Ans.br true, Ans.br true, Ans.el [I n19, I n20, I n21, I n22, I n23]] _ Try.func40 rfl (by kernel_rfl) h

theorem spec_Consumed_p2 (l0 : List (List D)) (n1 : Int) (n2 : Int) (l3 : List (List D)) (l4 : List (List D)) (l5 : List (List D)) (l6 : List (List D)) (n7 : Int) (n8 : Int) (n9 : Int) (b10 : Bool) (l11 : List (List D)) (l12 : List (List D)) (l13 : List (List D)) (l14 : List (List D)) (l15 : List (List D)) (l16 : List (List D)) (l17 : List (List D)) (l18 : List (List D)) (n19 : Int) (n20 : Int) (n21 : Int) (n22 : Int) (n23 : Int)
    (h : Obs [inInt IntKind.i64 ((↑l3.length : Int) - 1), Ret Try.prog 90 [AD.one (I n8), AD.one (I 0), AD.one (I ((↑l3.length : Int) - 1))] [AD.one (B b10)], (!b10) = false, 0 ≤ n8, n8 < (↑l3.length : Int), l3[n8.toNat]? = some [D.sl 5 l11, D.sl 5 l12, D.sl 5 l13, D.sl 4 l14, D.sl 1 l15, D.sl 1 l16, D.sl 1 l17, D.sl 2 l18], (n7 == 2) = true, decide ((↑l13.length : Int) > 0) = false, (n7 == 1) = true, decide ((↑l11.length : Int) > 0) = true, (0 : Int) ≤ 0, 0 < (↑l11.length : Int), l11[0]? = some [I n19, I n20, I n21, I n22, I n23]]) :
    Ret Try.prog 40 [AD.agg [D.sl 4 l0, I n1, I n2, D.sl 8 l3, D.sl 6 l4, D.sl 5 l5, D.sl 3 l6], AD.agg [I n7, I n8, I n9]] [AD.agg [I n19, I n20, I n21, I n22, I n23], AD.one (B true)] :=
  .of [Ans.res [AD.one (B b10)], Ans.br false, Ans.el [D.sl 5 l11, D.sl 5 l12, D.sl 5 l13, D.sl 4 l14, D.sl 1 l15, D.sl 1 l16, D.sl 1 l17, D.sl 2 l18], Ans.br true, Ans.br false, Ans.br true, Ans.br true, Ans.el [I n19, I n20, I n21, I n22, I n23]] _ Try.func40 rfl (by kernel_rfl) h

theorem spec_Consumed_p3 (l0 : List (List D)) (n1 : Int) (n2 : Int) (l3 : List (List D)) (l4 : List (List D)) (l5 : List (List D)) (l6 : List (List D)) (n7 : Int) (n8 : Int) (n9 : Int) (b10 : Bool) (l11 : List (List D)) (l12 : List (List D)) (l13 : List (List D)) (l14 : List (List D)) (l15 : List (List D)) (l16 : List (List D)) (l17 : List (List D)) (l18 : List (List D))
    (h : Obs [inInt IntKind.i64 ((↑l3.length : Int) - 1), Ret Try.prog 90 [AD.one (I n8), AD.one (I 0), AD.one (I ((↑l3.length : Int) - 1))] [AD.one (B b10)], (!b10) = false, 0 ≤ n8, n8 < (↑l3.length : Int), l3[n8.toNat]? = some [D.sl 5 l11, D.sl 5 l12, D.sl 5 l13, D.sl 4 l14, D.sl 1 l15, D.sl 1 l16, D.sl 1 l17, D.sl 2 l18], (n7 == 2) = true, decide ((↑l13.length : Int) > 0) = false, (n7 == 1) = true, decide ((↑l11.length : Int) > 0) = false]) :
    Ret Try.prog 40 [AD.agg [D.sl 4 l0, I n1, I n2, D.sl 8 l3, D.sl 6 l4, D.sl 5 l5, D.sl 3 l6], AD.agg [I n7, I n8, I n9]] [AD.agg [I 0, I 0, I 0, I 0, I 0], AD.one (B false)] :=
  .of [Ans.res [AD.one (B b10)], Ans.br false, Ans.el [D.sl 5 l11, D.sl 5 l12, D.sl 5 l13, D.sl 4 l14, D.sl 1 l15, D.sl 1 l16, D.sl 1 l17, D.sl 2 l18], Ans.br true, Ans.br false, Ans.br true, Ans.br false] _ Try.func40 rfl (by kernel_rfl) h

theorem spec_Consumed_p4 (l0 : List (List D)) (n1 : Int) (n2 : Int) (l3 : List (List D)) (l4 : List (List D)) (l5 : List (List D)) (l6 : List (List D)) (n7 : Int) (n8 : Int) (n9 : Int) (b10 : Bool) (l11 : List (List D)) (l12 : List (List D)) (l13 : List (List D)) (l14 : List (List D)) (l15 : List (List D)) (l16 : List (List D)) (l17 : List (List D)) (l18 : List (List D))
    (h : Obs [inInt IntKind.i64 ((↑l3.length : Int) - 1), Ret Try.prog 90 [AD.one (I n8), AD.one (I 0), AD.one (I ((↑l3.length : Int) - 1))] [AD.one (B b10)], (!b10) = false, 0 ≤ n8, n8 < (↑l3.length : Int), l3[n8.toNat]? = some [D.sl 5 l11, D.sl 5 l12, D.sl 5 l13, D.sl 4 l14, D.sl 1 l15, D.sl 1 l16, D.sl 1 l17, D.sl 2 l18], (n7 == 2) = true, decide ((↑l13.length : Int) > 0) = false, (n7 == 1) = false]) :
    Ret Try.prog 40 [AD.agg [D.sl 4 l0, I n1, I n2, D.sl 8 l3, D.sl 6 l4, D.sl 5 l5, D.sl 3 l6], AD.agg [I n7, I n8, I n9]] [AD.agg [I 0, I 0, I 0, I 0, I 0], AD.one (B false)] :=
  .of [Ans.res [AD.one (B b10)], Ans.br false, Ans.el [D.sl 5 l11, D.sl 5 l12, D.sl 5 l13, D.sl 4 l14, D.sl 1 l15, D.sl 1 l16, D.sl 1 l17, D.sl 2 l18], Ans.br true, Ans.br false, Ans.br false] _ Try.func40 rfl (by kernel_rfl) h

theorem spec_Consumed_p5 (l0 : List (List D)) (n1 : Int) (n2 : Int) (l3 : List (List D)) (l4 : List (List D)) (l5 : List (List D)) (l6 : List (List D)) (n7 : Int) (n8 : Int) (n9 : Int) (b10 : Bool) (l11 : List (List D)) (l12 : List (List D)) (l13 : List (List D)) (l14 : List (List D)) (l15 : List (List D)) (l16 : List (List D)) (l17 : List (List D)) (l18 : List (List D)) (n19 : Int) (n20 : Int) (n21 : Int) (n22 : Int) (n23 : Int)
    (h : Obs [inInt IntKind.i64 ((↑l3.length : Int) - 1), Ret Try.prog 90 [AD.one (I n8), AD.one (I 0), AD.one (I ((↑l3.length : Int) - 1))] [AD.one (B b10)], (!b10) = false, 0 ≤ n8, n8 < (↑l3.length : Int), l3[n8.toNat]? = some [D.sl 5 l11, D.sl 5 l12, D.sl 5 l13, D.sl 4 l14, D.sl 1 l15, D.sl 1 l16, D.sl 1 l17, D.sl 2 l18], (n7 == 2) = false, (n7 == 1) = true, decide ((↑l11.length : Int) > 0) = true, (0 : Int) ≤ 0, 0 < (↑l11.length : Int), l11[0]? = some [I n19, I n20, I n21, I n22, I n23]]) :
    Ret Try.prog 40 [AD.agg [D.sl 4 l0, I n1, I n2, D.sl 8 l3, D.sl 6 l4, D.sl 5 l5, D.sl 3 l6], AD.agg [I n7, I n8, I n9]] [AD.agg [I n19, I n20, I n21, I n22, I n23], AD.one (B true)] :=
  .of [Ans.res [AD.one (B b10)], Ans.br false, Ans.el [D.sl 5 l11, D.sl 5 l12, D.sl 5 l13, D.sl 4 l14, D.sl 1 l15, D.sl 1 l16, D.sl 1 l17, D.sl 2 l18], Ans.br false, Ans.br true, Ans.br true, Ans.el [I n19, I n20, I n21, I n22, I n23]] _ Try.func40 rfl (by kernel_rfl) h

theorem spec_Consumed_p6 (l0 : List (List D)) (n1 : Int) (n2 : Int) (l3 : List (List D)) (l4 : List (List D)) (l5 : List (List D)) (l6 : List (List D)) (n7 : Int) (n8 : Int) (n9 : Int) (b10 : Bool) (l11 : List (List D)) (l12 : List (List D)) (l13 : List (List D)) (l14 : List (List D)) (l15 : List (List D)) (l16 : List (List D)) (l17 : List (List D)) (l18 : List (List D))
    (h : Obs [inInt IntKind.i64 ((↑l3.length : Int) - 1), Ret Try.prog 90 [AD.one (I n8), AD.one (I 0), AD.one (I ((↑l3.length : Int) - 1))] [AD.one (B b10)], (!b10) = false, 0 ≤ n8, n8 < (↑l3.length : Int), l3[n8.toNat]? = some [D.sl 5 l11, D.sl 5 l12, D.sl 5 l13, D.sl 4 l14, D.sl 1 l15, D.sl 1 l16, D.sl 1 l17, D.sl 2 l18], (n7 == 2) = false, (n7 == 1) = true, decide ((↑l11.length : Int) > 0) = false]) :
    Ret Try.prog 40 [AD.agg [D.sl 4 l0, I n1, I n2, D.sl 8 l3, D.sl 6 l4, D.sl 5 l5, D.sl 3 l6], AD.agg [I n7, I n8, I n9]] [AD.agg [I 0, I 0, I 0, I 0, I 0], AD.one (B false)] :=
  .of [Ans.res [AD.one (B b10)], Ans.br false, Ans.el [D.sl 5 l11, D.sl 5 l12, D.sl 5 l13, D.sl 4 l14, D.sl 1 l15, D.sl 1 l16, D.sl 1 l17, D.sl 2 l18], Ans.br false, Ans.br true, Ans.br false] _ Try.func40 rfl (by kernel_rfl) h

theorem spec_Consumed_p7 (l0 : List (List D)) (n1 : Int) (n2 : Int) (l3 : List (List D)) (l4 : List (List D)) (l5 : List (List D)) (l6 : List (List D)) (n7 : Int) (n8 : Int) (n9 : Int) (b10 : Bool) (l11 : List (List D)) (l12 : List (List D)) (l13 : List (List D)) (l14 : List (List D)) (l15 : List (List D)) (l16 : List (List D)) (l17 : List (List D)) (l18 : List (List D))
    (h : Obs [inInt IntKind.i64 ((↑l3.length : Int) - 1), Ret Try.prog 90 [AD.one (I n8), AD.one (I 0), AD.one (I ((↑l3.length : Int) - 1))] [AD.one (B b10)], (!b10) = false, 0 ≤ n8, n8 < (↑l3.length : Int), l3[n8.toNat]? = some [D.sl 5 l11, D.sl 5 l12, D.sl 5 l13, D.sl 4 l14, D.sl 1 l15, D.sl 1 l16, D.sl 1 l17, D.sl 2 l18], (n7 == 2) = false, (n7 == 1) = false]) :
    Ret Try.prog 40 [AD.agg [D.sl 4 l0, I n1, I n2, D.sl 8 l3, D.sl 6 l4, D.sl 5 l5, D.sl 3 l6], AD.agg [I n7, I n8, I n9]] [AD.agg [I 0, I 0, I 0, I 0, I 0], AD.one (B false)] :=
  .of [Ans.res [AD.one (B b10)], Ans.br false, Ans.el [D.sl 5 l11, D.sl 5 l12, D.sl 5 l13, D.sl 4 l14, D.sl 1 l15, D.sl 1 l16, D.sl 1 l17, D.sl 2 l18], Ans.br false, Ans.br false] _ Try.func40 rfl (by kernel_rfl) h

/- loop.example/g00973/impl.Consumed -/

theorem impl_Consumed_p0 (l0 : List (List D)) (n1 : Int) (n2 : Int) (l3 : List (List D)) (l4 : List (List D)) (l5 : List (List D)) (l6 : List (List D)) (n7 : Int) (n8 : Int) (n9 : Int) (b10 : Bool)
    (h : Obs [inInt IntKind.i64 ((↑l3.length : Int) - 1), Ret Try.prog 91 [AD.one (I n8), AD.one (I 0), AD.one (I ((↑l3.length : Int) - 1))] [AD.one (B b10)], (!b10) = true]) :
    Ret Try.prog 42 [AD.agg [D.sl 4 l0, I n1, I n2, D.sl 8 l3, D.sl 6 l4, D.sl 5 l5, D.sl 3 l6], AD.agg [I n7, I n8, I n9]] [AD.agg [I 0, I 0, I 0, I 0, I 0], AD.one (B false)] :=
  .of [Ans.res [AD.one (B b10)], Ans.br true] _ Try.func42 rfl (by kernel_rfl) h

theorem impl_Consumed_p1 (l0 : List (List D)) (n1 : Int) (n2 : Int) (l3 : List (List D)) (l4 : List (List D)) (l5 : List (List D)) (l6 : List (List D)) (n7 : Int) (n8 : Int) (n9 : Int) (b10 : Bool) (l11 : List (List D)) (l12 : List (List D)) (l13 : List (List D)) (l14 : List (List D)) (l15 : List (List D)) (l16 : List (List D)) (l17 : List (List D)) (l18 : List (List D))
    (h : Obs [inInt IntKind.i64 ((↑l3.length : Int) - 1), Ret Try.prog 91 [AD.one (I n8), AD.one (I 0), AD.one (I ((↑l3.length : Int) - 1))] [AD.one (B b10)], (!b10) = false, (n7 == 2) = true, 0 ≤ n8, n8 < (↑l3.length : Int), l3[n8.toNat]? = some [D.sl 5 l11, D.sl 5 l12, D.sl 5 l13, D.sl 4 l14, D.sl 1 l15, D.sl 1 l16, D.sl 1 l17, D.sl 2 l18], ((↑l13.length : Int) == 0) = true]) :
    Ret Try.prog 42 [AD.agg [D.sl 4 l0, I n1, I n2, D.sl 8 l3, D.sl 6 l4, D.sl 5 l5, D.sl 3 l6], AD.agg [I n7, I n8, I n9]] [AD.agg [I 0, I 0, I 0, I 0, I 0], AD.one (B false)] :=
  .of [Ans.res [AD.one (B b10)], Ans.br false, Ans.br true, Ans.el [D.sl 5 l11, D.sl 5 l12, D.sl 5 l13, D.sl 4 l14, D.sl 1 l15, D.sl 1 l16, D.sl 1 l17, D.sl 2 l18], Ans.br true] _ Try.func42 rfl (by kernel_rfl) h

theorem impl_Consumed_p2 (l0 : List (List D)) (n1 : Int) (n2 : Int) (l3 : List (List D)) (l4 : List (List D)) (l5 : List (List D)) (l6 : List (List D)) (n7 : Int) (n8 : Int) (n9 : Int) (b10 : Bool) (l11 : List (List D)) (l12 : List (List D)) (l13 : List (List D)) (l14 : List (List D)) (l15 : List (List D)) (l16 : List (List D)) (l17 : List (List D)) (l18 : List (List D)) (n19 : Int) (n20 : Int) (n21 : Int) (n22 : Int) (n23 : Int)
    (h : Obs [inInt IntKind.i64 ((↑l3.length : Int) - 1), Ret Try.prog 91 [AD.one (I n8), AD.one (I 0), AD.one (I ((↑l3.length : Int) - 1))] [AD.one (B b10)], (!b10) = false, (n7 == 2) = true, 0 ≤ n8, n8 < (↑l3.length : Int), l3[n8.toNat]? = some [D.sl 5 l11, D.sl 5 l12, D.sl 5 l13, D.sl 4 l14, D.sl 1 l15, D.sl 1 l16, D.sl 1 l17, D.sl 2 l18], ((↑l13.length : Int) == 0) = false, (0 : Int) ≤ 0, 0 < (↑l13.length : Int), l13[0]? = some [I n19, I n20, I n21, I n22, I n23]]) :
    Ret Try.prog 42 [AD.agg [D.sl 4 l0, I n1, I n2, D.sl 8 l3, D.sl 6 l4, D.sl 5 l5, D.sl 3 l6], AD.agg [I n7, I n8, I n9]] [AD.agg [I n19, I n20, I n21, I n22, I n23], AD.one (B true)] :=
  .of [Ans.res [AD.one (B b10)], Ans.br false, Ans.br true, Ans.el [D.sl 5 l11, D.sl 5 l12, D.sl 5 l13, D.sl 4 l14, D.sl 1 l15, D.sl 1 l16, D.sl 1 l17, D.sl 2 l18], Ans.br false, Ans.el [I n19, I n20, I n21, I n22, I n23]] _ Try.func42 rfl (by kernel_rfl) h

theorem impl_Consumed_p3 (l0 : List (List D)) (n1 : Int) (n2 : Int) (l3 : List (List D)) (l4 : List (List D)) (l5 : List (List D)) (l6 : List (List D)) (n7 : Int) (n8 : Int) (n9 : Int) (b10 : Bool) (l11 : List (List D)) (l12 : List (List D)) (l13 : List (List D)) (l14 : List (List D)) (l15 : List (List D)) (l16 : List (List D)) (l17 : List (List D)) (l18 : List (List D))
    (h : Obs [inInt IntKind.i64 ((↑l3.length : Int) - 1), Ret Try.prog 91 [AD.one (I n8), AD.one (I 0), AD.one (I ((↑l3.length : Int) - 1))] [AD.one (B b10)], (!b10) = false, (n7 == 2) = false, (n7 == 1) = true, 0 ≤ n8, n8 < (↑l3.length : Int), l3[n8.toNat]? = some [D.sl 5 l11, D.sl 5 l12, D.sl 5 l13, D.sl 4 l14, D.sl 1 l15, D.sl 1 l16, D.sl 1 l17, D.sl 2 l18], ((↑l11.length : Int) == 0) = true]) :
    Ret Try.prog 42 [AD.agg [D.sl 4 l0, I n1, I n2, D.sl 8 l3, D.sl 6 l4, D.sl 5 l5, D.sl 3 l6], AD.agg [I n7, I n8, I n9]] [AD.agg [I 0, I 0, I 0, I 0, I 0], AD.one (B false)] :=
  .of [Ans.res [AD.one (B b10)], Ans.br false, Ans.br false, Ans.br true, Ans.el [D.sl 5 l11, D.sl 5 l12, D.sl 5 l13, D.sl 4 l14, D.sl 1 l15, D.sl 1 l16, D.sl 1 l17, D.sl 2 l18], Ans.br true] _ Try.func42 rfl (by kernel_rfl) h

theorem impl_Consumed_p4 (l0 : List (List D)) (n1 : Int) (n2 : Int) (l3 : List (List D)) (l4 : List (List D)) (l5 : List (List D)) (l6 : List (List D)) (n7 : Int) (n8 : Int) (n9 : Int) (b10 : Bool) (l11 : List (List D)) (l12 : List (List D)) (l13 : List (List D)) (l14 : List (List D)) (l15 : List (List D)) (l16 : List (List D)) (l17 : List (List D)) (l18 : List (List D)) (n19 : Int) (n20 : Int) (n21 : Int) (n22 : Int) (n23 : Int)
    (h : Obs [inInt IntKind.i64 ((↑l3.length : Int) - 1), Ret Try.prog 91 [AD.one (I n8), AD.one (I 0), AD.one (I ((↑l3.length : Int) - 1))] [AD.one (B b10)], (!b10) = false, (n7 == 2) = false, (n7 == 1) = true, 0 ≤ n8, n8 < (↑l3.length : Int), l3[n8.toNat]? = some [D.sl 5 l11, D.sl 5 l12, D.sl 5 l13, D.sl 4 l14, D.sl 1 l15, D.sl 1 l16, D.sl 1 l17, D.sl 2 l18], ((↑l11.length : Int) == 0) = false, (0 : Int) ≤ 0, 0 < (↑l11.length : Int), l11[0]? = some [I n19, I n20, I n21, I n22, I n23]]) :
    Ret Try.prog 42 [AD.agg [D.sl 4 l0, I n1, I n2, D.sl 8 l3, D.sl 6 l4, D.sl 5 l5, D.sl 3 l6], AD.agg [I n7, I n8, I n9]] [AD.agg [I n19, I n20, I n21, I n22, I n23], AD.one (B true)] :=
  .of [Ans.res [AD.one (B b10)], Ans.br false, Ans.br false, Ans.br true, Ans.el [D.sl 5 l11, D.sl 5 l12, D.sl 5 l13, D.sl 4 l14, D.sl 1 l15, D.sl 1 l16, D.sl 1 l17, D.sl 2 l18], Ans.br false, Ans.el [I n19, I n20, I n21, I n22, I n23]] _ Try.func42 rfl (by kernel_rfl) h

theorem impl_Consumed_p5 (l0 : List (List D)) (n1 : Int) (n2 : Int) (l3 : List (List D)) (l4 : List (List D)) (l5 : List (List D)) (l6 : List (List D)) (n7 : Int) (n8 : Int) (n9 : Int) (b10 : Bool)
    (h : Obs [inInt IntKind.i64 ((↑l3.length : Int) - 1), Ret Try.prog 91 [AD.one (I n8), AD.one (I 0), AD.one (I ((↑l3.length : Int) - 1))] [AD.one (B b10)], (!b10) = false, (n7 == 2) = false, (n7 == 1) = false, true = true]) :
    Ret Try.prog 42 [AD.agg [D.sl 4 l0, I n1, I n2, D.sl 8 l3, D.sl 6 l4, D.sl 5 l5, D.sl 3 l6], AD.agg [I n7, I n8, I n9]] [AD.agg [I 0, I 0, I 0, I 0, I 0], AD.one (B false)] :=
  .of [Ans.res [AD.one (B b10)], Ans.br false, Ans.br false, Ans.br false, Ans.br true] _ Try.func42 rfl (by kernel_rfl) h

/- loop.example/g00973/spec.SumsOk -/

def spec_SumsOk_L0 (l0 : List (List D)) (n1 : Int) (n2 : Int) (l3 : List (List D)) (l4 : List (List D)) (l5 : List (List D)) (l6 : List (List D)) (n7 : Int) (n8 : Int) (n9 : Int) : St :=
  { env := envOf 28 [(1, PV.al (AL.one (Leaf.v (Value.int IntKind.i64 n7)))), (2, PV.al (AL.one (Leaf.ptr 2 0))), (5, PV.al (AL.one (Leaf.v (Value.int IntKind.i64 n9)))), (6, PV.al (AL.one (Leaf.v (Value.int IntKind.i64 n8))))], boxes := [(2, [Leaf.sl Tag.free 4 l0, Leaf.v (Value.int IntKind.i64 n1), Leaf.v (Value.int IntKind.i64 n2), Leaf.sl Tag.free 8 l3, Leaf.sl Tag.free 6 l4, Leaf.sl Tag.free 5 l5, Leaf.sl Tag.free 3 l6])] }

theorem spec_SumsOk_L0_s0 (l0 : List (List D)) (n1 : Int) (n2 : Int) (l3 : List (List D)) (l4 : List (List D)) (l5 : List (List D)) (l6 : List (List D)) (n7 : Int) (n8 : Int) (n9 : Int) (n10 : Int) (l11 : List (List D)) (n12 : Int) (n13 : Int) (n14 : Int) (n15 : Int) (n16 : Int)
    (h : Obs [decide (n8 < (↑l4.length : Int)) = true, 0 ≤ n8, n8 < (↑l4.length : Int), l4[n8.toNat]? = some [I n10, D.sl 5 l11, I n12, I n13, I n14, I n15], Ret Try.prog 97 [AD.agg [I n10, D.sl 5 l11, I n12, I n13, I n14, I n15], AD.one (I n7)] [AD.one (I n16)], inInt IntKind.i64 (n9 + n16), inInt IntKind.i64 (n8 + 1)]) :
    Tr Try.prog (loopOf Try.f46 0) (spec_SumsOk_L0 l0 n1 n2 l3 l4 l5 l6 n7 n8 n9) Ex.normal (spec_SumsOk_L0 l0 n1 n2 l3 l4 l5 l6 n7 (n8 + 1) (n9 + n16)) :=
  .of_loopc (ks := [6, 2, 5, 1]) (bs := [2]) (ans := [Ans.br true, Ans.el [I n10, D.sl 5 l11, I n12, I n13, I n14, I n15], Ans.res [AD.one (I n16)]]) (by kernel_rfl) h

def spec_SumsOk_X0 (l0 : List (List D)) (n1 : Int) (n2 : Int) (l3 : List (List D)) (l4 : List (List D)) (l5 : List (List D)) (l6 : List (List D)) (n7 : Int) (n8 : Int) : St :=
  { env := envOf 28 [(1, PV.al (AL.one (Leaf.v (Value.int IntKind.i64 n7)))), (2, PV.al (AL.one (Leaf.ptr 2 0))), (5, PV.al (AL.one (Leaf.v (Value.int IntKind.i64 n8))))], boxes := [(2, [Leaf.sl Tag.free 4 l0, Leaf.v (Value.int IntKind.i64 n1), Leaf.v (Value.int IntKind.i64 n2), Leaf.sl Tag.free 8 l3, Leaf.sl Tag.free 6 l4, Leaf.sl Tag.free 5 l5, Leaf.sl Tag.free 3 l6])] }

theorem spec_SumsOk_L0_x1 (l0 : List (List D)) (n1 : Int) (n2 : Int) (l3 : List (List D)) (l4 : List (List D)) (l5 : List (List D)) (l6 : List (List D)) (n7 : Int) (n8 : Int) (n9 : Int)
    (h : Obs [decide (n8 < (↑l4.length : Int)) = false]) :
    Tr Try.prog (loopOf Try.f46 0) (spec_SumsOk_L0 l0 n1 n2 l3 l4 l5 l6 n7 n8 n9) (Ex.exit 0) (spec_SumsOk_X0 l0 n1 n2 l3 l4 l5 l6 n7 n9) :=
  .of_loopc (ks := [2, 1, 5]) (bs := [2]) (ans := [Ans.br false]) (by kernel_rfl) h

theorem spec_SumsOk_p0 (l0 : List (List D)) (n1 : Int) (n2 : Int) (l3 : List (List D)) (l4 : List (List D)) (l5 : List (List D)) (l6 : List (List D)) (n7 : Int) (n8 : Int) (n9 : Int)
    (h : Obs [LoopOk Try.prog (loopOf Try.f46 0) (spec_SumsOk_L0 l0 n1 n2 l3 l4 l5 l6 n7 0 0) (Ex.exit 0) (spec_SumsOk_X0 l0 n1 n2 l3 l4 l5 l6 n7 n8), Ret Try.prog 98 [AD.agg [D.sl 4 l0, I n1, I n2, D.sl 8 l3, D.sl 6 l4, D.sl 5 l5, D.sl 3 l6], AD.one (I n7)] [AD.one (I n9)]]) :
    Ret Try.prog 46 [AD.agg [D.sl 4 l0, I n1, I n2, D.sl 8 l3, D.sl 6 l4, D.sl 5 l5, D.sl 3 l6], AD.one (I n7)] [AD.one (B (n9 == n8))] :=
  .of [Ans.loop [] [6, 2, 5, 1] [2] (Ex.exit 0) (spec_SumsOk_X0 l0 n1 n2 l3 l4 l5 l6 n7 n8), Ans.res [AD.one (I n9)]] _ Try.func46 rfl (by kernel_rfl) h

/- loop.example/g00973/impl.SumsOk -/

def impl_SumsOk_L0 (l0 : List (List D)) (n1 : Int) (n2 : Int) (n3 : Int) (l4 : List (List D)) (n5 : Int) (n6 : Int) (l7 : List (List D)) (l8 : List (List D)) (l9 : List (List D)) (l10 : List (List D)) : St :=
  { env := envOf 26 [(1, PV.al (AL.one (Leaf.v (Value.int IntKind.i64 n1)))), (2, PV.al (AL.one (Leaf.ptr 2 0))), (5, PV.al (AL.one (Leaf.v (Value.int IntKind.i64 n3)))), (9, PV.al (AL.one (Leaf.sl Tag.free 6 l0))), (10, PV.al (AL.one (Leaf.v (Value.int IntKind.i64 (↑l0.length : Int))))), (11, PV.al (AL.one (Leaf.v (Value.int IntKind.i64 n2))))], boxes := [(2, [Leaf.sl Tag.free 4 l4, Leaf.v (Value.int IntKind.i64 n5), Leaf.v (Value.int IntKind.i64 n6), Leaf.sl Tag.free 8 l7, Leaf.sl Tag.free 6 l8, Leaf.sl Tag.free 5 l9, Leaf.sl Tag.free 3 l10])] }

theorem impl_SumsOk_L0_s0 (l4 : List (List D)) (n7 : Int) (n8 : Int) (n9 : Int) (l10 : List (List D)) (n11 : Int) (n12 : Int) (l13 : List (List D)) (l14 : List (List D)) (l15 : List (List D)) (l16 : List (List D)) (n17 : Int) (l18 : List (List D)) (n19 : Int) (n20 : Int) (n21 : Int) (n22 : Int) (n23 : Int)
    (h : Obs [decide (n8 < (↑l4.length : Int)) = true, 0 ≤ n8, n8 < (↑l4.length : Int), l4[n8.toNat]? = some [I n17, D.sl 5 l18, I n19, I n20, I n21, I n22], Ret Try.prog 99 [AD.agg [I n17, D.sl 5 l18, I n19, I n20, I n21, I n22], AD.one (I n7)] [AD.one (I n23)], inInt IntKind.i64 (n9 + n23), inInt IntKind.i64 (n8 + 1)]) :
    Tr Try.prog (loopOf Try.f47 0) (impl_SumsOk_L0 l4 n7 n8 n9 l10 n11 n12 l13 l14 l15 l16) Ex.normal (impl_SumsOk_L0 l4 n7 (n8 + 1) (n9 + n23) l10 n11 n12 l13 l14 l15 l16) :=
  .of_loopc (ks := [11, 10, 9, 5, 1, 2]) (bs := [2]) (ans := [Ans.br true, Ans.el [I n17, D.sl 5 l18, I n19, I n20, I n21, I n22], Ans.res [AD.one (I n23)]]) (by kernel_rfl) h

def impl_SumsOk_X0 (n0 : Int) (n1 : Int) (l2 : List (List D)) (n3 : Int) (n4 : Int) (l5 : List (List D)) (l6 : List (List D)) (l7 : List (List D)) (l8 : List (List D)) : St :=
  { env := envOf 26 [(1, PV.al (AL.one (Leaf.v (Value.int IntKind.i64 n0)))), (2, PV.al (AL.one (Leaf.ptr 2 0))), (5, PV.al (AL.one (Leaf.v (Value.int IntKind.i64 n1))))], boxes := [(2, [Leaf.sl Tag.free 4 l2, Leaf.v (Value.int IntKind.i64 n3), Leaf.v (Value.int IntKind.i64 n4), Leaf.sl Tag.free 8 l5, Leaf.sl Tag.free 6 l6, Leaf.sl Tag.free 5 l7, Leaf.sl Tag.free 3 l8])] }

theorem impl_SumsOk_L0_x1 (l4 : List (List D)) (n7 : Int) (n8 : Int) (n9 : Int) (l10 : List (List D)) (n11 : Int) (n12 : Int) (l13 : List (List D)) (l14 : List (List D)) (l15 : List (List D)) (l16 : List (List D))
    (h : Obs [decide (n8 < (↑l4.length : Int)) = false]) :
    Tr Try.prog (loopOf Try.f47 0) (impl_SumsOk_L0 l4 n7 n8 n9 l10 n11 n12 l13 l14 l15 l16) (Ex.exit 0) (impl_SumsOk_X0 n7 n9 l10 n11 n12 l13 l14 l15 l16) :=
  .of_loopc (ks := [2, 1, 5]) (bs := [2]) (ans := [Ans.br false]) (by kernel_rfl) h

theorem impl_SumsOk_p0 (l0 : List (List D)) (n1 : Int) (n2 : Int) (l3 : List (List D)) (l4 : List (List D)) (l5 : List (List D)) (l6 : List (List D)) (n7 : Int) (n8 : Int) (l9 : List (List D)) (n10 : Int) (n11 : Int) (l12 : List (List D)) (l13 : List (List D)) (l14 : List (List D)) (l15 : List (List D)) (n16 : Int)
    (h : Obs [LoopOk Try.prog (loopOf Try.f47 0) (impl_SumsOk_L0 l4 n7 0 0 l0 n1 n2 l3 l4 l5 l6) (Ex.exit 0) (impl_SumsOk_X0 n7 n8 l9 n10 n11 l12 l13 l14 l15), Ret Try.prog 100 [AD.agg [D.sl 4 l9, I n10, I n11, D.sl 8 l12, D.sl 6 l13, D.sl 5 l14, D.sl 3 l15], AD.one (I n7)] [AD.one (I n16)]]) :
    Ret Try.prog 47 [AD.agg [D.sl 4 l0, I n1, I n2, D.sl 8 l3, D.sl 6 l4, D.sl 5 l5, D.sl 3 l6], AD.one (I n7)] [AD.one (B (n16 == n8))] :=
  .of [Ans.loop [] [11, 10, 9, 5, 1, 2] [2] (Ex.exit 0) (impl_SumsOk_X0 n7 n8 l9 n10 n11 l12 l13 l14 l15), Ans.res [AD.one (I n16)]] _ Try.func47 rfl (by kernel_rfl) h

/- loop.example/g00973/spec.InFlight -/

theorem spec_InFlight_p0 (n0 : Int) (l1 : List (List D)) (n2 : Int) (n3 : Int) (n4 : Int) (n5 : Int) (n6 : Int) (l7 : List (List D))
    (h : Obs [Ret Try.prog 122 [AD.one (D.sl 5 l1), AD.one (I n6)] [AD.one (D.sl 5 l7)]]) :
    Ret Try.prog 97 [AD.agg [I n0, D.sl 5 l1, I n2, I n3, I n4, I n5], AD.one (I n6)] [AD.one (I (↑l7.length : Int))] :=
  .of [Ans.res [AD.one (D.sl 5 l7)]] _ Try.func97 rfl (by kernel_rfl) h

/- loop.example/g00973/impl.InFlight -/

theorem impl_InFlight_p0 (n0 : Int) (l1 : List (List D)) (n2 : Int) (n3 : Int) (n4 : Int) (n5 : Int) (n6 : Int) (l7 : List (List D))
    (h : Obs [Ret Try.prog 123 [AD.one (D.sl 5 l1), AD.one (I n6)] [AD.one (D.sl 5 l7)]]) :
    Ret Try.prog 99 [AD.agg [I n0, D.sl 5 l1, I n2, I n3, I n4, I n5], AD.one (I n6)] [AD.one (I (↑l7.length : Int))] :=
  .of [Ans.res [AD.one (D.sl 5 l7)]] _ Try.func99 rfl (by kernel_rfl) h

/- loop.example/g00973/spec.DeficitOf -/

def spec_DeficitOf_L0 (l0 : List (List D)) (n1 : Int) (n2 : Int) (l3 : List (List D)) (l4 : List (List D)) (l5 : List (List D)) (l6 : List (List D)) (n7 : Int) (n8 : Int) (n9 : Int) : St :=
  { env := envOf 36 [(1, PV.al (AL.one (Leaf.v (Value.int IntKind.i64 n7)))), (2, PV.al (AL.one (Leaf.ptr 2 0))), (5, PV.al (AL.one (Leaf.v (Value.int IntKind.i64 n9)))), (6, PV.al (AL.one (Leaf.v (Value.int IntKind.i64 n8))))], boxes := [(2, [Leaf.sl Tag.free 4 l0, Leaf.v (Value.int IntKind.i64 n1), Leaf.v (Value.int IntKind.i64 n2), Leaf.sl Tag.free 8 l3, Leaf.sl Tag.free 6 l4, Leaf.sl Tag.free 5 l5, Leaf.sl Tag.free 3 l6])] }

theorem spec_DeficitOf_L0_s0 (l0 : List (List D)) (n1 : Int) (n2 : Int) (l3 : List (List D)) (l4 : List (List D)) (l5 : List (List D)) (l6 : List (List D)) (n7 : Int) (n8 : Int) (n9 : Int) (l10 : List (List D)) (l11 : List (List D)) (l12 : List (List D)) (l13 : List (List D)) (l14 : List (List D)) (l15 : List (List D)) (l16 : List (List D)) (l17 : List (List D)) (b18 : Bool) (l19 : List (List D)) (l20 : List (List D)) (l21 : List (List D)) (l22 : List (List D)) (l23 : List (List D)) (l24 : List (List D)) (l25 : List (List D)) (l26 : List (List D)) (n27 : Int)
    (h : Obs [decide (n8 < (↑l3.length : Int)) = true, 0 ≤ n8, n8 < (↑l3.length : Int), l3[n8.toNat]? = some [D.sl 5 l10, D.sl 5 l11, D.sl 5 l12, D.sl 4 l13, D.sl 1 l14, D.sl 1 l15, D.sl 1 l16, D.sl 2 l17], inInt IntKind.i64 ((↑l14.length : Int) - 1), Ret Try.prog 90 [AD.one (I n7), AD.one (I 0), AD.one (I ((↑l14.length : Int) - 1))] [AD.one (B b18)], b18 = true, 0 ≤ n8, n8 < (↑l3.length : Int), l3[n8.toNat]? = some [D.sl 5 l19, D.sl 5 l20, D.sl 5 l21, D.sl 4 l22, D.sl 1 l23, D.sl 1 l24, D.sl 1 l25, D.sl 2 l26], 0 ≤ n7, n7 < (↑l23.length : Int), l23[n7.toNat]? = some [I n27], inInt IntKind.i64 (n8 + 1)]) :
    Tr Try.prog (loopOf Try.f98 0) (spec_DeficitOf_L0 l0 n1 n2 l3 l4 l5 l6 n7 n8 n9) Ex.normal (spec_DeficitOf_L0 l0 n1 n2 l3 l4 l5 l6 n7 (n8 + 1) (IntKind.i64.wrap (n9 + n27))) :=
  .of_loopc (ks := [6, 2, 1, 5]) (bs := [2]) (ans := [Ans.br true, Ans.el [D.sl 5 l10, D.sl 5 l11, D.sl 5 l12, D.sl 4 l13, D.sl 1 l14, D.sl 1 l15, D.sl 1 l16, D.sl 2 l17], Ans.res [AD.one (B b18)], Ans.br true, Ans.el [D.sl 5 l19, D.sl 5 l20, D.sl 5 l21, D.sl 4 l22, D.sl 1 l23, D.sl 1 l24, D.sl 1 l25, D.sl 2 l26], Ans.el [I n27], Ans.wr]) (by kernel_rfl) h

theorem spec_DeficitOf_L0_s1 (l0 : List (List D)) (n1 : Int) (n2 : Int) (l3 : List (List D)) (l4 : List (List D)) (l5 : List (List D)) (l6 : List (List D)) (n7 : Int) (n8 : Int) (n9 : Int) (l10 : List (List D)) (l11 : List (List D)) (l12 : List (List D)) (l13 : List (List D)) (l14 : List (List D)) (l15 : List (List D)) (l16 : List (List D)) (l17 : List (List D)) (b18 : Bool)
    (h : Obs [decide (n8 < (↑l3.length : Int)) = true, 0 ≤ n8, n8 < (↑l3.length : Int), l3[n8.toNat]? = some [D.sl 5 l10, D.sl 5 l11, D.sl 5 l12, D.sl 4 l13, D.sl 1 l14, D.sl 1 l15, D.sl 1 l16, D.sl 2 l17], inInt IntKind.i64 ((↑l14.length : Int) - 1), Ret Try.prog 90 [AD.one (I n7), AD.one (I 0), AD.one (I ((↑l14.length : Int) - 1))] [AD.one (B b18)], b18 = false, inInt IntKind.i64 (n8 + 1)]) :
    Tr Try.prog (loopOf Try.f98 0) (spec_DeficitOf_L0 l0 n1 n2 l3 l4 l5 l6 n7 n8 n9) Ex.normal (spec_DeficitOf_L0 l0 n1 n2 l3 l4 l5 l6 n7 (n8 + 1) n9) :=
  .of_loopc (ks := [6, 2, 1, 5]) (bs := [2]) (ans := [Ans.br true, Ans.el [D.sl 5 l10, D.sl 5 l11, D.sl 5 l12, D.sl 4 l13, D.sl 1 l14, D.sl 1 l15, D.sl 1 l16, D.sl 2 l17], Ans.res [AD.one (B b18)], Ans.br false]) (by kernel_rfl) h

def spec_DeficitOf_X0 (n0 : Int) : St :=
  { env := envOf 36 [(5, PV.al (AL.one (Leaf.v (Value.int IntKind.i64 n0))))], boxes := [] }

theorem spec_DeficitOf_L0_x2 (l0 : List (List D)) (n1 : Int) (n2 : Int) (l3 : List (List D)) (l4 : List (List D)) (l5 : List (List D)) (l6 : List (List D)) (n7 : Int) (n8 : Int) (n9 : Int)
    (h : Obs [decide (n8 < (↑l3.length : Int)) = false]) :
    Tr Try.prog (loopOf Try.f98 0) (spec_DeficitOf_L0 l0 n1 n2 l3 l4 l5 l6 n7 n8 n9) (Ex.exit 0) (spec_DeficitOf_X0 n9) :=
  .of_loopc (ks := [5]) (bs := []) (ans := [Ans.br false]) (by kernel_rfl) h

theorem spec_DeficitOf_p0 (l0 : List (List D)) (n1 : Int) (n2 : Int) (l3 : List (List D)) (l4 : List (List D)) (l5 : List (List D)) (l6 : List (List D)) (n7 : Int) (n8 : Int)
    (h : Obs [LoopOk Try.prog (loopOf Try.f98 0) (spec_DeficitOf_L0 l0 n1 n2 l3 l4 l5 l6 n7 0 0) (Ex.exit 0) (spec_DeficitOf_X0 n8)]) :
    Ret Try.prog 98 [AD.agg [D.sl 4 l0, I n1, I n2, D.sl 8 l3, D.sl 6 l4, D.sl 5 l5, D.sl 3 l6], AD.one (I n7)] [AD.one (I n8)] :=
  .of [Ans.loop [] [6, 2, 1, 5] [2] (Ex.exit 0) (spec_DeficitOf_X0 n8)] _ Try.func98 rfl (by kernel_rfl) h

/- loop.example/g00973/impl.DeficitOf -/

def impl_DeficitOf_L0 (l0 : List (List D)) (n1 : Int) (n2 : Int) (n3 : Int) : St :=
  { env := envOf 30 [(1, PV.al (AL.one (Leaf.v (Value.int IntKind.i64 n1)))), (5, PV.al (AL.one (Leaf.v (Value.int IntKind.i64 n3)))), (9, PV.al (AL.one (Leaf.sl Tag.free 8 l0))), (10, PV.al (AL.one (Leaf.v (Value.int IntKind.i64 (↑l0.length : Int))))), (11, PV.al (AL.one (Leaf.v (Value.int IntKind.i64 n2))))], boxes := [] }

theorem impl_DeficitOf_L0_s0 (l3 : List (List D)) (n7 : Int) (n8 : Int) (n9 : Int) (l10 : List (List D)) (l11 : List (List D)) (l12 : List (List D)) (l13 : List (List D)) (l14 : List (List D)) (l15 : List (List D)) (l16 : List (List D)) (l17 : List (List D)) (b18 : Bool) (n19 : Int)
    (h : Obs [decide (n8 < (↑l3.length : Int)) = true, 0 ≤ n8, n8 < (↑l3.length : Int), l3[n8.toNat]? = some [D.sl 5 l10, D.sl 5 l11, D.sl 5 l12, D.sl 4 l13, D.sl 1 l14, D.sl 1 l15, D.sl 1 l16, D.sl 2 l17], inInt IntKind.i64 ((↑l14.length : Int) - 1), Ret Try.prog 91 [AD.one (I n7), AD.one (I 0), AD.one (I ((↑l14.length : Int) - 1))] [AD.one (B b18)], b18 = true, 0 ≤ n7, n7 < (↑l14.length : Int), l14[n7.toNat]? = some [I n19], inInt IntKind.i64 (n8 + 1)]) :
    Tr Try.prog (loopOf Try.f100 0) (impl_DeficitOf_L0 l3 n7 n8 n9) Ex.normal (impl_DeficitOf_L0 l3 n7 (n8 + 1) (IntKind.i64.wrap (n9 + n19))) :=
  .of_loopc (ks := [11, 10, 9, 1, 5]) (bs := []) (ans := [Ans.br true, Ans.el [D.sl 5 l10, D.sl 5 l11, D.sl 5 l12, D.sl 4 l13, D.sl 1 l14, D.sl 1 l15, D.sl 1 l16, D.sl 2 l17], Ans.res [AD.one (B b18)], Ans.br true, Ans.el [I n19], Ans.wr]) (by kernel_rfl) h

theorem impl_DeficitOf_L0_s1 (l3 : List (List D)) (n7 : Int) (n8 : Int) (n9 : Int) (l10 : List (List D)) (l11 : List (List D)) (l12 : List (List D)) (l13 : List (List D)) (l14 : List (List D)) (l15 : List (List D)) (l16 : List (List D)) (l17 : List (List D)) (b18 : Bool)
    (h : Obs [decide (n8 < (↑l3.length : Int)) = true, 0 ≤ n8, n8 < (↑l3.length : Int), l3[n8.toNat]? = some [D.sl 5 l10, D.sl 5 l11, D.sl 5 l12, D.sl 4 l13, D.sl 1 l14, D.sl 1 l15, D.sl 1 l16, D.sl 2 l17], inInt IntKind.i64 ((↑l14.length : Int) - 1), Ret Try.prog 91 [AD.one (I n7), AD.one (I 0), AD.one (I ((↑l14.length : Int) - 1))] [AD.one (B b18)], b18 = false, inInt IntKind.i64 (n8 + 1)]) :
    Tr Try.prog (loopOf Try.f100 0) (impl_DeficitOf_L0 l3 n7 n8 n9) Ex.normal (impl_DeficitOf_L0 l3 n7 (n8 + 1) n9) :=
  .of_loopc (ks := [11, 10, 9, 1, 5]) (bs := []) (ans := [Ans.br true, Ans.el [D.sl 5 l10, D.sl 5 l11, D.sl 5 l12, D.sl 4 l13, D.sl 1 l14, D.sl 1 l15, D.sl 1 l16, D.sl 2 l17], Ans.res [AD.one (B b18)], Ans.br false]) (by kernel_rfl) h

def impl_DeficitOf_X0 (n0 : Int) : St :=
  { env := envOf 30 [(5, PV.al (AL.one (Leaf.v (Value.int IntKind.i64 n0))))], boxes := [] }

theorem impl_DeficitOf_L0_x2 (l3 : List (List D)) (n7 : Int) (n8 : Int) (n9 : Int)
    (h : Obs [decide (n8 < (↑l3.length : Int)) = false]) :
    Tr Try.prog (loopOf Try.f100 0) (impl_DeficitOf_L0 l3 n7 n8 n9) (Ex.exit 0) (impl_DeficitOf_X0 n9) :=
  .of_loopc (ks := [5]) (bs := []) (ans := [Ans.br false]) (by kernel_rfl) h

theorem impl_DeficitOf_p0 (l0 : List (List D)) (n1 : Int) (n2 : Int) (l3 : List (List D)) (l4 : List (List D)) (l5 : List (List D)) (l6 : List (List D)) (n7 : Int) (n8 : Int)
    (h : Obs [LoopOk Try.prog (loopOf Try.f100 0) (impl_DeficitOf_L0 l3 n7 0 0) (Ex.exit 0) (impl_DeficitOf_X0 n8)]) :
    Ret Try.prog 100 [AD.agg [D.sl 4 l0, I n1, I n2, D.sl 8 l3, D.sl 6 l4, D.sl 5 l5, D.sl 3 l6], AD.one (I n7)] [AD.one (I n8)] :=
  .of [Ans.loop [] [11, 10, 9, 1, 5] [] (Ex.exit 0) (impl_DeficitOf_X0 n8)] _ Try.func100 rfl (by kernel_rfl) h

/- loop.example/g00973/spec.OfEpoch -/

def spec_OfEpoch_L0 (l0 : List (List D)) (n1 : Int) (n2 : Int) (l3 : List (List D)) : St :=
  { env := envOf 30 [(0, PV.al (AL.one (Leaf.sl Tag.free 5 l0))), (1, PV.al (AL.one (Leaf.v (Value.int IntKind.i64 n1)))), (5, PV.al (AL.one (Leaf.sl (Tag.own 7) 5 l3))), (6, PV.al (AL.one (Leaf.v (Value.int IntKind.i64 n2))))], boxes := [] }

theorem spec_OfEpoch_L0_s0 (l0 : List (List D)) (n1 : Int) (n2 : Int) (l3 : List (List D)) (n4 : Int) (n5 : Int) (n6 : Int) (n7 : Int) (n8 : Int) (n9 : Int) (n10 : Int) (n11 : Int) (n12 : Int) (n13 : Int)
    (h : Obs [decide (n2 < (↑l0.length : Int)) = true, 0 ≤ n2, n2 < (↑l0.length : Int), l0[n2.toNat]? = some [I n4, I n5, I n6, I n7, I n8], (n5 == n1) = true, 0 ≤ n2, n2 < (↑l0.length : Int), l0[n2.toNat]? = some [I n9, I n10, I n11, I n12, I n13], (l3.length + [[I n9, I n10, I n11, I n12, I n13]].length) * 40 ≤ 140737488355328, l3.length + [[I n9, I n10, I n11, I n12, I n13]].length ≤ 9223372036854775807, Flat [[I n9, I n10, I n11, I n12, I n13]], inInt IntKind.i64 (n2 + 1)]) :
    Tr Try.prog (loopOf Try.f122 0) (spec_OfEpoch_L0 l0 n1 n2 l3) Ex.normal (spec_OfEpoch_L0 l0 n1 (n2 + 1) (l3 ++ [[I n9, I n10, I n11, I n12, I n13]])) :=
  .of_loopc (ks := [6, 0, 1, 5]) (bs := []) (ans := [Ans.br true, Ans.el [I n4, I n5, I n6, I n7, I n8], Ans.br true, Ans.el [I n9, I n10, I n11, I n12, I n13]]) (by kernel_rfl) h

theorem spec_OfEpoch_L0_s1 (l0 : List (List D)) (n1 : Int) (n2 : Int) (l3 : List (List D)) (n4 : Int) (n5 : Int) (n6 : Int) (n7 : Int) (n8 : Int)
    (h : Obs [decide (n2 < (↑l0.length : Int)) = true, 0 ≤ n2, n2 < (↑l0.length : Int), l0[n2.toNat]? = some [I n4, I n5, I n6, I n7, I n8], (n5 == n1) = false, inInt IntKind.i64 (n2 + 1)]) :
    Tr Try.prog (loopOf Try.f122 0) (spec_OfEpoch_L0 l0 n1 n2 l3) Ex.normal (spec_OfEpoch_L0 l0 n1 (n2 + 1) l3) :=
  .of_loopc (ks := [6, 0, 1, 5]) (bs := []) (ans := [Ans.br true, Ans.el [I n4, I n5, I n6, I n7, I n8], Ans.br false]) (by kernel_rfl) h

def spec_OfEpoch_X0 (l0 : List (List D)) : St :=
  { env := envOf 30 [(5, PV.al (AL.one (Leaf.sl (Tag.own 7) 5 l0)))], boxes := [] }

theorem spec_OfEpoch_L0_x2 (l0 : List (List D)) (n1 : Int) (n2 : Int) (l3 : List (List D))
    (h : Obs [decide (n2 < (↑l0.length : Int)) = false]) :
    Tr Try.prog (loopOf Try.f122 0) (spec_OfEpoch_L0 l0 n1 n2 l3) (Ex.exit 0) (spec_OfEpoch_X0 l3) :=
  .of_loopc (ks := [5]) (bs := []) (ans := [Ans.br false]) (by kernel_rfl) h

theorem spec_OfEpoch_p0 (l0 : List (List D)) (n1 : Int) (l2 : List (List D))
    (h : Obs [LoopOk Try.prog (loopOf Try.f122 0) (spec_OfEpoch_L0 l0 n1 0 []) (Ex.exit 0) (spec_OfEpoch_X0 l2)]) :
    Ret Try.prog 122 [AD.one (D.sl 5 l0), AD.one (I n1)] [AD.one (D.sl 5 l2)] :=
  .of [Ans.loop [] [6, 0, 1, 5] [] (Ex.exit 0) (spec_OfEpoch_X0 l2)] _ Try.func122 rfl (by kernel_rfl) h

/- loop.example/g00973/impl.OfEpoch -/

def impl_OfEpoch_L0 (l0 : List (List D)) (n1 : Int) (n2 : Int) (l3 : List (List D)) : St :=
  { env := envOf 25 [(1, PV.al (AL.one (Leaf.v (Value.int IntKind.i64 n1)))), (5, PV.al (AL.one (Leaf.sl (Tag.own 22) 5 l3))), (8, PV.al (AL.one (Leaf.sl Tag.free 5 l0))), (9, PV.al (AL.one (Leaf.v (Value.int IntKind.i64 (↑l0.length : Int))))), (10, PV.al (AL.one (Leaf.v (Value.int IntKind.i64 n2))))], boxes := [] }

theorem impl_OfEpoch_L0_s0 (l0 : List (List D)) (n1 : Int) (n2 : Int) (l3 : List (List D)) (n4 : Int) (n5 : Int) (n6 : Int) (n7 : Int) (n8 : Int)
    (h : Obs [decide (n2 < (↑l0.length : Int)) = true, 0 ≤ n2, n2 < (↑l0.length : Int), l0[n2.toNat]? = some [I n4, I n5, I n6, I n7, I n8], (n5 == n1) = true, (l3.length + [[I n4, I n5, I n6, I n7, I n8]].length) * 40 ≤ 140737488355328, l3.length + [[I n4, I n5, I n6, I n7, I n8]].length ≤ 9223372036854775807, Flat [[I n4, I n5, I n6, I n7, I n8]], inInt IntKind.i64 (n2 + 1)]) :
    Tr Try.prog (loopOf Try.f123 0) (impl_OfEpoch_L0 l0 n1 n2 l3) Ex.normal (impl_OfEpoch_L0 l0 n1 (n2 + 1) (l3 ++ [[I n4, I n5, I n6, I n7, I n8]])) :=
  .of_loopc (ks := [10, 9, 8, 1, 5]) (bs := []) (ans := [Ans.br true, Ans.el [I n4, I n5, I n6, I n7, I n8], Ans.br true]) (by kernel_rfl) h

theorem impl_OfEpoch_L0_s1 (l0 : List (List D)) (n1 : Int) (n2 : Int) (l3 : List (List D)) (n4 : Int) (n5 : Int) (n6 : Int) (n7 : Int) (n8 : Int)
    (h : Obs [decide (n2 < (↑l0.length : Int)) = true, 0 ≤ n2, n2 < (↑l0.length : Int), l0[n2.toNat]? = some [I n4, I n5, I n6, I n7, I n8], (n5 == n1) = false, inInt IntKind.i64 (n2 + 1)]) :
    Tr Try.prog (loopOf Try.f123 0) (impl_OfEpoch_L0 l0 n1 n2 l3) Ex.normal (impl_OfEpoch_L0 l0 n1 (n2 + 1) l3) :=
  .of_loopc (ks := [10, 9, 8, 1, 5]) (bs := []) (ans := [Ans.br true, Ans.el [I n4, I n5, I n6, I n7, I n8], Ans.br false]) (by kernel_rfl) h

def impl_OfEpoch_X0 (l0 : List (List D)) : St :=
  { env := envOf 25 [(5, PV.al (AL.one (Leaf.sl (Tag.own 22) 5 l0)))], boxes := [] }

theorem impl_OfEpoch_L0_x2 (l0 : List (List D)) (n1 : Int) (n2 : Int) (l3 : List (List D))
    (h : Obs [decide (n2 < (↑l0.length : Int)) = false]) :
    Tr Try.prog (loopOf Try.f123 0) (impl_OfEpoch_L0 l0 n1 n2 l3) (Ex.exit 0) (impl_OfEpoch_X0 l3) :=
  .of_loopc (ks := [5]) (bs := []) (ans := [Ans.br false]) (by kernel_rfl) h

theorem impl_OfEpoch_p0 (l0 : List (List D)) (n1 : Int) (l2 : List (List D))
    (h : Obs [LoopOk Try.prog (loopOf Try.f123 0) (impl_OfEpoch_L0 l0 n1 0 []) (Ex.exit 0) (impl_OfEpoch_X0 l2)]) :
    Ret Try.prog 123 [AD.one (D.sl 5 l0), AD.one (I n1)] [AD.one (D.sl 5 l2)] :=
  .of [Ans.loop [(5, 22, 5)] [10, 9, 8, 1, 5] [] (Ex.exit 0) (impl_OfEpoch_X0 l2)] _ Try.func123 rfl (by kernel_rfl) h


end Go.Proofs.Ytcdpehhhkfdoaaa
