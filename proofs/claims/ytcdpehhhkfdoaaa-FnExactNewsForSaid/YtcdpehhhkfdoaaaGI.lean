import Derived.Test.YtcdpehhhkfdoaaaRows
import Derived.Test.YtcdpehhhkfdoaaaR23
set_option linter.unusedVariables false
set_option linter.unusedSimpArgs false
namespace Go.Proofs.Ytcdpehhhkfdoaaa
open Go.Sx Go.RowKit

/- loop.example/g00973/spec.NewsFor -/

def spec_NewsFor_L0 (l0 : List (List D)) (n1 : Int) (n2 : Int) (l3 : List (List D)) (l4 : List (List D)) (l5 : List (List D)) (l6 : List (List D)) (n7 : Int) (n8 : Int) (l9 : List (List D)) : St :=
  { env := envOf 32 [(1, PV.al (AL.one (Leaf.v (Value.int IntKind.i64 n7)))), (2, PV.al (AL.one (Leaf.ptr 2 0))), (5, PV.al (AL.one (Leaf.sl (Tag.own 7) 3 l9))), (6, PV.al (AL.one (Leaf.v (Value.int IntKind.i64 n8))))], boxes := [(2, [Leaf.sl Tag.free 4 l0, Leaf.v (Value.int IntKind.i64 n1), Leaf.v (Value.int IntKind.i64 n2), Leaf.sl Tag.free 8 l3, Leaf.sl Tag.free 6 l4, Leaf.sl Tag.free 5 l5, Leaf.sl Tag.free 3 l6])] }

theorem spec_NewsFor_L0_s0 (l0 : List (List D)) (n1 : Int) (n2 : Int) (l3 : List (List D)) (l4 : List (List D)) (l5 : List (List D)) (l6 : List (List D)) (n7 : Int) (n8 : Int) (l9 : List (List D)) (n10 : Int) (n11 : Int) (b12 : Bool) (n13 : Int) (n14 : Int) (b15 : Bool)
    (h : Obs [decide (n8 < (↑l6.length : Int)) = true, 0 ≤ n8, n8 < (↑l6.length : Int), l6[n8.toNat]? = some [I n10, I n11, B b12], (n10 == n7) = true, 0 ≤ n8, n8 < (↑l6.length : Int), l6[n8.toNat]? = some [I n13, I n14, B b15], (l9.length + [[I n13, I n14, B b15]].length) * 24 ≤ 140737488355328, l9.length + [[I n13, I n14, B b15]].length ≤ 9223372036854775807, Flat [[I n13, I n14, B b15]], inInt IntKind.i64 (n8 + 1)]) :
    Tr Try.prog (loopOf Try.f50 0) (spec_NewsFor_L0 l0 n1 n2 l3 l4 l5 l6 n7 n8 l9) Ex.normal (spec_NewsFor_L0 l0 n1 n2 l3 l4 l5 l6 n7 (n8 + 1) (l9 ++ [[I n13, I n14, B b15]])) :=
  .of_loopc (ks := [6, 2, 1, 5]) (bs := [2]) (ans := [Ans.br true, Ans.el [I n10, I n11, B b12], Ans.br true, Ans.el [I n13, I n14, B b15]]) (by kernel_rfl) h

theorem spec_NewsFor_L0_s1 (l0 : List (List D)) (n1 : Int) (n2 : Int) (l3 : List (List D)) (l4 : List (List D)) (l5 : List (List D)) (l6 : List (List D)) (n7 : Int) (n8 : Int) (l9 : List (List D)) (n10 : Int) (n11 : Int) (b12 : Bool)
    (h : Obs [decide (n8 < (↑l6.length : Int)) = true, 0 ≤ n8, n8 < (↑l6.length : Int), l6[n8.toNat]? = some [I n10, I n11, B b12], (n10 == n7) = false, inInt IntKind.i64 (n8 + 1)]) :
    Tr Try.prog (loopOf Try.f50 0) (spec_NewsFor_L0 l0 n1 n2 l3 l4 l5 l6 n7 n8 l9) Ex.normal (spec_NewsFor_L0 l0 n1 n2 l3 l4 l5 l6 n7 (n8 + 1) l9) :=
  .of_loopc (ks := [6, 2, 1, 5]) (bs := [2]) (ans := [Ans.br true, Ans.el [I n10, I n11, B b12], Ans.br false]) (by kernel_rfl) h

def spec_NewsFor_X0 (l0 : List (List D)) : St :=
  { env := envOf 32 [(5, PV.al (AL.one (Leaf.sl (Tag.own 7) 3 l0)))], boxes := [] }

theorem spec_NewsFor_L0_x2 (l0 : List (List D)) (n1 : Int) (n2 : Int) (l3 : List (List D)) (l4 : List (List D)) (l5 : List (List D)) (l6 : List (List D)) (n7 : Int) (n8 : Int) (l9 : List (List D))
    (h : Obs [decide (n8 < (↑l6.length : Int)) = false]) :
    Tr Try.prog (loopOf Try.f50 0) (spec_NewsFor_L0 l0 n1 n2 l3 l4 l5 l6 n7 n8 l9) (Ex.exit 0) (spec_NewsFor_X0 l9) :=
  .of_loopc (ks := [5]) (bs := []) (ans := [Ans.br false]) (by kernel_rfl) h

theorem spec_NewsFor_p0 (l0 : List (List D)) (n1 : Int) (n2 : Int) (l3 : List (List D)) (l4 : List (List D)) (l5 : List (List D)) (l6 : List (List D)) (n7 : Int) (l8 : List (List D))
    (h : Obs [LoopOk Try.prog (loopOf Try.f50 0) (spec_NewsFor_L0 l0 n1 n2 l3 l4 l5 l6 n7 0 []) (Ex.exit 0) (spec_NewsFor_X0 l8)]) :
    Ret Try.prog 50 [AD.agg [D.sl 4 l0, I n1, I n2, D.sl 8 l3, D.sl 6 l4, D.sl 5 l5, D.sl 3 l6], AD.one (I n7)] [AD.one (D.sl 3 l8)] :=
  .of [Ans.loop [] [6, 2, 1, 5] [2] (Ex.exit 0) (spec_NewsFor_X0 l8)] _ Try.func50 rfl (by kernel_rfl) h

/- loop.example/g00973/impl.NewsFor -/

def impl_NewsFor_L0 (l0 : List (List D)) (n1 : Int) (n2 : Int) (l3 : List (List D)) : St :=
  { env := envOf 25 [(1, PV.al (AL.one (Leaf.v (Value.int IntKind.i64 n1)))), (5, PV.al (AL.one (Leaf.sl (Tag.own 22) 3 l3))), (9, PV.al (AL.one (Leaf.sl Tag.free 3 l0))), (10, PV.al (AL.one (Leaf.v (Value.int IntKind.i64 (↑l0.length : Int))))), (11, PV.al (AL.one (Leaf.v (Value.int IntKind.i64 n2))))], boxes := [] }

theorem impl_NewsFor_L0_s0 (l6 : List (List D)) (n7 : Int) (n8 : Int) (l9 : List (List D)) (n10 : Int) (n11 : Int) (b12 : Bool)
    (h : Obs [decide (n8 < (↑l6.length : Int)) = true, 0 ≤ n8, n8 < (↑l6.length : Int), l6[n8.toNat]? = some [I n10, I n11, B b12], (n10 == n7) = true, (l9.length + [[I n10, I n11, B b12]].length) * 24 ≤ 140737488355328, l9.length + [[I n10, I n11, B b12]].length ≤ 9223372036854775807, Flat [[I n10, I n11, B b12]], inInt IntKind.i64 (n8 + 1)]) :
    Tr Try.prog (loopOf Try.f51 0) (impl_NewsFor_L0 l6 n7 n8 l9) Ex.normal (impl_NewsFor_L0 l6 n7 (n8 + 1) (l9 ++ [[I n10, I n11, B b12]])) :=
  .of_loopc (ks := [11, 10, 9, 1, 5]) (bs := []) (ans := [Ans.br true, Ans.el [I n10, I n11, B b12], Ans.br true]) (by kernel_rfl) h

theorem impl_NewsFor_L0_s1 (l6 : List (List D)) (n7 : Int) (n8 : Int) (l9 : List (List D)) (n10 : Int) (n11 : Int) (b12 : Bool)
    (h : Obs [decide (n8 < (↑l6.length : Int)) = true, 0 ≤ n8, n8 < (↑l6.length : Int), l6[n8.toNat]? = some [I n10, I n11, B b12], (n10 == n7) = false, inInt IntKind.i64 (n8 + 1)]) :
    Tr Try.prog (loopOf Try.f51 0) (impl_NewsFor_L0 l6 n7 n8 l9) Ex.normal (impl_NewsFor_L0 l6 n7 (n8 + 1) l9) :=
  .of_loopc (ks := [11, 10, 9, 1, 5]) (bs := []) (ans := [Ans.br true, Ans.el [I n10, I n11, B b12], Ans.br false]) (by kernel_rfl) h

def impl_NewsFor_X0 (l0 : List (List D)) : St :=
  { env := envOf 25 [(5, PV.al (AL.one (Leaf.sl (Tag.own 22) 3 l0)))], boxes := [] }

theorem impl_NewsFor_L0_x2 (l6 : List (List D)) (n7 : Int) (n8 : Int) (l9 : List (List D))
    (h : Obs [decide (n8 < (↑l6.length : Int)) = false]) :
    Tr Try.prog (loopOf Try.f51 0) (impl_NewsFor_L0 l6 n7 n8 l9) (Ex.exit 0) (impl_NewsFor_X0 l9) :=
  .of_loopc (ks := [5]) (bs := []) (ans := [Ans.br false]) (by kernel_rfl) h

theorem impl_NewsFor_p0 (l0 : List (List D)) (n1 : Int) (n2 : Int) (l3 : List (List D)) (l4 : List (List D)) (l5 : List (List D)) (l6 : List (List D)) (n7 : Int) (l8 : List (List D))
    (h : Obs [LoopOk Try.prog (loopOf Try.f51 0) (impl_NewsFor_L0 l6 n7 0 []) (Ex.exit 0) (impl_NewsFor_X0 l8)]) :
    Ret Try.prog 51 [AD.agg [D.sl 4 l0, I n1, I n2, D.sl 8 l3, D.sl 6 l4, D.sl 5 l5, D.sl 3 l6], AD.one (I n7)] [AD.one (D.sl 3 l8)] :=
  .of [Ans.loop [(5, 22, 3)] [11, 10, 9, 1, 5] [] (Ex.exit 0) (impl_NewsFor_X0 l8)] _ Try.func51 rfl (by kernel_rfl) h

/- loop.example/g00973/spec.CappedIn -/

def spec_CappedIn_L0 (n0 : Int) (l1 : List (List D)) (l2 : List (List D)) (n3 : Int) (n4 : Int) (l5 : List (List D)) (l6 : List (List D)) (l7 : List (List D)) (l8 : List (List D)) : St :=
  { env := envOf 37 [(1, PV.al (AL.one (Leaf.ptr 1 0))), (3, PV.al (AL.one (Leaf.sl (Tag.own 7) 1 l1))), (4, PV.al (AL.one (Leaf.v (Value.int IntKind.i64 n0))))], boxes := [(1, [Leaf.sl Tag.free 4 l2, Leaf.v (Value.int IntKind.i64 n3), Leaf.v (Value.int IntKind.i64 n4), Leaf.sl Tag.free 8 l5, Leaf.sl Tag.free 6 l6, Leaf.sl Tag.free 5 l7, Leaf.sl Tag.free 3 l8])] }

theorem spec_CappedIn_L0_s0 (n7 : Int) (l8 : List (List D)) (l9 : List (List D)) (n10 : Int) (n11 : Int) (l12 : List (List D)) (l13 : List (List D)) (l14 : List (List D)) (l15 : List (List D)) (l16 : List (List D)) (l17 : List (List D)) (l18 : List (List D)) (l19 : List (List D)) (l20 : List (List D)) (l21 : List (List D)) (l22 : List (List D)) (l23 : List (List D)) (n24 : Int) (b25 : Bool) (b26 : Bool)
    (h : Obs [decide (n7 ≤ 3) = true, decide ((↑l12.length : Int) > 0) = true, (0 : Int) ≤ 0, 0 < (↑l12.length : Int), l12[0]? = some [D.sl 5 l16, D.sl 5 l17, D.sl 5 l18, D.sl 4 l19, D.sl 1 l20, D.sl 1 l21, D.sl 1 l22, D.sl 2 l23], Ret Try.prog 24 [AD.agg [D.sl 5 l16, D.sl 5 l17, D.sl 5 l18, D.sl 4 l19, D.sl 1 l20, D.sl 1 l21, D.sl 1 l22, D.sl 2 l23], AD.one (I n7)] [AD.agg [I n24, B b25], AD.one (B b26)], b26 = true, b25 = true, (l8.length + [[I n7]].length) * 8 ≤ 140737488355328, l8.length + [[I n7]].length ≤ 9223372036854775807, Flat [[I n7]], inInt IntKind.i64 (n7 + 1)]) :
    Tr Try.prog (loopOf Try.f56 0) (spec_CappedIn_L0 n7 l8 l9 n10 n11 l12 l13 l14 l15) Ex.normal (spec_CappedIn_L0 (n7 + 1) (l8 ++ [[I n7]]) l9 n10 n11 l12 l13 l14 l15) :=
  .of_loopc (ks := [4, 1, 3]) (bs := [1]) (ans := [Ans.br true, Ans.br true, Ans.el [D.sl 5 l16, D.sl 5 l17, D.sl 5 l18, D.sl 4 l19, D.sl 1 l20, D.sl 1 l21, D.sl 1 l22, D.sl 2 l23], Ans.res [AD.agg [I n24, B b25], AD.one (B b26)], Ans.br true, Ans.br true]) (by kernel_rfl) h

theorem spec_CappedIn_L0_s1 (n7 : Int) (l8 : List (List D)) (l9 : List (List D)) (n10 : Int) (n11 : Int) (l12 : List (List D)) (l13 : List (List D)) (l14 : List (List D)) (l15 : List (List D)) (l16 : List (List D)) (l17 : List (List D)) (l18 : List (List D)) (l19 : List (List D)) (l20 : List (List D)) (l21 : List (List D)) (l22 : List (List D)) (l23 : List (List D)) (n24 : Int) (b25 : Bool) (b26 : Bool)
    (h : Obs [decide (n7 ≤ 3) = true, decide ((↑l12.length : Int) > 0) = true, (0 : Int) ≤ 0, 0 < (↑l12.length : Int), l12[0]? = some [D.sl 5 l16, D.sl 5 l17, D.sl 5 l18, D.sl 4 l19, D.sl 1 l20, D.sl 1 l21, D.sl 1 l22, D.sl 2 l23], Ret Try.prog 24 [AD.agg [D.sl 5 l16, D.sl 5 l17, D.sl 5 l18, D.sl 4 l19, D.sl 1 l20, D.sl 1 l21, D.sl 1 l22, D.sl 2 l23], AD.one (I n7)] [AD.agg [I n24, B b25], AD.one (B b26)], b26 = true, b25 = false, inInt IntKind.i64 (n7 + 1)]) :
    Tr Try.prog (loopOf Try.f56 0) (spec_CappedIn_L0 n7 l8 l9 n10 n11 l12 l13 l14 l15) Ex.normal (spec_CappedIn_L0 (n7 + 1) l8 l9 n10 n11 l12 l13 l14 l15) :=
  .of_loopc (ks := [4, 1, 3]) (bs := [1]) (ans := [Ans.br true, Ans.br true, Ans.el [D.sl 5 l16, D.sl 5 l17, D.sl 5 l18, D.sl 4 l19, D.sl 1 l20, D.sl 1 l21, D.sl 1 l22, D.sl 2 l23], Ans.res [AD.agg [I n24, B b25], AD.one (B b26)], Ans.br true, Ans.br false]) (by kernel_rfl) h

theorem spec_CappedIn_L0_s2 (n7 : Int) (l8 : List (List D)) (l9 : List (List D)) (n10 : Int) (n11 : Int) (l12 : List (List D)) (l13 : List (List D)) (l14 : List (List D)) (l15 : List (List D)) (l16 : List (List D)) (l17 : List (List D)) (l18 : List (List D)) (l19 : List (List D)) (l20 : List (List D)) (l21 : List (List D)) (l22 : List (List D)) (l23 : List (List D)) (n24 : Int) (b25 : Bool) (b26 : Bool)
    (h : Obs [decide (n7 ≤ 3) = true, decide ((↑l12.length : Int) > 0) = true, (0 : Int) ≤ 0, 0 < (↑l12.length : Int), l12[0]? = some [D.sl 5 l16, D.sl 5 l17, D.sl 5 l18, D.sl 4 l19, D.sl 1 l20, D.sl 1 l21, D.sl 1 l22, D.sl 2 l23], Ret Try.prog 24 [AD.agg [D.sl 5 l16, D.sl 5 l17, D.sl 5 l18, D.sl 4 l19, D.sl 1 l20, D.sl 1 l21, D.sl 1 l22, D.sl 2 l23], AD.one (I n7)] [AD.agg [I n24, B b25], AD.one (B b26)], b26 = false, inInt IntKind.i64 (n7 + 1)]) :
    Tr Try.prog (loopOf Try.f56 0) (spec_CappedIn_L0 n7 l8 l9 n10 n11 l12 l13 l14 l15) Ex.normal (spec_CappedIn_L0 (n7 + 1) l8 l9 n10 n11 l12 l13 l14 l15) :=
  .of_loopc (ks := [4, 1, 3]) (bs := [1]) (ans := [Ans.br true, Ans.br true, Ans.el [D.sl 5 l16, D.sl 5 l17, D.sl 5 l18, D.sl 4 l19, D.sl 1 l20, D.sl 1 l21, D.sl 1 l22, D.sl 2 l23], Ans.res [AD.agg [I n24, B b25], AD.one (B b26)], Ans.br false]) (by kernel_rfl) h

def spec_CappedIn_X0 (l0 : List (List D)) : St :=
  { env := envOf 37 [(3, PV.al (AL.one (Leaf.sl (Tag.own 7) 1 l0)))], boxes := [] }

theorem spec_CappedIn_L0_x3 (n7 : Int) (l8 : List (List D)) (l9 : List (List D)) (n10 : Int) (n11 : Int) (l12 : List (List D)) (l13 : List (List D)) (l14 : List (List D)) (l15 : List (List D))
    (h : Obs [decide (n7 ≤ 3) = true, decide ((↑l12.length : Int) > 0) = false]) :
    Tr Try.prog (loopOf Try.f56 0) (spec_CappedIn_L0 n7 l8 l9 n10 n11 l12 l13 l14 l15) (Ex.exit 0) (spec_CappedIn_X0 l8) :=
  .of_loopc (ks := [3]) (bs := []) (ans := [Ans.br true, Ans.br false]) (by kernel_rfl) h

theorem spec_CappedIn_L0_x4 (n7 : Int) (l8 : List (List D)) (l9 : List (List D)) (n10 : Int) (n11 : Int) (l12 : List (List D)) (l13 : List (List D)) (l14 : List (List D)) (l15 : List (List D))
    (h : Obs [decide (n7 ≤ 3) = false]) :
    Tr Try.prog (loopOf Try.f56 0) (spec_CappedIn_L0 n7 l8 l9 n10 n11 l12 l13 l14 l15) (Ex.exit 0) (spec_CappedIn_X0 l8) :=
  .of_loopc (ks := [3]) (bs := []) (ans := [Ans.br false]) (by kernel_rfl) h

theorem spec_CappedIn_p0 (l0 : List (List D)) (n1 : Int) (n2 : Int) (l3 : List (List D)) (l4 : List (List D)) (l5 : List (List D)) (l6 : List (List D)) (l7 : List (List D))
    (h : Obs [LoopOk Try.prog (loopOf Try.f56 0) (spec_CappedIn_L0 0 [] l0 n1 n2 l3 l4 l5 l6) (Ex.exit 0) (spec_CappedIn_X0 l7)]) :
    Ret Try.prog 56 [AD.agg [D.sl 4 l0, I n1, I n2, D.sl 8 l3, D.sl 6 l4, D.sl 5 l5, D.sl 3 l6]] [AD.one (D.sl 1 l7)] :=
  .of [Ans.loop [] [4, 1, 3] [1] (Ex.exit 0) (spec_CappedIn_X0 l7)] _ Try.func56 rfl (by kernel_rfl) h

/- loop.example/g00973/impl.CappedIn -/

theorem impl_CappedIn_p0 (l0 : List (List D)) (n1 : Int) (n2 : Int) (l3 : List (List D)) (l4 : List (List D)) (l5 : List (List D)) (l6 : List (List D))
    (h : Obs [((↑l3.length : Int) == 0) = true]) :
    Ret Try.prog 57 [AD.agg [D.sl 4 l0, I n1, I n2, D.sl 8 l3, D.sl 6 l4, D.sl 5 l5, D.sl 3 l6]] [AD.one (D.sl 1 [])] :=
  .of [Ans.br true] _ Try.func57 rfl (by kernel_rfl) h

def impl_CappedIn_L0 (n0 : Int) (l1 : List (List D)) (l2 : List (List D)) (n3 : Int) (n4 : Int) (l5 : List (List D)) (l6 : List (List D)) (l7 : List (List D)) (l8 : List (List D)) : St :=
  { env := envOf 31 [(1, PV.al (AL.one (Leaf.ptr 1 0))), (3, PV.al (AL.one (Leaf.sl (Tag.own 29) 1 l1))), (4, PV.al (AL.one (Leaf.v (Value.int IntKind.i64 n0))))], boxes := [(1, [Leaf.sl Tag.free 4 l2, Leaf.v (Value.int IntKind.i64 n3), Leaf.v (Value.int IntKind.i64 n4), Leaf.sl Tag.free 8 l5, Leaf.sl Tag.free 6 l6, Leaf.sl Tag.free 5 l7, Leaf.sl Tag.free 3 l8])] }

theorem impl_CappedIn_L0_s0 (n7 : Int) (l8 : List (List D)) (l9 : List (List D)) (n10 : Int) (n11 : Int) (l12 : List (List D)) (l13 : List (List D)) (l14 : List (List D)) (l15 : List (List D)) (l16 : List (List D)) (l17 : List (List D)) (l18 : List (List D)) (l19 : List (List D)) (l20 : List (List D)) (l21 : List (List D)) (l22 : List (List D)) (l23 : List (List D)) (n24 : Int) (b25 : Bool) (b26 : Bool)
    (h : Obs [decide (n7 ≤ 3) = true, (0 : Int) ≤ 0, 0 < (↑l12.length : Int), l12[0]? = some [D.sl 5 l16, D.sl 5 l17, D.sl 5 l18, D.sl 4 l19, D.sl 1 l20, D.sl 1 l21, D.sl 1 l22, D.sl 2 l23], Ret Try.prog 26 [AD.agg [D.sl 5 l16, D.sl 5 l17, D.sl 5 l18, D.sl 4 l19, D.sl 1 l20, D.sl 1 l21, D.sl 1 l22, D.sl 2 l23], AD.one (I n7)] [AD.agg [I n24, B b25], AD.one (B b26)], b25 = true, (l8.length + [[I n7]].length) * 8 ≤ 140737488355328, l8.length + [[I n7]].length ≤ 9223372036854775807, Flat [[I n7]], inInt IntKind.i64 (n7 + 1)]) :
    Tr Try.prog (loopOf Try.f57 0) (impl_CappedIn_L0 n7 l8 l9 n10 n11 l12 l13 l14 l15) Ex.normal (impl_CappedIn_L0 (n7 + 1) (l8 ++ [[I n7]]) l9 n10 n11 l12 l13 l14 l15) :=
  .of_loopc (ks := [4, 1, 3]) (bs := [1]) (ans := [Ans.br true, Ans.el [D.sl 5 l16, D.sl 5 l17, D.sl 5 l18, D.sl 4 l19, D.sl 1 l20, D.sl 1 l21, D.sl 1 l22, D.sl 2 l23], Ans.res [AD.agg [I n24, B b25], AD.one (B b26)], Ans.br true]) (by kernel_rfl) h

theorem impl_CappedIn_L0_s1 (n7 : Int) (l8 : List (List D)) (l9 : List (List D)) (n10 : Int) (n11 : Int) (l12 : List (List D)) (l13 : List (List D)) (l14 : List (List D)) (l15 : List (List D)) (l16 : List (List D)) (l17 : List (List D)) (l18 : List (List D)) (l19 : List (List D)) (l20 : List (List D)) (l21 : List (List D)) (l22 : List (List D)) (l23 : List (List D)) (n24 : Int) (b25 : Bool) (b26 : Bool)
    (h : Obs [decide (n7 ≤ 3) = true, (0 : Int) ≤ 0, 0 < (↑l12.length : Int), l12[0]? = some [D.sl 5 l16, D.sl 5 l17, D.sl 5 l18, D.sl 4 l19, D.sl 1 l20, D.sl 1 l21, D.sl 1 l22, D.sl 2 l23], Ret Try.prog 26 [AD.agg [D.sl 5 l16, D.sl 5 l17, D.sl 5 l18, D.sl 4 l19, D.sl 1 l20, D.sl 1 l21, D.sl 1 l22, D.sl 2 l23], AD.one (I n7)] [AD.agg [I n24, B b25], AD.one (B b26)], b25 = false, inInt IntKind.i64 (n7 + 1)]) :
    Tr Try.prog (loopOf Try.f57 0) (impl_CappedIn_L0 n7 l8 l9 n10 n11 l12 l13 l14 l15) Ex.normal (impl_CappedIn_L0 (n7 + 1) l8 l9 n10 n11 l12 l13 l14 l15) :=
  .of_loopc (ks := [4, 1, 3]) (bs := [1]) (ans := [Ans.br true, Ans.el [D.sl 5 l16, D.sl 5 l17, D.sl 5 l18, D.sl 4 l19, D.sl 1 l20, D.sl 1 l21, D.sl 1 l22, D.sl 2 l23], Ans.res [AD.agg [I n24, B b25], AD.one (B b26)], Ans.br false]) (by kernel_rfl) h

def impl_CappedIn_X0 (l0 : List (List D)) : St :=
  { env := envOf 31 [(3, PV.al (AL.one (Leaf.sl (Tag.own 29) 1 l0)))], boxes := [] }

theorem impl_CappedIn_L0_x2 (n7 : Int) (l8 : List (List D)) (l9 : List (List D)) (n10 : Int) (n11 : Int) (l12 : List (List D)) (l13 : List (List D)) (l14 : List (List D)) (l15 : List (List D))
    (h : Obs [decide (n7 ≤ 3) = false]) :
    Tr Try.prog (loopOf Try.f57 0) (impl_CappedIn_L0 n7 l8 l9 n10 n11 l12 l13 l14 l15) (Ex.exit 0) (impl_CappedIn_X0 l8) :=
  .of_loopc (ks := [3]) (bs := []) (ans := [Ans.br false]) (by kernel_rfl) h

theorem impl_CappedIn_p1 (l0 : List (List D)) (n1 : Int) (n2 : Int) (l3 : List (List D)) (l4 : List (List D)) (l5 : List (List D)) (l6 : List (List D)) (l7 : List (List D))
    (h : Obs [((↑l3.length : Int) == 0) = false, LoopOk Try.prog (loopOf Try.f57 0) (impl_CappedIn_L0 0 [] l0 n1 n2 l3 l4 l5 l6) (Ex.exit 0) (impl_CappedIn_X0 l7)]) :
    Ret Try.prog 57 [AD.agg [D.sl 4 l0, I n1, I n2, D.sl 8 l3, D.sl 6 l4, D.sl 5 l5, D.sl 3 l6]] [AD.one (D.sl 1 l7)] :=
  .of [Ans.br false, Ans.loop [(3, 29, 1)] [4, 1, 3] [1] (Ex.exit 0) (impl_CappedIn_X0 l7)] _ Try.func57 rfl (by kernel_rfl) h


end Go.Proofs.Ytcdpehhhkfdoaaa
