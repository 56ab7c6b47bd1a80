import Derived.Test.YtbbjajmimckabaaRows
import Derived.Test.YtbbjajmimckabaaR23
set_option linter.unusedVariables false
set_option linter.unusedSimpArgs false
namespace Go.Proofs.Ytbbjajmimckabaa
open Go.Sx Go.RowKit

/- loop.example/g00973/spec.NodeOk -/

theorem spec_NodeOk_p0 (n0 : Int) (n1 : Int) (n2 : Int) (l3 : List (List D)) (b4 : Bool) (b5 : Bool)
    (h : Obs [(n0 == 2) = true, Ret Try.prog 57 [AD.one (I n1), AD.one (I 0), AD.one (I 999)] [AD.one (B b4)], Ret Try.prog 57 [AD.one (I n0), AD.one (I 1), AD.one (I 8)] [AD.one (B b5)], (!b5) = true]) :
    Ret Try.prog 135 [AD.agg [I n0, I n1, I n2, D.sl 1 l3]] [AD.one (B false)] :=
  .of [Ans.br true, Ans.res [AD.one (B b4)], Ans.res [AD.one (B b5)], Ans.br true] _ Try.func135 rfl (by kernel_rfl) h

theorem spec_NodeOk_p1 (n0 : Int) (n1 : Int) (n2 : Int) (l3 : List (List D)) (b4 : Bool) (b5 : Bool)
    (h : Obs [(n0 == 2) = true, Ret Try.prog 57 [AD.one (I n1), AD.one (I 0), AD.one (I 999)] [AD.one (B b4)], Ret Try.prog 57 [AD.one (I n0), AD.one (I 1), AD.one (I 8)] [AD.one (B b5)], (!b5) = false, (!b4) = true]) :
    Ret Try.prog 135 [AD.agg [I n0, I n1, I n2, D.sl 1 l3]] [AD.one (B false)] :=
  .of [Ans.br true, Ans.res [AD.one (B b4)], Ans.res [AD.one (B b5)], Ans.br false, Ans.br true] _ Try.func135 rfl (by kernel_rfl) h

theorem spec_NodeOk_p2 (n0 : Int) (n1 : Int) (n2 : Int) (l3 : List (List D)) (b4 : Bool) (b5 : Bool)
    (h : Obs [(n0 == 2) = true, Ret Try.prog 57 [AD.one (I n1), AD.one (I 0), AD.one (I 999)] [AD.one (B b4)], Ret Try.prog 57 [AD.one (I n0), AD.one (I 1), AD.one (I 8)] [AD.one (B b5)], (!b5) = false, (!b4) = false, (!n2 == 0) = true]) :
    Ret Try.prog 135 [AD.agg [I n0, I n1, I n2, D.sl 1 l3]] [AD.one (B false)] :=
  .of [Ans.br true, Ans.res [AD.one (B b4)], Ans.res [AD.one (B b5)], Ans.br false, Ans.br false, Ans.br true] _ Try.func135 rfl (by kernel_rfl) h

theorem spec_NodeOk_p3 (n0 : Int) (n1 : Int) (n2 : Int) (l3 : List (List D)) (b4 : Bool) (b5 : Bool)
    (h : Obs [(n0 == 2) = true, Ret Try.prog 57 [AD.one (I n1), AD.one (I 0), AD.one (I 999)] [AD.one (B b4)], Ret Try.prog 57 [AD.one (I n0), AD.one (I 1), AD.one (I 8)] [AD.one (B b5)], (!b5) = false, (!b4) = false, (!n2 == 0) = false, decide ((↑l3.length : Int) > 2) = true]) :
    Ret Try.prog 135 [AD.agg [I n0, I n1, I n2, D.sl 1 l3]] [AD.one (B false)] :=
  .of [Ans.br true, Ans.res [AD.one (B b4)], Ans.res [AD.one (B b5)], Ans.br false, Ans.br false, Ans.br false, Ans.br true] _ Try.func135 rfl (by kernel_rfl) h

theorem spec_NodeOk_p4 (n0 : Int) (n1 : Int) (n2 : Int) (l3 : List (List D)) (b4 : Bool) (b5 : Bool)
    (h : Obs [(n0 == 2) = true, Ret Try.prog 57 [AD.one (I n1), AD.one (I 0), AD.one (I 999)] [AD.one (B b4)], Ret Try.prog 57 [AD.one (I n0), AD.one (I 1), AD.one (I 8)] [AD.one (B b5)], (!b5) = false, (!b4) = false, (!n2 == 0) = false, decide ((↑l3.length : Int) > 2) = false, (n0 == 8) = true, decide ((↑l3.length : Int) > 0) = true]) :
    Ret Try.prog 135 [AD.agg [I n0, I n1, I n2, D.sl 1 l3]] [AD.one (B false)] :=
  .of [Ans.br true, Ans.res [AD.one (B b4)], Ans.res [AD.one (B b5)], Ans.br false, Ans.br false, Ans.br false, Ans.br false, Ans.br true, Ans.br true] _ Try.func135 rfl (by kernel_rfl) h

def spec_NodeOk_L0 (n0 : Int) (n1 : Int) (n2 : Int) (l3 : List (List D)) (n4 : Int) : St :=
  { env := envOf 93 [(1, PV.al (AL.one (Leaf.ptr 1 0))), (5, PV.al (AL.one (Leaf.v (Value.int IntKind.i64 n4))))], boxes := [(1, [Leaf.v (Value.int IntKind.i64 n0), Leaf.v (Value.int IntKind.i64 n1), Leaf.v (Value.int IntKind.i64 n2), Leaf.sl Tag.free 1 l3])] }

def spec_NodeOk_X0 (b0 : Bool) : St :=
  { env := envOf 93 [(2, PV.al (AL.one (Leaf.sb b0)))], boxes := [] }

theorem spec_NodeOk_L0_x0 (n0 : Int) (n1 : Int) (n2 : Int) (l3 : List (List D)) (n6 : Int) (n7 : Int) (b8 : Bool)
    (h : Obs [decide (n6 < (↑l3.length : Int)) = true, 0 ≤ n6, n6 < (↑l3.length : Int), l3[n6.toNat]? = some [I n7], Ret Try.prog 57 [AD.one (I n7), AD.one (I 0), AD.one (I 7)] [AD.one (B b8)], (!b8) = true]) :
    Tr Try.prog (loopOf Try.f135 0) (spec_NodeOk_L0 n0 n1 n2 l3 n6) Ex.ret (spec_NodeOk_X0 false) :=
  .of_loopc (ks := [2]) (bs := []) (ans := [Ans.br true, Ans.el [I n7], Ans.res [AD.one (B b8)], Ans.br true]) (by kernel_rfl) h

theorem spec_NodeOk_L0_x1 (n0 : Int) (n1 : Int) (n2 : Int) (l3 : List (List D)) (n6 : Int) (n7 : Int) (b8 : Bool) (n9 : Int) (n10 : Int)
    (h : Obs [decide (n6 < (↑l3.length : Int)) = true, 0 ≤ n6, n6 < (↑l3.length : Int), l3[n6.toNat]? = some [I n7], Ret Try.prog 57 [AD.one (I n7), AD.one (I 0), AD.one (I 7)] [AD.one (B b8)], (!b8) = false, decide (n6 > 0) = true, (0 : Int) ≤ 0, 0 < (↑l3.length : Int), l3[0]? = some [I n9], (0 : Int) ≤ 1, 1 < (↑l3.length : Int), l3[1]? = some [I n10], (n9 == n10) = true]) :
    Tr Try.prog (loopOf Try.f135 0) (spec_NodeOk_L0 n0 n1 n2 l3 n6) Ex.ret (spec_NodeOk_X0 false) :=
  .of_loopc (ks := [2]) (bs := []) (ans := [Ans.br true, Ans.el [I n7], Ans.res [AD.one (B b8)], Ans.br false, Ans.br true, Ans.el [I n9], Ans.el [I n10], Ans.br true]) (by kernel_rfl) h

theorem spec_NodeOk_L0_s2 (n0 : Int) (n1 : Int) (n2 : Int) (l3 : List (List D)) (n6 : Int) (n7 : Int) (b8 : Bool) (n9 : Int) (n10 : Int)
    (h : Obs [decide (n6 < (↑l3.length : Int)) = true, 0 ≤ n6, n6 < (↑l3.length : Int), l3[n6.toNat]? = some [I n7], Ret Try.prog 57 [AD.one (I n7), AD.one (I 0), AD.one (I 7)] [AD.one (B b8)], (!b8) = false, decide (n6 > 0) = true, (0 : Int) ≤ 0, 0 < (↑l3.length : Int), l3[0]? = some [I n9], (0 : Int) ≤ 1, 1 < (↑l3.length : Int), l3[1]? = some [I n10], (n9 == n10) = false, inInt IntKind.i64 (n6 + 1)]) :
    Tr Try.prog (loopOf Try.f135 0) (spec_NodeOk_L0 n0 n1 n2 l3 n6) Ex.normal (spec_NodeOk_L0 n0 n1 n2 l3 (n6 + 1)) :=
  .of_loopc (ks := [5, 1]) (bs := [1]) (ans := [Ans.br true, Ans.el [I n7], Ans.res [AD.one (B b8)], Ans.br false, Ans.br true, Ans.el [I n9], Ans.el [I n10], Ans.br false]) (by kernel_rfl) h

theorem spec_NodeOk_L0_s3 (n0 : Int) (n1 : Int) (n2 : Int) (l3 : List (List D)) (n6 : Int) (n7 : Int) (b8 : Bool)
    (h : Obs [decide (n6 < (↑l3.length : Int)) = true, 0 ≤ n6, n6 < (↑l3.length : Int), l3[n6.toNat]? = some [I n7], Ret Try.prog 57 [AD.one (I n7), AD.one (I 0), AD.one (I 7)] [AD.one (B b8)], (!b8) = false, decide (n6 > 0) = false, inInt IntKind.i64 (n6 + 1)]) :
    Tr Try.prog (loopOf Try.f135 0) (spec_NodeOk_L0 n0 n1 n2 l3 n6) Ex.normal (spec_NodeOk_L0 n0 n1 n2 l3 (n6 + 1)) :=
  .of_loopc (ks := [5, 1]) (bs := [1]) (ans := [Ans.br true, Ans.el [I n7], Ans.res [AD.one (B b8)], Ans.br false, Ans.br false]) (by kernel_rfl) h

def spec_NodeOk_X0v2 : St :=
  { env := envOf 93 [], boxes := [] }

theorem spec_NodeOk_L0_x4 (n0 : Int) (n1 : Int) (n2 : Int) (l3 : List (List D)) (n6 : Int)
    (h : Obs [decide (n6 < (↑l3.length : Int)) = false]) :
    Tr Try.prog (loopOf Try.f135 0) (spec_NodeOk_L0 n0 n1 n2 l3 n6) (Ex.exit 1) spec_NodeOk_X0v2 :=
  .of_loopc (ks := []) (bs := []) (ans := [Ans.br false]) (by kernel_rfl) h

theorem spec_NodeOk_p5 (n0 : Int) (n1 : Int) (n2 : Int) (l3 : List (List D)) (b4 : Bool) (b5 : Bool) (b6 : Bool)
    (h : Obs [(n0 == 2) = true, Ret Try.prog 57 [AD.one (I n1), AD.one (I 0), AD.one (I 999)] [AD.one (B b4)], Ret Try.prog 57 [AD.one (I n0), AD.one (I 1), AD.one (I 8)] [AD.one (B b5)], (!b5) = false, (!b4) = false, (!n2 == 0) = false, decide ((↑l3.length : Int) > 2) = false, (n0 == 8) = true, decide ((↑l3.length : Int) > 0) = false, LoopOk Try.prog (loopOf Try.f135 0) (spec_NodeOk_L0 n0 n1 n2 l3 0) Ex.ret (spec_NodeOk_X0 b6)]) :
    Ret Try.prog 135 [AD.agg [I n0, I n1, I n2, D.sl 1 l3]] [AD.one (B b6)] :=
  .of [Ans.br true, Ans.res [AD.one (B b4)], Ans.res [AD.one (B b5)], Ans.br false, Ans.br false, Ans.br false, Ans.br false, Ans.br true, Ans.br false, Ans.loop [] [5, 1] [1] Ex.ret (spec_NodeOk_X0 b6)] _ Try.func135 rfl (by kernel_rfl) h

theorem spec_NodeOk_p6 (n0 : Int) (n1 : Int) (n2 : Int) (l3 : List (List D)) (b4 : Bool) (b5 : Bool)
    (h : Obs [(n0 == 2) = true, Ret Try.prog 57 [AD.one (I n1), AD.one (I 0), AD.one (I 999)] [AD.one (B b4)], Ret Try.prog 57 [AD.one (I n0), AD.one (I 1), AD.one (I 8)] [AD.one (B b5)], (!b5) = false, (!b4) = false, (!n2 == 0) = false, decide ((↑l3.length : Int) > 2) = false, (n0 == 8) = true, decide ((↑l3.length : Int) > 0) = false, LoopOk Try.prog (loopOf Try.f135 0) (spec_NodeOk_L0 n0 n1 n2 l3 0) (Ex.exit 1) spec_NodeOk_X0v2]) :
    Ret Try.prog 135 [AD.agg [I n0, I n1, I n2, D.sl 1 l3]] [AD.one (B true)] :=
  .of [Ans.br true, Ans.res [AD.one (B b4)], Ans.res [AD.one (B b5)], Ans.br false, Ans.br false, Ans.br false, Ans.br false, Ans.br true, Ans.br false, Ans.loop [] [5, 1] [1] (Ex.exit 1) spec_NodeOk_X0v2] _ Try.func135 rfl (by kernel_rfl) h

theorem spec_NodeOk_p7 (n0 : Int) (n1 : Int) (n2 : Int) (l3 : List (List D)) (b4 : Bool) (b5 : Bool) (b6 : Bool)
    (h : Obs [(n0 == 2) = true, Ret Try.prog 57 [AD.one (I n1), AD.one (I 0), AD.one (I 999)] [AD.one (B b4)], Ret Try.prog 57 [AD.one (I n0), AD.one (I 1), AD.one (I 8)] [AD.one (B b5)], (!b5) = false, (!b4) = false, (!n2 == 0) = false, decide ((↑l3.length : Int) > 2) = false, (n0 == 8) = false, LoopOk Try.prog (loopOf Try.f135 0) (spec_NodeOk_L0 n0 n1 n2 l3 0) Ex.ret (spec_NodeOk_X0 b6)]) :
    Ret Try.prog 135 [AD.agg [I n0, I n1, I n2, D.sl 1 l3]] [AD.one (B b6)] :=
  .of [Ans.br true, Ans.res [AD.one (B b4)], Ans.res [AD.one (B b5)], Ans.br false, Ans.br false, Ans.br false, Ans.br false, Ans.br false, Ans.loop [] [5, 1] [1] Ex.ret (spec_NodeOk_X0 b6)] _ Try.func135 rfl (by kernel_rfl) h

theorem spec_NodeOk_p8 (n0 : Int) (n1 : Int) (n2 : Int) (l3 : List (List D)) (b4 : Bool) (b5 : Bool)
    (h : Obs [(n0 == 2) = true, Ret Try.prog 57 [AD.one (I n1), AD.one (I 0), AD.one (I 999)] [AD.one (B b4)], Ret Try.prog 57 [AD.one (I n0), AD.one (I 1), AD.one (I 8)] [AD.one (B b5)], (!b5) = false, (!b4) = false, (!n2 == 0) = false, decide ((↑l3.length : Int) > 2) = false, (n0 == 8) = false, LoopOk Try.prog (loopOf Try.f135 0) (spec_NodeOk_L0 n0 n1 n2 l3 0) (Ex.exit 1) spec_NodeOk_X0v2]) :
    Ret Try.prog 135 [AD.agg [I n0, I n1, I n2, D.sl 1 l3]] [AD.one (B true)] :=
  .of [Ans.br true, Ans.res [AD.one (B b4)], Ans.res [AD.one (B b5)], Ans.br false, Ans.br false, Ans.br false, Ans.br false, Ans.br false, Ans.loop [] [5, 1] [1] (Ex.exit 1) spec_NodeOk_X0v2] _ Try.func135 rfl (by kernel_rfl) h

theorem spec_NodeOk_p9 (n0 : Int) (n1 : Int) (n2 : Int) (l3 : List (List D)) (b4 : Bool) (b5 : Bool) (b6 : Bool)
    (h : Obs [(n0 == 2) = false, (n0 == 3) = true, Ret Try.prog 57 [AD.one (I n1), AD.one (I 1), AD.one (I 10)] [AD.one (B b4)], Ret Try.prog 57 [AD.one (I n2), AD.one (I 0), AD.one (I (IntKind.i64.wrap (n1 - 1)))] [AD.one (B b5)], Ret Try.prog 57 [AD.one (I n0), AD.one (I 1), AD.one (I 8)] [AD.one (B b6)], (!b6) = true]) :
    Ret Try.prog 135 [AD.agg [I n0, I n1, I n2, D.sl 1 l3]] [AD.one (B false)] :=
  .of [Ans.br false, Ans.br true, Ans.res [AD.one (B b4)], Ans.wr, Ans.res [AD.one (B b5)], Ans.res [AD.one (B b6)], Ans.br true] _ Try.func135 rfl (by kernel_rfl) h

theorem spec_NodeOk_p10 (n0 : Int) (n1 : Int) (n2 : Int) (l3 : List (List D)) (b4 : Bool) (b5 : Bool) (b6 : Bool)
    (h : Obs [(n0 == 2) = false, (n0 == 3) = true, Ret Try.prog 57 [AD.one (I n1), AD.one (I 1), AD.one (I 10)] [AD.one (B b4)], Ret Try.prog 57 [AD.one (I n2), AD.one (I 0), AD.one (I (IntKind.i64.wrap (n1 - 1)))] [AD.one (B b5)], Ret Try.prog 57 [AD.one (I n0), AD.one (I 1), AD.one (I 8)] [AD.one (B b6)], (!b6) = false, (!b4) = true]) :
    Ret Try.prog 135 [AD.agg [I n0, I n1, I n2, D.sl 1 l3]] [AD.one (B false)] :=
  .of [Ans.br false, Ans.br true, Ans.res [AD.one (B b4)], Ans.wr, Ans.res [AD.one (B b5)], Ans.res [AD.one (B b6)], Ans.br false, Ans.br true] _ Try.func135 rfl (by kernel_rfl) h

theorem spec_NodeOk_p11 (n0 : Int) (n1 : Int) (n2 : Int) (l3 : List (List D)) (b4 : Bool) (b5 : Bool) (b6 : Bool)
    (h : Obs [(n0 == 2) = false, (n0 == 3) = true, Ret Try.prog 57 [AD.one (I n1), AD.one (I 1), AD.one (I 10)] [AD.one (B b4)], Ret Try.prog 57 [AD.one (I n2), AD.one (I 0), AD.one (I (IntKind.i64.wrap (n1 - 1)))] [AD.one (B b5)], Ret Try.prog 57 [AD.one (I n0), AD.one (I 1), AD.one (I 8)] [AD.one (B b6)], (!b6) = false, (!b4) = false, (!b5) = true]) :
    Ret Try.prog 135 [AD.agg [I n0, I n1, I n2, D.sl 1 l3]] [AD.one (B false)] :=
  .of [Ans.br false, Ans.br true, Ans.res [AD.one (B b4)], Ans.wr, Ans.res [AD.one (B b5)], Ans.res [AD.one (B b6)], Ans.br false, Ans.br false, Ans.br true] _ Try.func135 rfl (by kernel_rfl) h

theorem spec_NodeOk_p12 (n0 : Int) (n1 : Int) (n2 : Int) (l3 : List (List D)) (b4 : Bool) (b5 : Bool) (b6 : Bool)
    (h : Obs [(n0 == 2) = false, (n0 == 3) = true, Ret Try.prog 57 [AD.one (I n1), AD.one (I 1), AD.one (I 10)] [AD.one (B b4)], Ret Try.prog 57 [AD.one (I n2), AD.one (I 0), AD.one (I (IntKind.i64.wrap (n1 - 1)))] [AD.one (B b5)], Ret Try.prog 57 [AD.one (I n0), AD.one (I 1), AD.one (I 8)] [AD.one (B b6)], (!b6) = false, (!b4) = false, (!b5) = false, decide ((↑l3.length : Int) > 2) = true]) :
    Ret Try.prog 135 [AD.agg [I n0, I n1, I n2, D.sl 1 l3]] [AD.one (B false)] :=
  .of [Ans.br false, Ans.br true, Ans.res [AD.one (B b4)], Ans.wr, Ans.res [AD.one (B b5)], Ans.res [AD.one (B b6)], Ans.br false, Ans.br false, Ans.br false, Ans.br true] _ Try.func135 rfl (by kernel_rfl) h

theorem spec_NodeOk_p13 (n0 : Int) (n1 : Int) (n2 : Int) (l3 : List (List D)) (b4 : Bool) (b5 : Bool) (b6 : Bool)
    (h : Obs [(n0 == 2) = false, (n0 == 3) = true, Ret Try.prog 57 [AD.one (I n1), AD.one (I 1), AD.one (I 10)] [AD.one (B b4)], Ret Try.prog 57 [AD.one (I n2), AD.one (I 0), AD.one (I (IntKind.i64.wrap (n1 - 1)))] [AD.one (B b5)], Ret Try.prog 57 [AD.one (I n0), AD.one (I 1), AD.one (I 8)] [AD.one (B b6)], (!b6) = false, (!b4) = false, (!b5) = false, decide ((↑l3.length : Int) > 2) = false, (n0 == 8) = true, decide ((↑l3.length : Int) > 0) = true]) :
    Ret Try.prog 135 [AD.agg [I n0, I n1, I n2, D.sl 1 l3]] [AD.one (B false)] :=
  .of [Ans.br false, Ans.br true, Ans.res [AD.one (B b4)], Ans.wr, Ans.res [AD.one (B b5)], Ans.res [AD.one (B b6)], Ans.br false, Ans.br false, Ans.br false, Ans.br false, Ans.br true, Ans.br true] _ Try.func135 rfl (by kernel_rfl) h

theorem spec_NodeOk_p14 (n0 : Int) (n1 : Int) (n2 : Int) (l3 : List (List D)) (b4 : Bool) (b5 : Bool) (b6 : Bool) (b7 : Bool)
    (h : Obs [(n0 == 2) = false, (n0 == 3) = true, Ret Try.prog 57 [AD.one (I n1), AD.one (I 1), AD.one (I 10)] [AD.one (B b4)], Ret Try.prog 57 [AD.one (I n2), AD.one (I 0), AD.one (I (IntKind.i64.wrap (n1 - 1)))] [AD.one (B b5)], Ret Try.prog 57 [AD.one (I n0), AD.one (I 1), AD.one (I 8)] [AD.one (B b6)], (!b6) = false, (!b4) = false, (!b5) = false, decide ((↑l3.length : Int) > 2) = false, (n0 == 8) = true, decide ((↑l3.length : Int) > 0) = false, LoopOk Try.prog (loopOf Try.f135 0) (spec_NodeOk_L0 n0 n1 n2 l3 0) Ex.ret (spec_NodeOk_X0 b7)]) :
    Ret Try.prog 135 [AD.agg [I n0, I n1, I n2, D.sl 1 l3]] [AD.one (B b7)] :=
  .of [Ans.br false, Ans.br true, Ans.res [AD.one (B b4)], Ans.wr, Ans.res [AD.one (B b5)], Ans.res [AD.one (B b6)], Ans.br false, Ans.br false, Ans.br false, Ans.br false, Ans.br true, Ans.br false, Ans.loop [] [5, 1] [1] Ex.ret (spec_NodeOk_X0 b7)] _ Try.func135 rfl (by kernel_rfl) h

theorem spec_NodeOk_p15 (n0 : Int) (n1 : Int) (n2 : Int) (l3 : List (List D)) (b4 : Bool) (b5 : Bool) (b6 : Bool)
    (h : Obs [(n0 == 2) = false, (n0 == 3) = true, Ret Try.prog 57 [AD.one (I n1), AD.one (I 1), AD.one (I 10)] [AD.one (B b4)], Ret Try.prog 57 [AD.one (I n2), AD.one (I 0), AD.one (I (IntKind.i64.wrap (n1 - 1)))] [AD.one (B b5)], Ret Try.prog 57 [AD.one (I n0), AD.one (I 1), AD.one (I 8)] [AD.one (B b6)], (!b6) = false, (!b4) = false, (!b5) = false, decide ((↑l3.length : Int) > 2) = false, (n0 == 8) = true, decide ((↑l3.length : Int) > 0) = false, LoopOk Try.prog (loopOf Try.f135 0) (spec_NodeOk_L0 n0 n1 n2 l3 0) (Ex.exit 1) spec_NodeOk_X0v2]) :
    Ret Try.prog 135 [AD.agg [I n0, I n1, I n2, D.sl 1 l3]] [AD.one (B true)] :=
  .of [Ans.br false, Ans.br true, Ans.res [AD.one (B b4)], Ans.wr, Ans.res [AD.one (B b5)], Ans.res [AD.one (B b6)], Ans.br false, Ans.br false, Ans.br false, Ans.br false, Ans.br true, Ans.br false, Ans.loop [] [5, 1] [1] (Ex.exit 1) spec_NodeOk_X0v2] _ Try.func135 rfl (by kernel_rfl) h

theorem spec_NodeOk_p16 (n0 : Int) (n1 : Int) (n2 : Int) (l3 : List (List D)) (b4 : Bool) (b5 : Bool) (b6 : Bool) (b7 : Bool)
    (h : Obs [(n0 == 2) = false, (n0 == 3) = true, Ret Try.prog 57 [AD.one (I n1), AD.one (I 1), AD.one (I 10)] [AD.one (B b4)], Ret Try.prog 57 [AD.one (I n2), AD.one (I 0), AD.one (I (IntKind.i64.wrap (n1 - 1)))] [AD.one (B b5)], Ret Try.prog 57 [AD.one (I n0), AD.one (I 1), AD.one (I 8)] [AD.one (B b6)], (!b6) = false, (!b4) = false, (!b5) = false, decide ((↑l3.length : Int) > 2) = false, (n0 == 8) = false, LoopOk Try.prog (loopOf Try.f135 0) (spec_NodeOk_L0 n0 n1 n2 l3 0) Ex.ret (spec_NodeOk_X0 b7)]) :
    Ret Try.prog 135 [AD.agg [I n0, I n1, I n2, D.sl 1 l3]] [AD.one (B b7)] :=
  .of [Ans.br false, Ans.br true, Ans.res [AD.one (B b4)], Ans.wr, Ans.res [AD.one (B b5)], Ans.res [AD.one (B b6)], Ans.br false, Ans.br false, Ans.br false, Ans.br false, Ans.br false, Ans.loop [] [5, 1] [1] Ex.ret (spec_NodeOk_X0 b7)] _ Try.func135 rfl (by kernel_rfl) h

theorem spec_NodeOk_p17 (n0 : Int) (n1 : Int) (n2 : Int) (l3 : List (List D)) (b4 : Bool) (b5 : Bool) (b6 : Bool)
    (h : Obs [(n0 == 2) = false, (n0 == 3) = true, Ret Try.prog 57 [AD.one (I n1), AD.one (I 1), AD.one (I 10)] [AD.one (B b4)], Ret Try.prog 57 [AD.one (I n2), AD.one (I 0), AD.one (I (IntKind.i64.wrap (n1 - 1)))] [AD.one (B b5)], Ret Try.prog 57 [AD.one (I n0), AD.one (I 1), AD.one (I 8)] [AD.one (B b6)], (!b6) = false, (!b4) = false, (!b5) = false, decide ((↑l3.length : Int) > 2) = false, (n0 == 8) = false, LoopOk Try.prog (loopOf Try.f135 0) (spec_NodeOk_L0 n0 n1 n2 l3 0) (Ex.exit 1) spec_NodeOk_X0v2]) :
    Ret Try.prog 135 [AD.agg [I n0, I n1, I n2, D.sl 1 l3]] [AD.one (B true)] :=
  .of [Ans.br false, Ans.br true, Ans.res [AD.one (B b4)], Ans.wr, Ans.res [AD.one (B b5)], Ans.res [AD.one (B b6)], Ans.br false, Ans.br false, Ans.br false, Ans.br false, Ans.br false, Ans.loop [] [5, 1] [1] (Ex.exit 1) spec_NodeOk_X0v2] _ Try.func135 rfl (by kernel_rfl) h

theorem spec_NodeOk_p18 (n0 : Int) (n1 : Int) (n2 : Int) (l3 : List (List D)) (b4 : Bool) (b5 : Bool)
    (h : Obs [(n0 == 2) = false, (n0 == 3) = false, (n0 == 4) = true, Ret Try.prog 57 [AD.one (I n1), AD.one (I 0), AD.one (I 99)] [AD.one (B b4)], Ret Try.prog 57 [AD.one (I n0), AD.one (I 1), AD.one (I 8)] [AD.one (B b5)], (!b5) = true]) :
    Ret Try.prog 135 [AD.agg [I n0, I n1, I n2, D.sl 1 l3]] [AD.one (B false)] :=
  .of [Ans.br false, Ans.br false, Ans.br true, Ans.res [AD.one (B b4)], Ans.res [AD.one (B b5)], Ans.br true] _ Try.func135 rfl (by kernel_rfl) h

theorem spec_NodeOk_p19 (n0 : Int) (n1 : Int) (n2 : Int) (l3 : List (List D)) (b4 : Bool) (b5 : Bool)
    (h : Obs [(n0 == 2) = false, (n0 == 3) = false, (n0 == 4) = true, Ret Try.prog 57 [AD.one (I n1), AD.one (I 0), AD.one (I 99)] [AD.one (B b4)], Ret Try.prog 57 [AD.one (I n0), AD.one (I 1), AD.one (I 8)] [AD.one (B b5)], (!b5) = false, (!b4) = true]) :
    Ret Try.prog 135 [AD.agg [I n0, I n1, I n2, D.sl 1 l3]] [AD.one (B false)] :=
  .of [Ans.br false, Ans.br false, Ans.br true, Ans.res [AD.one (B b4)], Ans.res [AD.one (B b5)], Ans.br false, Ans.br true] _ Try.func135 rfl (by kernel_rfl) h

theorem spec_NodeOk_p20 (n0 : Int) (n1 : Int) (n2 : Int) (l3 : List (List D)) (b4 : Bool) (b5 : Bool)
    (h : Obs [(n0 == 2) = false, (n0 == 3) = false, (n0 == 4) = true, Ret Try.prog 57 [AD.one (I n1), AD.one (I 0), AD.one (I 99)] [AD.one (B b4)], Ret Try.prog 57 [AD.one (I n0), AD.one (I 1), AD.one (I 8)] [AD.one (B b5)], (!b5) = false, (!b4) = false, (!n2 == 0) = true]) :
    Ret Try.prog 135 [AD.agg [I n0, I n1, I n2, D.sl 1 l3]] [AD.one (B false)] :=
  .of [Ans.br false, Ans.br false, Ans.br true, Ans.res [AD.one (B b4)], Ans.res [AD.one (B b5)], Ans.br false, Ans.br false, Ans.br true] _ Try.func135 rfl (by kernel_rfl) h

theorem spec_NodeOk_p21 (n0 : Int) (n1 : Int) (n2 : Int) (l3 : List (List D)) (b4 : Bool) (b5 : Bool)
    (h : Obs [(n0 == 2) = false, (n0 == 3) = false, (n0 == 4) = true, Ret Try.prog 57 [AD.one (I n1), AD.one (I 0), AD.one (I 99)] [AD.one (B b4)], Ret Try.prog 57 [AD.one (I n0), AD.one (I 1), AD.one (I 8)] [AD.one (B b5)], (!b5) = false, (!b4) = false, (!n2 == 0) = false, decide ((↑l3.length : Int) > 2) = true]) :
    Ret Try.prog 135 [AD.agg [I n0, I n1, I n2, D.sl 1 l3]] [AD.one (B false)] :=
  .of [Ans.br false, Ans.br false, Ans.br true, Ans.res [AD.one (B b4)], Ans.res [AD.one (B b5)], Ans.br false, Ans.br false, Ans.br false, Ans.br true] _ Try.func135 rfl (by kernel_rfl) h

theorem spec_NodeOk_p22 (n0 : Int) (n1 : Int) (n2 : Int) (l3 : List (List D)) (b4 : Bool) (b5 : Bool)
    (h : Obs [(n0 == 2) = false, (n0 == 3) = false, (n0 == 4) = true, Ret Try.prog 57 [AD.one (I n1), AD.one (I 0), AD.one (I 99)] [AD.one (B b4)], Ret Try.prog 57 [AD.one (I n0), AD.one (I 1), AD.one (I 8)] [AD.one (B b5)], (!b5) = false, (!b4) = false, (!n2 == 0) = false, decide ((↑l3.length : Int) > 2) = false, (n0 == 8) = true, decide ((↑l3.length : Int) > 0) = true]) :
    Ret Try.prog 135 [AD.agg [I n0, I n1, I n2, D.sl 1 l3]] [AD.one (B false)] :=
  .of [Ans.br false, Ans.br false, Ans.br true, Ans.res [AD.one (B b4)], Ans.res [AD.one (B b5)], Ans.br false, Ans.br false, Ans.br false, Ans.br false, Ans.br true, Ans.br true] _ Try.func135 rfl (by kernel_rfl) h

theorem spec_NodeOk_p23 (n0 : Int) (n1 : Int) (n2 : Int) (l3 : List (List D)) (b4 : Bool) (b5 : Bool) (b6 : Bool)
    (h : Obs [(n0 == 2) = false, (n0 == 3) = false, (n0 == 4) = true, Ret Try.prog 57 [AD.one (I n1), AD.one (I 0), AD.one (I 99)] [AD.one (B b4)], Ret Try.prog 57 [AD.one (I n0), AD.one (I 1), AD.one (I 8)] [AD.one (B b5)], (!b5) = false, (!b4) = false, (!n2 == 0) = false, decide ((↑l3.length : Int) > 2) = false, (n0 == 8) = true, decide ((↑l3.length : Int) > 0) = false, LoopOk Try.prog (loopOf Try.f135 0) (spec_NodeOk_L0 n0 n1 n2 l3 0) Ex.ret (spec_NodeOk_X0 b6)]) :
    Ret Try.prog 135 [AD.agg [I n0, I n1, I n2, D.sl 1 l3]] [AD.one (B b6)] :=
  .of [Ans.br false, Ans.br false, Ans.br true, Ans.res [AD.one (B b4)], Ans.res [AD.one (B b5)], Ans.br false, Ans.br false, Ans.br false, Ans.br false, Ans.br true, Ans.br false, Ans.loop [] [5, 1] [1] Ex.ret (spec_NodeOk_X0 b6)] _ Try.func135 rfl (by kernel_rfl) h

theorem spec_NodeOk_p24 (n0 : Int) (n1 : Int) (n2 : Int) (l3 : List (List D)) (b4 : Bool) (b5 : Bool)
    (h : Obs [(n0 == 2) = false, (n0 == 3) = false, (n0 == 4) = true, Ret Try.prog 57 [AD.one (I n1), AD.one (I 0), AD.one (I 99)] [AD.one (B b4)], Ret Try.prog 57 [AD.one (I n0), AD.one (I 1), AD.one (I 8)] [AD.one (B b5)], (!b5) = false, (!b4) = false, (!n2 == 0) = false, decide ((↑l3.length : Int) > 2) = false, (n0 == 8) = true, decide ((↑l3.length : Int) > 0) = false, LoopOk Try.prog (loopOf Try.f135 0) (spec_NodeOk_L0 n0 n1 n2 l3 0) (Ex.exit 1) spec_NodeOk_X0v2]) :
    Ret Try.prog 135 [AD.agg [I n0, I n1, I n2, D.sl 1 l3]] [AD.one (B true)] :=
  .of [Ans.br false, Ans.br false, Ans.br true, Ans.res [AD.one (B b4)], Ans.res [AD.one (B b5)], Ans.br false, Ans.br false, Ans.br false, Ans.br false, Ans.br true, Ans.br false, Ans.loop [] [5, 1] [1] (Ex.exit 1) spec_NodeOk_X0v2] _ Try.func135 rfl (by kernel_rfl) h

theorem spec_NodeOk_p25 (n0 : Int) (n1 : Int) (n2 : Int) (l3 : List (List D)) (b4 : Bool) (b5 : Bool) (b6 : Bool)
    (h : Obs [(n0 == 2) = false, (n0 == 3) = false, (n0 == 4) = true, Ret Try.prog 57 [AD.one (I n1), AD.one (I 0), AD.one (I 99)] [AD.one (B b4)], Ret Try.prog 57 [AD.one (I n0), AD.one (I 1), AD.one (I 8)] [AD.one (B b5)], (!b5) = false, (!b4) = false, (!n2 == 0) = false, decide ((↑l3.length : Int) > 2) = false, (n0 == 8) = false, LoopOk Try.prog (loopOf Try.f135 0) (spec_NodeOk_L0 n0 n1 n2 l3 0) Ex.ret (spec_NodeOk_X0 b6)]) :
    Ret Try.prog 135 [AD.agg [I n0, I n1, I n2, D.sl 1 l3]] [AD.one (B b6)] :=
  .of [Ans.br false, Ans.br false, Ans.br true, Ans.res [AD.one (B b4)], Ans.res [AD.one (B b5)], Ans.br false, Ans.br false, Ans.br false, Ans.br false, Ans.br false, Ans.loop [] [5, 1] [1] Ex.ret (spec_NodeOk_X0 b6)] _ Try.func135 rfl (by kernel_rfl) h

theorem spec_NodeOk_p26 (n0 : Int) (n1 : Int) (n2 : Int) (l3 : List (List D)) (b4 : Bool) (b5 : Bool)
    (h : Obs [(n0 == 2) = false, (n0 == 3) = false, (n0 == 4) = true, Ret Try.prog 57 [AD.one (I n1), AD.one (I 0), AD.one (I 99)] [AD.one (B b4)], Ret Try.prog 57 [AD.one (I n0), AD.one (I 1), AD.one (I 8)] [AD.one (B b5)], (!b5) = false, (!b4) = false, (!n2 == 0) = false, decide ((↑l3.length : Int) > 2) = false, (n0 == 8) = false, LoopOk Try.prog (loopOf Try.f135 0) (spec_NodeOk_L0 n0 n1 n2 l3 0) (Ex.exit 1) spec_NodeOk_X0v2]) :
    Ret Try.prog 135 [AD.agg [I n0, I n1, I n2, D.sl 1 l3]] [AD.one (B true)] :=
  .of [Ans.br false, Ans.br false, Ans.br true, Ans.res [AD.one (B b4)], Ans.res [AD.one (B b5)], Ans.br false, Ans.br false, Ans.br false, Ans.br false, Ans.br false, Ans.loop [] [5, 1] [1] (Ex.exit 1) spec_NodeOk_X0v2] _ Try.func135 rfl (by kernel_rfl) h

theorem spec_NodeOk_p27 (n0 : Int) (n1 : Int) (n2 : Int) (l3 : List (List D)) (b4 : Bool)
    (h : Obs [(n0 == 2) = false, (n0 == 3) = false, (n0 == 4) = false, Ret Try.prog 57 [AD.one (I n0), AD.one (I 1), AD.one (I 8)] [AD.one (B b4)], (!b4) = true]) :
    Ret Try.prog 135 [AD.agg [I n0, I n1, I n2, D.sl 1 l3]] [AD.one (B false)] :=
  .of [Ans.br false, Ans.br false, Ans.br false, Ans.res [AD.one (B b4)], Ans.br true] _ Try.func135 rfl (by kernel_rfl) h

theorem spec_NodeOk_p28 (n0 : Int) (n1 : Int) (n2 : Int) (l3 : List (List D)) (b4 : Bool)
    (h : Obs [(n0 == 2) = false, (n0 == 3) = false, (n0 == 4) = false, Ret Try.prog 57 [AD.one (I n0), AD.one (I 1), AD.one (I 8)] [AD.one (B b4)], (!b4) = false, (!n1 == 0) = true]) :
    Ret Try.prog 135 [AD.agg [I n0, I n1, I n2, D.sl 1 l3]] [AD.one (B false)] :=
  .of [Ans.br false, Ans.br false, Ans.br false, Ans.res [AD.one (B b4)], Ans.br false, Ans.br true] _ Try.func135 rfl (by kernel_rfl) h

theorem spec_NodeOk_p29 (n0 : Int) (n1 : Int) (n2 : Int) (l3 : List (List D)) (b4 : Bool)
    (h : Obs [(n0 == 2) = false, (n0 == 3) = false, (n0 == 4) = false, Ret Try.prog 57 [AD.one (I n0), AD.one (I 1), AD.one (I 8)] [AD.one (B b4)], (!b4) = false, (!n1 == 0) = false, (!n2 == 0) = true]) :
    Ret Try.prog 135 [AD.agg [I n0, I n1, I n2, D.sl 1 l3]] [AD.one (B false)] :=
  .of [Ans.br false, Ans.br false, Ans.br false, Ans.res [AD.one (B b4)], Ans.br false, Ans.br false, Ans.br true] _ Try.func135 rfl (by kernel_rfl) h

theorem spec_NodeOk_p30 (n0 : Int) (n1 : Int) (n2 : Int) (l3 : List (List D)) (b4 : Bool)
    (h : Obs [(n0 == 2) = false, (n0 == 3) = false, (n0 == 4) = false, Ret Try.prog 57 [AD.one (I n0), AD.one (I 1), AD.one (I 8)] [AD.one (B b4)], (!b4) = false, (!n1 == 0) = false, (!n2 == 0) = false, decide ((↑l3.length : Int) > 2) = true]) :
    Ret Try.prog 135 [AD.agg [I n0, I n1, I n2, D.sl 1 l3]] [AD.one (B false)] :=
  .of [Ans.br false, Ans.br false, Ans.br false, Ans.res [AD.one (B b4)], Ans.br false, Ans.br false, Ans.br false, Ans.br true] _ Try.func135 rfl (by kernel_rfl) h

theorem spec_NodeOk_p31 (n0 : Int) (n1 : Int) (n2 : Int) (l3 : List (List D)) (b4 : Bool)
    (h : Obs [(n0 == 2) = false, (n0 == 3) = false, (n0 == 4) = false, Ret Try.prog 57 [AD.one (I n0), AD.one (I 1), AD.one (I 8)] [AD.one (B b4)], (!b4) = false, (!n1 == 0) = false, (!n2 == 0) = false, decide ((↑l3.length : Int) > 2) = false, (n0 == 8) = true, decide ((↑l3.length : Int) > 0) = true]) :
    Ret Try.prog 135 [AD.agg [I n0, I n1, I n2, D.sl 1 l3]] [AD.one (B false)] :=
  .of [Ans.br false, Ans.br false, Ans.br false, Ans.res [AD.one (B b4)], Ans.br false, Ans.br false, Ans.br false, Ans.br false, Ans.br true, Ans.br true] _ Try.func135 rfl (by kernel_rfl) h

theorem spec_NodeOk_p32 (n0 : Int) (n1 : Int) (n2 : Int) (l3 : List (List D)) (b4 : Bool) (b5 : Bool)
    (h : Obs [(n0 == 2) = false, (n0 == 3) = false, (n0 == 4) = false, Ret Try.prog 57 [AD.one (I n0), AD.one (I 1), AD.one (I 8)] [AD.one (B b4)], (!b4) = false, (!n1 == 0) = false, (!n2 == 0) = false, decide ((↑l3.length : Int) > 2) = false, (n0 == 8) = true, decide ((↑l3.length : Int) > 0) = false, LoopOk Try.prog (loopOf Try.f135 0) (spec_NodeOk_L0 n0 n1 n2 l3 0) Ex.ret (spec_NodeOk_X0 b5)]) :
    Ret Try.prog 135 [AD.agg [I n0, I n1, I n2, D.sl 1 l3]] [AD.one (B b5)] :=
  .of [Ans.br false, Ans.br false, Ans.br false, Ans.res [AD.one (B b4)], Ans.br false, Ans.br false, Ans.br false, Ans.br false, Ans.br true, Ans.br false, Ans.loop [] [5, 1] [1] Ex.ret (spec_NodeOk_X0 b5)] _ Try.func135 rfl (by kernel_rfl) h

theorem spec_NodeOk_p33 (n0 : Int) (n1 : Int) (n2 : Int) (l3 : List (List D)) (b4 : Bool)
    (h : Obs [(n0 == 2) = false, (n0 == 3) = false, (n0 == 4) = false, Ret Try.prog 57 [AD.one (I n0), AD.one (I 1), AD.one (I 8)] [AD.one (B b4)], (!b4) = false, (!n1 == 0) = false, (!n2 == 0) = false, decide ((↑l3.length : Int) > 2) = false, (n0 == 8) = true, decide ((↑l3.length : Int) > 0) = false, LoopOk Try.prog (loopOf Try.f135 0) (spec_NodeOk_L0 n0 n1 n2 l3 0) (Ex.exit 1) spec_NodeOk_X0v2]) :
    Ret Try.prog 135 [AD.agg [I n0, I n1, I n2, D.sl 1 l3]] [AD.one (B true)] :=
  .of [Ans.br false, Ans.br false, Ans.br false, Ans.res [AD.one (B b4)], Ans.br false, Ans.br false, Ans.br false, Ans.br false, Ans.br true, Ans.br false, Ans.loop [] [5, 1] [1] (Ex.exit 1) spec_NodeOk_X0v2] _ Try.func135 rfl (by kernel_rfl) h

theorem spec_NodeOk_p34 (n0 : Int) (n1 : Int) (n2 : Int) (l3 : List (List D)) (b4 : Bool) (b5 : Bool)
    (h : Obs [(n0 == 2) = false, (n0 == 3) = false, (n0 == 4) = false, Ret Try.prog 57 [AD.one (I n0), AD.one (I 1), AD.one (I 8)] [AD.one (B b4)], (!b4) = false, (!n1 == 0) = false, (!n2 == 0) = false, decide ((↑l3.length : Int) > 2) = false, (n0 == 8) = false, LoopOk Try.prog (loopOf Try.f135 0) (spec_NodeOk_L0 n0 n1 n2 l3 0) Ex.ret (spec_NodeOk_X0 b5)]) :
    Ret Try.prog 135 [AD.agg [I n0, I n1, I n2, D.sl 1 l3]] [AD.one (B b5)] :=
  .of [Ans.br false, Ans.br false, Ans.br false, Ans.res [AD.one (B b4)], Ans.br false, Ans.br false, Ans.br false, Ans.br false, Ans.br false, Ans.loop [] [5, 1] [1] Ex.ret (spec_NodeOk_X0 b5)] _ Try.func135 rfl (by kernel_rfl) h

theorem spec_NodeOk_p35 (n0 : Int) (n1 : Int) (n2 : Int) (l3 : List (List D)) (b4 : Bool)
    (h : Obs [(n0 == 2) = false, (n0 == 3) = false, (n0 == 4) = false, Ret Try.prog 57 [AD.one (I n0), AD.one (I 1), AD.one (I 8)] [AD.one (B b4)], (!b4) = false, (!n1 == 0) = false, (!n2 == 0) = false, decide ((↑l3.length : Int) > 2) = false, (n0 == 8) = false, LoopOk Try.prog (loopOf Try.f135 0) (spec_NodeOk_L0 n0 n1 n2 l3 0) (Ex.exit 1) spec_NodeOk_X0v2]) :
    Ret Try.prog 135 [AD.agg [I n0, I n1, I n2, D.sl 1 l3]] [AD.one (B true)] :=
  .of [Ans.br false, Ans.br false, Ans.br false, Ans.res [AD.one (B b4)], Ans.br false, Ans.br false, Ans.br false, Ans.br false, Ans.br false, Ans.loop [] [5, 1] [1] (Ex.exit 1) spec_NodeOk_X0v2] _ Try.func135 rfl (by kernel_rfl) h

/- loop.example/g00973/impl.NodeOk -/

theorem impl_NodeOk_p0 (n0 : Int) (n1 : Int) (n2 : Int) (l3 : List (List D)) (b4 : Bool)
    (h : Obs [(n0 == 2) = true, Ret Try.prog 62 [AD.one (I n1), AD.one (I 0), AD.one (I 999)] [AD.one (B b4)], (!b4) = true]) :
    Ret Try.prog 141 [AD.agg [I n0, I n1, I n2, D.sl 1 l3]] [AD.one (B false)] :=
  .of [Ans.br true, Ans.res [AD.one (B b4)], Ans.br true] _ Try.func141 rfl (by kernel_rfl) h

theorem impl_NodeOk_p1 (n0 : Int) (n1 : Int) (n2 : Int) (l3 : List (List D)) (b4 : Bool)
    (h : Obs [(n0 == 2) = true, Ret Try.prog 62 [AD.one (I n1), AD.one (I 0), AD.one (I 999)] [AD.one (B b4)], (!b4) = false, (n2 != 0) = true]) :
    Ret Try.prog 141 [AD.agg [I n0, I n1, I n2, D.sl 1 l3]] [AD.one (B false)] :=
  .of [Ans.br true, Ans.res [AD.one (B b4)], Ans.br false, Ans.br true] _ Try.func141 rfl (by kernel_rfl) h

theorem impl_NodeOk_p2 (n0 : Int) (n1 : Int) (n2 : Int) (l3 : List (List D)) (b4 : Bool)
    (h : Obs [(n0 == 2) = true, Ret Try.prog 62 [AD.one (I n1), AD.one (I 0), AD.one (I 999)] [AD.one (B b4)], (!b4) = false, (n2 != 0) = false, decide ((↑l3.length : Int) > 2) = true]) :
    Ret Try.prog 141 [AD.agg [I n0, I n1, I n2, D.sl 1 l3]] [AD.one (B false)] :=
  .of [Ans.br true, Ans.res [AD.one (B b4)], Ans.br false, Ans.br false, Ans.br true] _ Try.func141 rfl (by kernel_rfl) h

theorem impl_NodeOk_p3 (n0 : Int) (n1 : Int) (n2 : Int) (l3 : List (List D)) (b4 : Bool)
    (h : Obs [(n0 == 2) = true, Ret Try.prog 62 [AD.one (I n1), AD.one (I 0), AD.one (I 999)] [AD.one (B b4)], (!b4) = false, (n2 != 0) = false, decide ((↑l3.length : Int) > 2) = false, (n0 == 8) = true, decide ((↑l3.length : Int) > 0) = true]) :
    Ret Try.prog 141 [AD.agg [I n0, I n1, I n2, D.sl 1 l3]] [AD.one (B false)] :=
  .of [Ans.br true, Ans.res [AD.one (B b4)], Ans.br false, Ans.br false, Ans.br false, Ans.br true, Ans.br true] _ Try.func141 rfl (by kernel_rfl) h

theorem impl_NodeOk_p4 (n0 : Int) (n1 : Int) (n2 : Int) (l3 : List (List D)) (b4 : Bool) (n5 : Int) (n6 : Int)
    (h : Obs [(n0 == 2) = true, Ret Try.prog 62 [AD.one (I n1), AD.one (I 0), AD.one (I 999)] [AD.one (B b4)], (!b4) = false, (n2 != 0) = false, decide ((↑l3.length : Int) > 2) = false, (n0 == 8) = true, decide ((↑l3.length : Int) > 0) = false, ((↑l3.length : Int) == 2) = true, (0 : Int) ≤ 0, 0 < (↑l3.length : Int), l3[0]? = some [I n5], (0 : Int) ≤ 1, 1 < (↑l3.length : Int), l3[1]? = some [I n6], (n5 == n6) = true]) :
    Ret Try.prog 141 [AD.agg [I n0, I n1, I n2, D.sl 1 l3]] [AD.one (B false)] :=
  .of [Ans.br true, Ans.res [AD.one (B b4)], Ans.br false, Ans.br false, Ans.br false, Ans.br true, Ans.br false, Ans.br true, Ans.el [I n5], Ans.el [I n6], Ans.br true] _ Try.func141 rfl (by kernel_rfl) h

def impl_NodeOk_L0 (l0 : List (List D)) (n1 : Int) : St :=
  { env := envOf 101 [(91, PV.al (AL.one (Leaf.sl Tag.free 1 l0))), (92, PV.al (AL.one (Leaf.v (Value.int IntKind.i64 (↑l0.length : Int))))), (93, PV.al (AL.one (Leaf.v (Value.int IntKind.i64 n1))))], boxes := [] }

def impl_NodeOk_X0 (b0 : Bool) : St :=
  { env := envOf 101 [(2, PV.al (AL.one (Leaf.sb b0)))], boxes := [] }

theorem impl_NodeOk_L0_x0 (l3 : List (List D)) (n7 : Int) (n8 : Int) (b9 : Bool)
    (h : Obs [decide (n7 < (↑l3.length : Int)) = true, 0 ≤ n7, n7 < (↑l3.length : Int), l3[n7.toNat]? = some [I n8], Ret Try.prog 62 [AD.one (I n8), AD.one (I 0), AD.one (I 7)] [AD.one (B b9)], (!b9) = true]) :
    Tr Try.prog (loopOf Try.f141 0) (impl_NodeOk_L0 l3 n7) Ex.ret (impl_NodeOk_X0 false) :=
  .of_loopc (ks := [2]) (bs := []) (ans := [Ans.br true, Ans.el [I n8], Ans.res [AD.one (B b9)], Ans.br true]) (by kernel_rfl) h

theorem impl_NodeOk_L0_s1 (l3 : List (List D)) (n7 : Int) (n8 : Int) (b9 : Bool)
    (h : Obs [decide (n7 < (↑l3.length : Int)) = true, 0 ≤ n7, n7 < (↑l3.length : Int), l3[n7.toNat]? = some [I n8], Ret Try.prog 62 [AD.one (I n8), AD.one (I 0), AD.one (I 7)] [AD.one (B b9)], (!b9) = false, inInt IntKind.i64 (n7 + 1)]) :
    Tr Try.prog (loopOf Try.f141 0) (impl_NodeOk_L0 l3 n7) Ex.normal (impl_NodeOk_L0 l3 (n7 + 1)) :=
  .of_loopc (ks := [93, 92, 91]) (bs := []) (ans := [Ans.br true, Ans.el [I n8], Ans.res [AD.one (B b9)], Ans.br false]) (by kernel_rfl) h

def impl_NodeOk_X0v2 : St :=
  { env := envOf 101 [], boxes := [] }

theorem impl_NodeOk_L0_x2 (l3 : List (List D)) (n7 : Int)
    (h : Obs [decide (n7 < (↑l3.length : Int)) = false]) :
    Tr Try.prog (loopOf Try.f141 0) (impl_NodeOk_L0 l3 n7) (Ex.exit 1) impl_NodeOk_X0v2 :=
  .of_loopc (ks := []) (bs := []) (ans := [Ans.br false]) (by kernel_rfl) h

theorem impl_NodeOk_p5 (n0 : Int) (n1 : Int) (n2 : Int) (l3 : List (List D)) (b4 : Bool) (n5 : Int) (n6 : Int) (b7 : Bool)
    (h : Obs [(n0 == 2) = true, Ret Try.prog 62 [AD.one (I n1), AD.one (I 0), AD.one (I 999)] [AD.one (B b4)], (!b4) = false, (n2 != 0) = false, decide ((↑l3.length : Int) > 2) = false, (n0 == 8) = true, decide ((↑l3.length : Int) > 0) = false, ((↑l3.length : Int) == 2) = true, (0 : Int) ≤ 0, 0 < (↑l3.length : Int), l3[0]? = some [I n5], (0 : Int) ≤ 1, 1 < (↑l3.length : Int), l3[1]? = some [I n6], (n5 == n6) = false, LoopOk Try.prog (loopOf Try.f141 0) (impl_NodeOk_L0 l3 0) Ex.ret (impl_NodeOk_X0 b7)]) :
    Ret Try.prog 141 [AD.agg [I n0, I n1, I n2, D.sl 1 l3]] [AD.one (B b7)] :=
  .of [Ans.br true, Ans.res [AD.one (B b4)], Ans.br false, Ans.br false, Ans.br false, Ans.br true, Ans.br false, Ans.br true, Ans.el [I n5], Ans.el [I n6], Ans.br false, Ans.loop [] [93, 92, 91] [] Ex.ret (impl_NodeOk_X0 b7)] _ Try.func141 rfl (by kernel_rfl) h

theorem impl_NodeOk_p6 (n0 : Int) (n1 : Int) (n2 : Int) (l3 : List (List D)) (b4 : Bool) (n5 : Int) (n6 : Int)
    (h : Obs [(n0 == 2) = true, Ret Try.prog 62 [AD.one (I n1), AD.one (I 0), AD.one (I 999)] [AD.one (B b4)], (!b4) = false, (n2 != 0) = false, decide ((↑l3.length : Int) > 2) = false, (n0 == 8) = true, decide ((↑l3.length : Int) > 0) = false, ((↑l3.length : Int) == 2) = true, (0 : Int) ≤ 0, 0 < (↑l3.length : Int), l3[0]? = some [I n5], (0 : Int) ≤ 1, 1 < (↑l3.length : Int), l3[1]? = some [I n6], (n5 == n6) = false, LoopOk Try.prog (loopOf Try.f141 0) (impl_NodeOk_L0 l3 0) (Ex.exit 1) impl_NodeOk_X0v2]) :
    Ret Try.prog 141 [AD.agg [I n0, I n1, I n2, D.sl 1 l3]] [AD.one (B true)] :=
  .of [Ans.br true, Ans.res [AD.one (B b4)], Ans.br false, Ans.br false, Ans.br false, Ans.br true, Ans.br false, Ans.br true, Ans.el [I n5], Ans.el [I n6], Ans.br false, Ans.loop [] [93, 92, 91] [] (Ex.exit 1) impl_NodeOk_X0v2] _ Try.func141 rfl (by kernel_rfl) h

theorem impl_NodeOk_p7 (n0 : Int) (n1 : Int) (n2 : Int) (l3 : List (List D)) (b4 : Bool) (b5 : Bool)
    (h : Obs [(n0 == 2) = true, Ret Try.prog 62 [AD.one (I n1), AD.one (I 0), AD.one (I 999)] [AD.one (B b4)], (!b4) = false, (n2 != 0) = false, decide ((↑l3.length : Int) > 2) = false, (n0 == 8) = true, decide ((↑l3.length : Int) > 0) = false, ((↑l3.length : Int) == 2) = false, LoopOk Try.prog (loopOf Try.f141 0) (impl_NodeOk_L0 l3 0) Ex.ret (impl_NodeOk_X0 b5)]) :
    Ret Try.prog 141 [AD.agg [I n0, I n1, I n2, D.sl 1 l3]] [AD.one (B b5)] :=
  .of [Ans.br true, Ans.res [AD.one (B b4)], Ans.br false, Ans.br false, Ans.br false, Ans.br true, Ans.br false, Ans.br false, Ans.loop [] [93, 92, 91] [] Ex.ret (impl_NodeOk_X0 b5)] _ Try.func141 rfl (by kernel_rfl) h

theorem impl_NodeOk_p8 (n0 : Int) (n1 : Int) (n2 : Int) (l3 : List (List D)) (b4 : Bool)
    (h : Obs [(n0 == 2) = true, Ret Try.prog 62 [AD.one (I n1), AD.one (I 0), AD.one (I 999)] [AD.one (B b4)], (!b4) = false, (n2 != 0) = false, decide ((↑l3.length : Int) > 2) = false, (n0 == 8) = true, decide ((↑l3.length : Int) > 0) = false, ((↑l3.length : Int) == 2) = false, LoopOk Try.prog (loopOf Try.f141 0) (impl_NodeOk_L0 l3 0) (Ex.exit 1) impl_NodeOk_X0v2]) :
    Ret Try.prog 141 [AD.agg [I n0, I n1, I n2, D.sl 1 l3]] [AD.one (B true)] :=
  .of [Ans.br true, Ans.res [AD.one (B b4)], Ans.br false, Ans.br false, Ans.br false, Ans.br true, Ans.br false, Ans.br false, Ans.loop [] [93, 92, 91] [] (Ex.exit 1) impl_NodeOk_X0v2] _ Try.func141 rfl (by kernel_rfl) h

theorem impl_NodeOk_p9 (n0 : Int) (n1 : Int) (n2 : Int) (l3 : List (List D)) (b4 : Bool) (n5 : Int) (n6 : Int)
    (h : Obs [(n0 == 2) = true, Ret Try.prog 62 [AD.one (I n1), AD.one (I 0), AD.one (I 999)] [AD.one (B b4)], (!b4) = false, (n2 != 0) = false, decide ((↑l3.length : Int) > 2) = false, (n0 == 8) = false, ((↑l3.length : Int) == 2) = true, (0 : Int) ≤ 0, 0 < (↑l3.length : Int), l3[0]? = some [I n5], (0 : Int) ≤ 1, 1 < (↑l3.length : Int), l3[1]? = some [I n6], (n5 == n6) = true]) :
    Ret Try.prog 141 [AD.agg [I n0, I n1, I n2, D.sl 1 l3]] [AD.one (B false)] :=
  .of [Ans.br true, Ans.res [AD.one (B b4)], Ans.br false, Ans.br false, Ans.br false, Ans.br false, Ans.br true, Ans.el [I n5], Ans.el [I n6], Ans.br true] _ Try.func141 rfl (by kernel_rfl) h

theorem impl_NodeOk_p10 (n0 : Int) (n1 : Int) (n2 : Int) (l3 : List (List D)) (b4 : Bool) (n5 : Int) (n6 : Int) (b7 : Bool)
    (h : Obs [(n0 == 2) = true, Ret Try.prog 62 [AD.one (I n1), AD.one (I 0), AD.one (I 999)] [AD.one (B b4)], (!b4) = false, (n2 != 0) = false, decide ((↑l3.length : Int) > 2) = false, (n0 == 8) = false, ((↑l3.length : Int) == 2) = true, (0 : Int) ≤ 0, 0 < (↑l3.length : Int), l3[0]? = some [I n5], (0 : Int) ≤ 1, 1 < (↑l3.length : Int), l3[1]? = some [I n6], (n5 == n6) = false, LoopOk Try.prog (loopOf Try.f141 0) (impl_NodeOk_L0 l3 0) Ex.ret (impl_NodeOk_X0 b7)]) :
    Ret Try.prog 141 [AD.agg [I n0, I n1, I n2, D.sl 1 l3]] [AD.one (B b7)] :=
  .of [Ans.br true, Ans.res [AD.one (B b4)], Ans.br false, Ans.br false, Ans.br false, Ans.br false, Ans.br true, Ans.el [I n5], Ans.el [I n6], Ans.br false, Ans.loop [] [93, 92, 91] [] Ex.ret (impl_NodeOk_X0 b7)] _ Try.func141 rfl (by kernel_rfl) h

theorem impl_NodeOk_p11 (n0 : Int) (n1 : Int) (n2 : Int) (l3 : List (List D)) (b4 : Bool) (n5 : Int) (n6 : Int)
    (h : Obs [(n0 == 2) = true, Ret Try.prog 62 [AD.one (I n1), AD.one (I 0), AD.one (I 999)] [AD.one (B b4)], (!b4) = false, (n2 != 0) = false, decide ((↑l3.length : Int) > 2) = false, (n0 == 8) = false, ((↑l3.length : Int) == 2) = true, (0 : Int) ≤ 0, 0 < (↑l3.length : Int), l3[0]? = some [I n5], (0 : Int) ≤ 1, 1 < (↑l3.length : Int), l3[1]? = some [I n6], (n5 == n6) = false, LoopOk Try.prog (loopOf Try.f141 0) (impl_NodeOk_L0 l3 0) (Ex.exit 1) impl_NodeOk_X0v2]) :
    Ret Try.prog 141 [AD.agg [I n0, I n1, I n2, D.sl 1 l3]] [AD.one (B true)] :=
  .of [Ans.br true, Ans.res [AD.one (B b4)], Ans.br false, Ans.br false, Ans.br false, Ans.br false, Ans.br true, Ans.el [I n5], Ans.el [I n6], Ans.br false, Ans.loop [] [93, 92, 91] [] (Ex.exit 1) impl_NodeOk_X0v2] _ Try.func141 rfl (by kernel_rfl) h

theorem impl_NodeOk_p12 (n0 : Int) (n1 : Int) (n2 : Int) (l3 : List (List D)) (b4 : Bool) (b5 : Bool)
    (h : Obs [(n0 == 2) = true, Ret Try.prog 62 [AD.one (I n1), AD.one (I 0), AD.one (I 999)] [AD.one (B b4)], (!b4) = false, (n2 != 0) = false, decide ((↑l3.length : Int) > 2) = false, (n0 == 8) = false, ((↑l3.length : Int) == 2) = false, LoopOk Try.prog (loopOf Try.f141 0) (impl_NodeOk_L0 l3 0) Ex.ret (impl_NodeOk_X0 b5)]) :
    Ret Try.prog 141 [AD.agg [I n0, I n1, I n2, D.sl 1 l3]] [AD.one (B b5)] :=
  .of [Ans.br true, Ans.res [AD.one (B b4)], Ans.br false, Ans.br false, Ans.br false, Ans.br false, Ans.br false, Ans.loop [] [93, 92, 91] [] Ex.ret (impl_NodeOk_X0 b5)] _ Try.func141 rfl (by kernel_rfl) h

theorem impl_NodeOk_p13 (n0 : Int) (n1 : Int) (n2 : Int) (l3 : List (List D)) (b4 : Bool)
    (h : Obs [(n0 == 2) = true, Ret Try.prog 62 [AD.one (I n1), AD.one (I 0), AD.one (I 999)] [AD.one (B b4)], (!b4) = false, (n2 != 0) = false, decide ((↑l3.length : Int) > 2) = false, (n0 == 8) = false, ((↑l3.length : Int) == 2) = false, LoopOk Try.prog (loopOf Try.f141 0) (impl_NodeOk_L0 l3 0) (Ex.exit 1) impl_NodeOk_X0v2]) :
    Ret Try.prog 141 [AD.agg [I n0, I n1, I n2, D.sl 1 l3]] [AD.one (B true)] :=
  .of [Ans.br true, Ans.res [AD.one (B b4)], Ans.br false, Ans.br false, Ans.br false, Ans.br false, Ans.br false, Ans.loop [] [93, 92, 91] [] (Ex.exit 1) impl_NodeOk_X0v2] _ Try.func141 rfl (by kernel_rfl) h

theorem impl_NodeOk_p14 (n0 : Int) (n1 : Int) (n2 : Int) (l3 : List (List D)) (b4 : Bool)
    (h : Obs [(n0 == 2) = false, (n0 == 3) = true, Ret Try.prog 62 [AD.one (I n1), AD.one (I 1), AD.one (I 10)] [AD.one (B b4)], (!b4) = true]) :
    Ret Try.prog 141 [AD.agg [I n0, I n1, I n2, D.sl 1 l3]] [AD.one (B false)] :=
  .of [Ans.br false, Ans.br true, Ans.res [AD.one (B b4)], Ans.br true] _ Try.func141 rfl (by kernel_rfl) h

theorem impl_NodeOk_p15 (n0 : Int) (n1 : Int) (n2 : Int) (l3 : List (List D)) (b4 : Bool) (b5 : Bool)
    (h : Obs [(n0 == 2) = false, (n0 == 3) = true, Ret Try.prog 62 [AD.one (I n1), AD.one (I 1), AD.one (I 10)] [AD.one (B b4)], (!b4) = false, Ret Try.prog 62 [AD.one (I n2), AD.one (I 0), AD.one (I (IntKind.i64.wrap (n1 - 1)))] [AD.one (B b5)], (!b5) = true]) :
    Ret Try.prog 141 [AD.agg [I n0, I n1, I n2, D.sl 1 l3]] [AD.one (B false)] :=
  .of [Ans.br false, Ans.br true, Ans.res [AD.one (B b4)], Ans.br false, Ans.wr, Ans.res [AD.one (B b5)], Ans.br true] _ Try.func141 rfl (by kernel_rfl) h

theorem impl_NodeOk_p16 (n0 : Int) (n1 : Int) (n2 : Int) (l3 : List (List D)) (b4 : Bool) (b5 : Bool)
    (h : Obs [(n0 == 2) = false, (n0 == 3) = true, Ret Try.prog 62 [AD.one (I n1), AD.one (I 1), AD.one (I 10)] [AD.one (B b4)], (!b4) = false, Ret Try.prog 62 [AD.one (I n2), AD.one (I 0), AD.one (I (IntKind.i64.wrap (n1 - 1)))] [AD.one (B b5)], (!b5) = false, decide ((↑l3.length : Int) > 2) = true]) :
    Ret Try.prog 141 [AD.agg [I n0, I n1, I n2, D.sl 1 l3]] [AD.one (B false)] :=
  .of [Ans.br false, Ans.br true, Ans.res [AD.one (B b4)], Ans.br false, Ans.wr, Ans.res [AD.one (B b5)], Ans.br false, Ans.br true] _ Try.func141 rfl (by kernel_rfl) h

theorem impl_NodeOk_p17 (n0 : Int) (n1 : Int) (n2 : Int) (l3 : List (List D)) (b4 : Bool) (b5 : Bool)
    (h : Obs [(n0 == 2) = false, (n0 == 3) = true, Ret Try.prog 62 [AD.one (I n1), AD.one (I 1), AD.one (I 10)] [AD.one (B b4)], (!b4) = false, Ret Try.prog 62 [AD.one (I n2), AD.one (I 0), AD.one (I (IntKind.i64.wrap (n1 - 1)))] [AD.one (B b5)], (!b5) = false, decide ((↑l3.length : Int) > 2) = false, (n0 == 8) = true, decide ((↑l3.length : Int) > 0) = true]) :
    Ret Try.prog 141 [AD.agg [I n0, I n1, I n2, D.sl 1 l3]] [AD.one (B false)] :=
  .of [Ans.br false, Ans.br true, Ans.res [AD.one (B b4)], Ans.br false, Ans.wr, Ans.res [AD.one (B b5)], Ans.br false, Ans.br false, Ans.br true, Ans.br true] _ Try.func141 rfl (by kernel_rfl) h

theorem impl_NodeOk_p18 (n0 : Int) (n1 : Int) (n2 : Int) (l3 : List (List D)) (b4 : Bool) (b5 : Bool) (n6 : Int) (n7 : Int)
    (h : Obs [(n0 == 2) = false, (n0 == 3) = true, Ret Try.prog 62 [AD.one (I n1), AD.one (I 1), AD.one (I 10)] [AD.one (B b4)], (!b4) = false, Ret Try.prog 62 [AD.one (I n2), AD.one (I 0), AD.one (I (IntKind.i64.wrap (n1 - 1)))] [AD.one (B b5)], (!b5) = false, decide ((↑l3.length : Int) > 2) = false, (n0 == 8) = true, decide ((↑l3.length : Int) > 0) = false, ((↑l3.length : Int) == 2) = true, (0 : Int) ≤ 0, 0 < (↑l3.length : Int), l3[0]? = some [I n6], (0 : Int) ≤ 1, 1 < (↑l3.length : Int), l3[1]? = some [I n7], (n6 == n7) = true]) :
    Ret Try.prog 141 [AD.agg [I n0, I n1, I n2, D.sl 1 l3]] [AD.one (B false)] :=
  .of [Ans.br false, Ans.br true, Ans.res [AD.one (B b4)], Ans.br false, Ans.wr, Ans.res [AD.one (B b5)], Ans.br false, Ans.br false, Ans.br true, Ans.br false, Ans.br true, Ans.el [I n6], Ans.el [I n7], Ans.br true] _ Try.func141 rfl (by kernel_rfl) h

theorem impl_NodeOk_p19 (n0 : Int) (n1 : Int) (n2 : Int) (l3 : List (List D)) (b4 : Bool) (b5 : Bool) (n6 : Int) (n7 : Int) (b8 : Bool)
    (h : Obs [(n0 == 2) = false, (n0 == 3) = true, Ret Try.prog 62 [AD.one (I n1), AD.one (I 1), AD.one (I 10)] [AD.one (B b4)], (!b4) = false, Ret Try.prog 62 [AD.one (I n2), AD.one (I 0), AD.one (I (IntKind.i64.wrap (n1 - 1)))] [AD.one (B b5)], (!b5) = false, decide ((↑l3.length : Int) > 2) = false, (n0 == 8) = true, decide ((↑l3.length : Int) > 0) = false, ((↑l3.length : Int) == 2) = true, (0 : Int) ≤ 0, 0 < (↑l3.length : Int), l3[0]? = some [I n6], (0 : Int) ≤ 1, 1 < (↑l3.length : Int), l3[1]? = some [I n7], (n6 == n7) = false, LoopOk Try.prog (loopOf Try.f141 0) (impl_NodeOk_L0 l3 0) Ex.ret (impl_NodeOk_X0 b8)]) :
    Ret Try.prog 141 [AD.agg [I n0, I n1, I n2, D.sl 1 l3]] [AD.one (B b8)] :=
  .of [Ans.br false, Ans.br true, Ans.res [AD.one (B b4)], Ans.br false, Ans.wr, Ans.res [AD.one (B b5)], Ans.br false, Ans.br false, Ans.br true, Ans.br false, Ans.br true, Ans.el [I n6], Ans.el [I n7], Ans.br false, Ans.loop [] [93, 92, 91] [] Ex.ret (impl_NodeOk_X0 b8)] _ Try.func141 rfl (by kernel_rfl) h

theorem impl_NodeOk_p20 (n0 : Int) (n1 : Int) (n2 : Int) (l3 : List (List D)) (b4 : Bool) (b5 : Bool) (n6 : Int) (n7 : Int)
    (h : Obs [(n0 == 2) = false, (n0 == 3) = true, Ret Try.prog 62 [AD.one (I n1), AD.one (I 1), AD.one (I 10)] [AD.one (B b4)], (!b4) = false, Ret Try.prog 62 [AD.one (I n2), AD.one (I 0), AD.one (I (IntKind.i64.wrap (n1 - 1)))] [AD.one (B b5)], (!b5) = false, decide ((↑l3.length : Int) > 2) = false, (n0 == 8) = true, decide ((↑l3.length : Int) > 0) = false, ((↑l3.length : Int) == 2) = true, (0 : Int) ≤ 0, 0 < (↑l3.length : Int), l3[0]? = some [I n6], (0 : Int) ≤ 1, 1 < (↑l3.length : Int), l3[1]? = some [I n7], (n6 == n7) = false, LoopOk Try.prog (loopOf Try.f141 0) (impl_NodeOk_L0 l3 0) (Ex.exit 1) impl_NodeOk_X0v2]) :
    Ret Try.prog 141 [AD.agg [I n0, I n1, I n2, D.sl 1 l3]] [AD.one (B true)] :=
  .of [Ans.br false, Ans.br true, Ans.res [AD.one (B b4)], Ans.br false, Ans.wr, Ans.res [AD.one (B b5)], Ans.br false, Ans.br false, Ans.br true, Ans.br false, Ans.br true, Ans.el [I n6], Ans.el [I n7], Ans.br false, Ans.loop [] [93, 92, 91] [] (Ex.exit 1) impl_NodeOk_X0v2] _ Try.func141 rfl (by kernel_rfl) h

theorem impl_NodeOk_p21 (n0 : Int) (n1 : Int) (n2 : Int) (l3 : List (List D)) (b4 : Bool) (b5 : Bool) (b6 : Bool)
    (h : Obs [(n0 == 2) = false, (n0 == 3) = true, Ret Try.prog 62 [AD.one (I n1), AD.one (I 1), AD.one (I 10)] [AD.one (B b4)], (!b4) = false, Ret Try.prog 62 [AD.one (I n2), AD.one (I 0), AD.one (I (IntKind.i64.wrap (n1 - 1)))] [AD.one (B b5)], (!b5) = false, decide ((↑l3.length : Int) > 2) = false, (n0 == 8) = true, decide ((↑l3.length : Int) > 0) = false, ((↑l3.length : Int) == 2) = false, LoopOk Try.prog (loopOf Try.f141 0) (impl_NodeOk_L0 l3 0) Ex.ret (impl_NodeOk_X0 b6)]) :
    Ret Try.prog 141 [AD.agg [I n0, I n1, I n2, D.sl 1 l3]] [AD.one (B b6)] :=
  .of [Ans.br false, Ans.br true, Ans.res [AD.one (B b4)], Ans.br false, Ans.wr, Ans.res [AD.one (B b5)], Ans.br false, Ans.br false, Ans.br true, Ans.br false, Ans.br false, Ans.loop [] [93, 92, 91] [] Ex.ret (impl_NodeOk_X0 b6)] _ Try.func141 rfl (by kernel_rfl) h

theorem impl_NodeOk_p22 (n0 : Int) (n1 : Int) (n2 : Int) (l3 : List (List D)) (b4 : Bool) (b5 : Bool)
    (h : Obs [(n0 == 2) = false, (n0 == 3) = true, Ret Try.prog 62 [AD.one (I n1), AD.one (I 1), AD.one (I 10)] [AD.one (B b4)], (!b4) = false, Ret Try.prog 62 [AD.one (I n2), AD.one (I 0), AD.one (I (IntKind.i64.wrap (n1 - 1)))] [AD.one (B b5)], (!b5) = false, decide ((↑l3.length : Int) > 2) = false, (n0 == 8) = true, decide ((↑l3.length : Int) > 0) = false, ((↑l3.length : Int) == 2) = false, LoopOk Try.prog (loopOf Try.f141 0) (impl_NodeOk_L0 l3 0) (Ex.exit 1) impl_NodeOk_X0v2]) :
    Ret Try.prog 141 [AD.agg [I n0, I n1, I n2, D.sl 1 l3]] [AD.one (B true)] :=
  .of [Ans.br false, Ans.br true, Ans.res [AD.one (B b4)], Ans.br false, Ans.wr, Ans.res [AD.one (B b5)], Ans.br false, Ans.br false, Ans.br true, Ans.br false, Ans.br false, Ans.loop [] [93, 92, 91] [] (Ex.exit 1) impl_NodeOk_X0v2] _ Try.func141 rfl (by kernel_rfl) h

theorem impl_NodeOk_p23 (n0 : Int) (n1 : Int) (n2 : Int) (l3 : List (List D)) (b4 : Bool) (b5 : Bool) (n6 : Int) (n7 : Int)
    (h : Obs [(n0 == 2) = false, (n0 == 3) = true, Ret Try.prog 62 [AD.one (I n1), AD.one (I 1), AD.one (I 10)] [AD.one (B b4)], (!b4) = false, Ret Try.prog 62 [AD.one (I n2), AD.one (I 0), AD.one (I (IntKind.i64.wrap (n1 - 1)))] [AD.one (B b5)], (!b5) = false, decide ((↑l3.length : Int) > 2) = false, (n0 == 8) = false, ((↑l3.length : Int) == 2) = true, (0 : Int) ≤ 0, 0 < (↑l3.length : Int), l3[0]? = some [I n6], (0 : Int) ≤ 1, 1 < (↑l3.length : Int), l3[1]? = some [I n7], (n6 == n7) = true]) :
    Ret Try.prog 141 [AD.agg [I n0, I n1, I n2, D.sl 1 l3]] [AD.one (B false)] :=
  .of [Ans.br false, Ans.br true, Ans.res [AD.one (B b4)], Ans.br false, Ans.wr, Ans.res [AD.one (B b5)], Ans.br false, Ans.br false, Ans.br false, Ans.br true, Ans.el [I n6], Ans.el [I n7], Ans.br true] _ Try.func141 rfl (by kernel_rfl) h

theorem impl_NodeOk_p24 (n0 : Int) (n1 : Int) (n2 : Int) (l3 : List (List D)) (b4 : Bool) (b5 : Bool) (n6 : Int) (n7 : Int) (b8 : Bool)
    (h : Obs [(n0 == 2) = false, (n0 == 3) = true, Ret Try.prog 62 [AD.one (I n1), AD.one (I 1), AD.one (I 10)] [AD.one (B b4)], (!b4) = false, Ret Try.prog 62 [AD.one (I n2), AD.one (I 0), AD.one (I (IntKind.i64.wrap (n1 - 1)))] [AD.one (B b5)], (!b5) = false, decide ((↑l3.length : Int) > 2) = false, (n0 == 8) = false, ((↑l3.length : Int) == 2) = true, (0 : Int) ≤ 0, 0 < (↑l3.length : Int), l3[0]? = some [I n6], (0 : Int) ≤ 1, 1 < (↑l3.length : Int), l3[1]? = some [I n7], (n6 == n7) = false, LoopOk Try.prog (loopOf Try.f141 0) (impl_NodeOk_L0 l3 0) Ex.ret (impl_NodeOk_X0 b8)]) :
    Ret Try.prog 141 [AD.agg [I n0, I n1, I n2, D.sl 1 l3]] [AD.one (B b8)] :=
  .of [Ans.br false, Ans.br true, Ans.res [AD.one (B b4)], Ans.br false, Ans.wr, Ans.res [AD.one (B b5)], Ans.br false, Ans.br false, Ans.br false, Ans.br true, Ans.el [I n6], Ans.el [I n7], Ans.br false, Ans.loop [] [93, 92, 91] [] Ex.ret (impl_NodeOk_X0 b8)] _ Try.func141 rfl (by kernel_rfl) h

theorem impl_NodeOk_p25 (n0 : Int) (n1 : Int) (n2 : Int) (l3 : List (List D)) (b4 : Bool) (b5 : Bool) (n6 : Int) (n7 : Int)
    (h : Obs [(n0 == 2) = false, (n0 == 3) = true, Ret Try.prog 62 [AD.one (I n1), AD.one (I 1), AD.one (I 10)] [AD.one (B b4)], (!b4) = false, Ret Try.prog 62 [AD.one (I n2), AD.one (I 0), AD.one (I (IntKind.i64.wrap (n1 - 1)))] [AD.one (B b5)], (!b5) = false, decide ((↑l3.length : Int) > 2) = false, (n0 == 8) = false, ((↑l3.length : Int) == 2) = true, (0 : Int) ≤ 0, 0 < (↑l3.length : Int), l3[0]? = some [I n6], (0 : Int) ≤ 1, 1 < (↑l3.length : Int), l3[1]? = some [I n7], (n6 == n7) = false, LoopOk Try.prog (loopOf Try.f141 0) (impl_NodeOk_L0 l3 0) (Ex.exit 1) impl_NodeOk_X0v2]) :
    Ret Try.prog 141 [AD.agg [I n0, I n1, I n2, D.sl 1 l3]] [AD.one (B true)] :=
  .of [Ans.br false, Ans.br true, Ans.res [AD.one (B b4)], Ans.br false, Ans.wr, Ans.res [AD.one (B b5)], Ans.br false, Ans.br false, Ans.br false, Ans.br true, Ans.el [I n6], Ans.el [I n7], Ans.br false, Ans.loop [] [93, 92, 91] [] (Ex.exit 1) impl_NodeOk_X0v2] _ Try.func141 rfl (by kernel_rfl) h

theorem impl_NodeOk_p26 (n0 : Int) (n1 : Int) (n2 : Int) (l3 : List (List D)) (b4 : Bool) (b5 : Bool) (b6 : Bool)
    (h : Obs [(n0 == 2) = false, (n0 == 3) = true, Ret Try.prog 62 [AD.one (I n1), AD.one (I 1), AD.one (I 10)] [AD.one (B b4)], (!b4) = false, Ret Try.prog 62 [AD.one (I n2), AD.one (I 0), AD.one (I (IntKind.i64.wrap (n1 - 1)))] [AD.one (B b5)], (!b5) = false, decide ((↑l3.length : Int) > 2) = false, (n0 == 8) = false, ((↑l3.length : Int) == 2) = false, LoopOk Try.prog (loopOf Try.f141 0) (impl_NodeOk_L0 l3 0) Ex.ret (impl_NodeOk_X0 b6)]) :
    Ret Try.prog 141 [AD.agg [I n0, I n1, I n2, D.sl 1 l3]] [AD.one (B b6)] :=
  .of [Ans.br false, Ans.br true, Ans.res [AD.one (B b4)], Ans.br false, Ans.wr, Ans.res [AD.one (B b5)], Ans.br false, Ans.br false, Ans.br false, Ans.br false, Ans.loop [] [93, 92, 91] [] Ex.ret (impl_NodeOk_X0 b6)] _ Try.func141 rfl (by kernel_rfl) h

theorem impl_NodeOk_p27 (n0 : Int) (n1 : Int) (n2 : Int) (l3 : List (List D)) (b4 : Bool) (b5 : Bool)
    (h : Obs [(n0 == 2) = false, (n0 == 3) = true, Ret Try.prog 62 [AD.one (I n1), AD.one (I 1), AD.one (I 10)] [AD.one (B b4)], (!b4) = false, Ret Try.prog 62 [AD.one (I n2), AD.one (I 0), AD.one (I (IntKind.i64.wrap (n1 - 1)))] [AD.one (B b5)], (!b5) = false, decide ((↑l3.length : Int) > 2) = false, (n0 == 8) = false, ((↑l3.length : Int) == 2) = false, LoopOk Try.prog (loopOf Try.f141 0) (impl_NodeOk_L0 l3 0) (Ex.exit 1) impl_NodeOk_X0v2]) :
    Ret Try.prog 141 [AD.agg [I n0, I n1, I n2, D.sl 1 l3]] [AD.one (B true)] :=
  .of [Ans.br false, Ans.br true, Ans.res [AD.one (B b4)], Ans.br false, Ans.wr, Ans.res [AD.one (B b5)], Ans.br false, Ans.br false, Ans.br false, Ans.br false, Ans.loop [] [93, 92, 91] [] (Ex.exit 1) impl_NodeOk_X0v2] _ Try.func141 rfl (by kernel_rfl) h

theorem impl_NodeOk_p28 (n0 : Int) (n1 : Int) (n2 : Int) (l3 : List (List D)) (b4 : Bool)
    (h : Obs [(n0 == 2) = false, (n0 == 3) = false, (n0 == 4) = true, Ret Try.prog 62 [AD.one (I n1), AD.one (I 0), AD.one (I 99)] [AD.one (B b4)], (!b4) = true]) :
    Ret Try.prog 141 [AD.agg [I n0, I n1, I n2, D.sl 1 l3]] [AD.one (B false)] :=
  .of [Ans.br false, Ans.br false, Ans.br true, Ans.res [AD.one (B b4)], Ans.br true] _ Try.func141 rfl (by kernel_rfl) h

theorem impl_NodeOk_p29 (n0 : Int) (n1 : Int) (n2 : Int) (l3 : List (List D)) (b4 : Bool)
    (h : Obs [(n0 == 2) = false, (n0 == 3) = false, (n0 == 4) = true, Ret Try.prog 62 [AD.one (I n1), AD.one (I 0), AD.one (I 99)] [AD.one (B b4)], (!b4) = false, (n2 != 0) = true]) :
    Ret Try.prog 141 [AD.agg [I n0, I n1, I n2, D.sl 1 l3]] [AD.one (B false)] :=
  .of [Ans.br false, Ans.br false, Ans.br true, Ans.res [AD.one (B b4)], Ans.br false, Ans.br true] _ Try.func141 rfl (by kernel_rfl) h

theorem impl_NodeOk_p30 (n0 : Int) (n1 : Int) (n2 : Int) (l3 : List (List D)) (b4 : Bool)
    (h : Obs [(n0 == 2) = false, (n0 == 3) = false, (n0 == 4) = true, Ret Try.prog 62 [AD.one (I n1), AD.one (I 0), AD.one (I 99)] [AD.one (B b4)], (!b4) = false, (n2 != 0) = false, decide ((↑l3.length : Int) > 2) = true]) :
    Ret Try.prog 141 [AD.agg [I n0, I n1, I n2, D.sl 1 l3]] [AD.one (B false)] :=
  .of [Ans.br false, Ans.br false, Ans.br true, Ans.res [AD.one (B b4)], Ans.br false, Ans.br false, Ans.br true] _ Try.func141 rfl (by kernel_rfl) h

theorem impl_NodeOk_p31 (n0 : Int) (n1 : Int) (n2 : Int) (l3 : List (List D)) (b4 : Bool)
    (h : Obs [(n0 == 2) = false, (n0 == 3) = false, (n0 == 4) = true, Ret Try.prog 62 [AD.one (I n1), AD.one (I 0), AD.one (I 99)] [AD.one (B b4)], (!b4) = false, (n2 != 0) = false, decide ((↑l3.length : Int) > 2) = false, (n0 == 8) = true, decide ((↑l3.length : Int) > 0) = true]) :
    Ret Try.prog 141 [AD.agg [I n0, I n1, I n2, D.sl 1 l3]] [AD.one (B false)] :=
  .of [Ans.br false, Ans.br false, Ans.br true, Ans.res [AD.one (B b4)], Ans.br false, Ans.br false, Ans.br false, Ans.br true, Ans.br true] _ Try.func141 rfl (by kernel_rfl) h

theorem impl_NodeOk_p32 (n0 : Int) (n1 : Int) (n2 : Int) (l3 : List (List D)) (b4 : Bool) (n5 : Int) (n6 : Int)
    (h : Obs [(n0 == 2) = false, (n0 == 3) = false, (n0 == 4) = true, Ret Try.prog 62 [AD.one (I n1), AD.one (I 0), AD.one (I 99)] [AD.one (B b4)], (!b4) = false, (n2 != 0) = false, decide ((↑l3.length : Int) > 2) = false, (n0 == 8) = true, decide ((↑l3.length : Int) > 0) = false, ((↑l3.length : Int) == 2) = true, (0 : Int) ≤ 0, 0 < (↑l3.length : Int), l3[0]? = some [I n5], (0 : Int) ≤ 1, 1 < (↑l3.length : Int), l3[1]? = some [I n6], (n5 == n6) = true]) :
    Ret Try.prog 141 [AD.agg [I n0, I n1, I n2, D.sl 1 l3]] [AD.one (B false)] :=
  .of [Ans.br false, Ans.br false, Ans.br true, Ans.res [AD.one (B b4)], Ans.br false, Ans.br false, Ans.br false, Ans.br true, Ans.br false, Ans.br true, Ans.el [I n5], Ans.el [I n6], Ans.br true] _ Try.func141 rfl (by kernel_rfl) h

theorem impl_NodeOk_p33 (n0 : Int) (n1 : Int) (n2 : Int) (l3 : List (List D)) (b4 : Bool) (n5 : Int) (n6 : Int) (b7 : Bool)
    (h : Obs [(n0 == 2) = false, (n0 == 3) = false, (n0 == 4) = true, Ret Try.prog 62 [AD.one (I n1), AD.one (I 0), AD.one (I 99)] [AD.one (B b4)], (!b4) = false, (n2 != 0) = false, decide ((↑l3.length : Int) > 2) = false, (n0 == 8) = true, decide ((↑l3.length : Int) > 0) = false, ((↑l3.length : Int) == 2) = true, (0 : Int) ≤ 0, 0 < (↑l3.length : Int), l3[0]? = some [I n5], (0 : Int) ≤ 1, 1 < (↑l3.length : Int), l3[1]? = some [I n6], (n5 == n6) = false, LoopOk Try.prog (loopOf Try.f141 0) (impl_NodeOk_L0 l3 0) Ex.ret (impl_NodeOk_X0 b7)]) :
    Ret Try.prog 141 [AD.agg [I n0, I n1, I n2, D.sl 1 l3]] [AD.one (B b7)] :=
  .of [Ans.br false, Ans.br false, Ans.br true, Ans.res [AD.one (B b4)], Ans.br false, Ans.br false, Ans.br false, Ans.br true, Ans.br false, Ans.br true, Ans.el [I n5], Ans.el [I n6], Ans.br false, Ans.loop [] [93, 92, 91] [] Ex.ret (impl_NodeOk_X0 b7)] _ Try.func141 rfl (by kernel_rfl) h

theorem impl_NodeOk_p34 (n0 : Int) (n1 : Int) (n2 : Int) (l3 : List (List D)) (b4 : Bool) (n5 : Int) (n6 : Int)
    (h : Obs [(n0 == 2) = false, (n0 == 3) = false, (n0 == 4) = true, Ret Try.prog 62 [AD.one (I n1), AD.one (I 0), AD.one (I 99)] [AD.one (B b4)], (!b4) = false, (n2 != 0) = false, decide ((↑l3.length : Int) > 2) = false, (n0 == 8) = true, decide ((↑l3.length : Int) > 0) = false, ((↑l3.length : Int) == 2) = true, (0 : Int) ≤ 0, 0 < (↑l3.length : Int), l3[0]? = some [I n5], (0 : Int) ≤ 1, 1 < (↑l3.length : Int), l3[1]? = some [I n6], (n5 == n6) = false, LoopOk Try.prog (loopOf Try.f141 0) (impl_NodeOk_L0 l3 0) (Ex.exit 1) impl_NodeOk_X0v2]) :
    Ret Try.prog 141 [AD.agg [I n0, I n1, I n2, D.sl 1 l3]] [AD.one (B true)] :=
  .of [Ans.br false, Ans.br false, Ans.br true, Ans.res [AD.one (B b4)], Ans.br false, Ans.br false, Ans.br false, Ans.br true, Ans.br false, Ans.br true, Ans.el [I n5], Ans.el [I n6], Ans.br false, Ans.loop [] [93, 92, 91] [] (Ex.exit 1) impl_NodeOk_X0v2] _ Try.func141 rfl (by kernel_rfl) h

theorem impl_NodeOk_p35 (n0 : Int) (n1 : Int) (n2 : Int) (l3 : List (List D)) (b4 : Bool) (b5 : Bool)
    (h : Obs [(n0 == 2) = false, (n0 == 3) = false, (n0 == 4) = true, Ret Try.prog 62 [AD.one (I n1), AD.one (I 0), AD.one (I 99)] [AD.one (B b4)], (!b4) = false, (n2 != 0) = false, decide ((↑l3.length : Int) > 2) = false, (n0 == 8) = true, decide ((↑l3.length : Int) > 0) = false, ((↑l3.length : Int) == 2) = false, LoopOk Try.prog (loopOf Try.f141 0) (impl_NodeOk_L0 l3 0) Ex.ret (impl_NodeOk_X0 b5)]) :
    Ret Try.prog 141 [AD.agg [I n0, I n1, I n2, D.sl 1 l3]] [AD.one (B b5)] :=
  .of [Ans.br false, Ans.br false, Ans.br true, Ans.res [AD.one (B b4)], Ans.br false, Ans.br false, Ans.br false, Ans.br true, Ans.br false, Ans.br false, Ans.loop [] [93, 92, 91] [] Ex.ret (impl_NodeOk_X0 b5)] _ Try.func141 rfl (by kernel_rfl) h

theorem impl_NodeOk_p36 (n0 : Int) (n1 : Int) (n2 : Int) (l3 : List (List D)) (b4 : Bool)
    (h : Obs [(n0 == 2) = false, (n0 == 3) = false, (n0 == 4) = true, Ret Try.prog 62 [AD.one (I n1), AD.one (I 0), AD.one (I 99)] [AD.one (B b4)], (!b4) = false, (n2 != 0) = false, decide ((↑l3.length : Int) > 2) = false, (n0 == 8) = true, decide ((↑l3.length : Int) > 0) = false, ((↑l3.length : Int) == 2) = false, LoopOk Try.prog (loopOf Try.f141 0) (impl_NodeOk_L0 l3 0) (Ex.exit 1) impl_NodeOk_X0v2]) :
    Ret Try.prog 141 [AD.agg [I n0, I n1, I n2, D.sl 1 l3]] [AD.one (B true)] :=
  .of [Ans.br false, Ans.br false, Ans.br true, Ans.res [AD.one (B b4)], Ans.br false, Ans.br false, Ans.br false, Ans.br true, Ans.br false, Ans.br false, Ans.loop [] [93, 92, 91] [] (Ex.exit 1) impl_NodeOk_X0v2] _ Try.func141 rfl (by kernel_rfl) h

theorem impl_NodeOk_p37 (n0 : Int) (n1 : Int) (n2 : Int) (l3 : List (List D)) (b4 : Bool) (n5 : Int) (n6 : Int)
    (h : Obs [(n0 == 2) = false, (n0 == 3) = false, (n0 == 4) = true, Ret Try.prog 62 [AD.one (I n1), AD.one (I 0), AD.one (I 99)] [AD.one (B b4)], (!b4) = false, (n2 != 0) = false, decide ((↑l3.length : Int) > 2) = false, (n0 == 8) = false, ((↑l3.length : Int) == 2) = true, (0 : Int) ≤ 0, 0 < (↑l3.length : Int), l3[0]? = some [I n5], (0 : Int) ≤ 1, 1 < (↑l3.length : Int), l3[1]? = some [I n6], (n5 == n6) = true]) :
    Ret Try.prog 141 [AD.agg [I n0, I n1, I n2, D.sl 1 l3]] [AD.one (B false)] :=
  .of [Ans.br false, Ans.br false, Ans.br true, Ans.res [AD.one (B b4)], Ans.br false, Ans.br false, Ans.br false, Ans.br false, Ans.br true, Ans.el [I n5], Ans.el [I n6], Ans.br true] _ Try.func141 rfl (by kernel_rfl) h

theorem impl_NodeOk_p38 (n0 : Int) (n1 : Int) (n2 : Int) (l3 : List (List D)) (b4 : Bool) (n5 : Int) (n6 : Int) (b7 : Bool)
    (h : Obs [(n0 == 2) = false, (n0 == 3) = false, (n0 == 4) = true, Ret Try.prog 62 [AD.one (I n1), AD.one (I 0), AD.one (I 99)] [AD.one (B b4)], (!b4) = false, (n2 != 0) = false, decide ((↑l3.length : Int) > 2) = false, (n0 == 8) = false, ((↑l3.length : Int) == 2) = true, (0 : Int) ≤ 0, 0 < (↑l3.length : Int), l3[0]? = some [I n5], (0 : Int) ≤ 1, 1 < (↑l3.length : Int), l3[1]? = some [I n6], (n5 == n6) = false, LoopOk Try.prog (loopOf Try.f141 0) (impl_NodeOk_L0 l3 0) Ex.ret (impl_NodeOk_X0 b7)]) :
    Ret Try.prog 141 [AD.agg [I n0, I n1, I n2, D.sl 1 l3]] [AD.one (B b7)] :=
  .of [Ans.br false, Ans.br false, Ans.br true, Ans.res [AD.one (B b4)], Ans.br false, Ans.br false, Ans.br false, Ans.br false, Ans.br true, Ans.el [I n5], Ans.el [I n6], Ans.br false, Ans.loop [] [93, 92, 91] [] Ex.ret (impl_NodeOk_X0 b7)] _ Try.func141 rfl (by kernel_rfl) h

theorem impl_NodeOk_p39 (n0 : Int) (n1 : Int) (n2 : Int) (l3 : List (List D)) (b4 : Bool) (n5 : Int) (n6 : Int)
    (h : Obs [(n0 == 2) = false, (n0 == 3) = false, (n0 == 4) = true, Ret Try.prog 62 [AD.one (I n1), AD.one (I 0), AD.one (I 99)] [AD.one (B b4)], (!b4) = false, (n2 != 0) = false, decide ((↑l3.length : Int) > 2) = false, (n0 == 8) = false, ((↑l3.length : Int) == 2) = true, (0 : Int) ≤ 0, 0 < (↑l3.length : Int), l3[0]? = some [I n5], (0 : Int) ≤ 1, 1 < (↑l3.length : Int), l3[1]? = some [I n6], (n5 == n6) = false, LoopOk Try.prog (loopOf Try.f141 0) (impl_NodeOk_L0 l3 0) (Ex.exit 1) impl_NodeOk_X0v2]) :
    Ret Try.prog 141 [AD.agg [I n0, I n1, I n2, D.sl 1 l3]] [AD.one (B true)] :=
  .of [Ans.br false, Ans.br false, Ans.br true, Ans.res [AD.one (B b4)], Ans.br false, Ans.br false, Ans.br false, Ans.br false, Ans.br true, Ans.el [I n5], Ans.el [I n6], Ans.br false, Ans.loop [] [93, 92, 91] [] (Ex.exit 1) impl_NodeOk_X0v2] _ Try.func141 rfl (by kernel_rfl) h

theorem impl_NodeOk_p40 (n0 : Int) (n1 : Int) (n2 : Int) (l3 : List (List D)) (b4 : Bool) (b5 : Bool)
    (h : Obs [(n0 == 2) = false, (n0 == 3) = false, (n0 == 4) = true, Ret Try.prog 62 [AD.one (I n1), AD.one (I 0), AD.one (I 99)] [AD.one (B b4)], (!b4) = false, (n2 != 0) = false, decide ((↑l3.length : Int) > 2) = false, (n0 == 8) = false, ((↑l3.length : Int) == 2) = false, LoopOk Try.prog (loopOf Try.f141 0) (impl_NodeOk_L0 l3 0) Ex.ret (impl_NodeOk_X0 b5)]) :
    Ret Try.prog 141 [AD.agg [I n0, I n1, I n2, D.sl 1 l3]] [AD.one (B b5)] :=
  .of [Ans.br false, Ans.br false, Ans.br true, Ans.res [AD.one (B b4)], Ans.br false, Ans.br false, Ans.br false, Ans.br false, Ans.br false, Ans.loop [] [93, 92, 91] [] Ex.ret (impl_NodeOk_X0 b5)] _ Try.func141 rfl (by kernel_rfl) h

theorem impl_NodeOk_p41 (n0 : Int) (n1 : Int) (n2 : Int) (l3 : List (List D)) (b4 : Bool)
    (h : Obs [(n0 == 2) = false, (n0 == 3) = false, (n0 == 4) = true, Ret Try.prog 62 [AD.one (I n1), AD.one (I 0), AD.one (I 99)] [AD.one (B b4)], (!b4) = false, (n2 != 0) = false, decide ((↑l3.length : Int) > 2) = false, (n0 == 8) = false, ((↑l3.length : Int) == 2) = false, LoopOk Try.prog (loopOf Try.f141 0) (impl_NodeOk_L0 l3 0) (Ex.exit 1) impl_NodeOk_X0v2]) :
    Ret Try.prog 141 [AD.agg [I n0, I n1, I n2, D.sl 1 l3]] [AD.one (B true)] :=
  .of [Ans.br false, Ans.br false, Ans.br true, Ans.res [AD.one (B b4)], Ans.br false, Ans.br false, Ans.br false, Ans.br false, Ans.br false, Ans.loop [] [93, 92, 91] [] (Ex.exit 1) impl_NodeOk_X0v2] _ Try.func141 rfl (by kernel_rfl) h

theorem impl_NodeOk_p42 (n0 : Int) (n1 : Int) (n2 : Int) (l3 : List (List D))
    (h : Obs [(n0 == 2) = false, (n0 == 3) = false, (n0 == 4) = false, (n0 == 1) = true, (n0 == 1) = true, (n1 != 0) = true]) :
    Ret Try.prog 141 [AD.agg [I n0, I n1, I n2, D.sl 1 l3]] [AD.one (B false)] :=
  .of [Ans.br false, Ans.br false, Ans.br false, Ans.br true, Ans.br true, Ans.br true] _ Try.func141 rfl (by kernel_rfl) h

theorem impl_NodeOk_p43 (n0 : Int) (n1 : Int) (n2 : Int) (l3 : List (List D))
    (h : Obs [(n0 == 2) = false, (n0 == 3) = false, (n0 == 4) = false, (n0 == 1) = true, (n0 == 1) = true, (n1 != 0) = false, (n2 != 0) = true]) :
    Ret Try.prog 141 [AD.agg [I n0, I n1, I n2, D.sl 1 l3]] [AD.one (B false)] :=
  .of [Ans.br false, Ans.br false, Ans.br false, Ans.br true, Ans.br true, Ans.br false, Ans.br true] _ Try.func141 rfl (by kernel_rfl) h

theorem impl_NodeOk_p44 (n0 : Int) (n1 : Int) (n2 : Int) (l3 : List (List D))
    (h : Obs [(n0 == 2) = false, (n0 == 3) = false, (n0 == 4) = false, (n0 == 1) = true, (n0 == 1) = true, (n1 != 0) = false, (n2 != 0) = false, decide ((↑l3.length : Int) > 2) = true]) :
    Ret Try.prog 141 [AD.agg [I n0, I n1, I n2, D.sl 1 l3]] [AD.one (B false)] :=
  .of [Ans.br false, Ans.br false, Ans.br false, Ans.br true, Ans.br true, Ans.br false, Ans.br false, Ans.br true] _ Try.func141 rfl (by kernel_rfl) h

theorem impl_NodeOk_p45 (n0 : Int) (n1 : Int) (n2 : Int) (l3 : List (List D))
    (h : Obs [(n0 == 2) = false, (n0 == 3) = false, (n0 == 4) = false, (n0 == 1) = true, (n0 == 1) = true, (n1 != 0) = false, (n2 != 0) = false, decide ((↑l3.length : Int) > 2) = false, (n0 == 8) = true, decide ((↑l3.length : Int) > 0) = true]) :
    Ret Try.prog 141 [AD.agg [I n0, I n1, I n2, D.sl 1 l3]] [AD.one (B false)] :=
  .of [Ans.br false, Ans.br false, Ans.br false, Ans.br true, Ans.br true, Ans.br false, Ans.br false, Ans.br false, Ans.br true, Ans.br true] _ Try.func141 rfl (by kernel_rfl) h

theorem impl_NodeOk_p46 (n0 : Int) (n1 : Int) (n2 : Int) (l3 : List (List D)) (n4 : Int) (n5 : Int)
    (h : Obs [(n0 == 2) = false, (n0 == 3) = false, (n0 == 4) = false, (n0 == 1) = true, (n0 == 1) = true, (n1 != 0) = false, (n2 != 0) = false, decide ((↑l3.length : Int) > 2) = false, (n0 == 8) = true, decide ((↑l3.length : Int) > 0) = false, ((↑l3.length : Int) == 2) = true, (0 : Int) ≤ 0, 0 < (↑l3.length : Int), l3[0]? = some [I n4], (0 : Int) ≤ 1, 1 < (↑l3.length : Int), l3[1]? = some [I n5], (n4 == n5) = true]) :
    Ret Try.prog 141 [AD.agg [I n0, I n1, I n2, D.sl 1 l3]] [AD.one (B false)] :=
  .of [Ans.br false, Ans.br false, Ans.br false, Ans.br true, Ans.br true, Ans.br false, Ans.br false, Ans.br false, Ans.br true, Ans.br false, Ans.br true, Ans.el [I n4], Ans.el [I n5], Ans.br true] _ Try.func141 rfl (by kernel_rfl) h

theorem impl_NodeOk_p47 (n0 : Int) (n1 : Int) (n2 : Int) (l3 : List (List D)) (n4 : Int) (n5 : Int) (b6 : Bool)
    (h : Obs [(n0 == 2) = false, (n0 == 3) = false, (n0 == 4) = false, (n0 == 1) = true, (n0 == 1) = true, (n1 != 0) = false, (n2 != 0) = false, decide ((↑l3.length : Int) > 2) = false, (n0 == 8) = true, decide ((↑l3.length : Int) > 0) = false, ((↑l3.length : Int) == 2) = true, (0 : Int) ≤ 0, 0 < (↑l3.length : Int), l3[0]? = some [I n4], (0 : Int) ≤ 1, 1 < (↑l3.length : Int), l3[1]? = some [I n5], (n4 == n5) = false, LoopOk Try.prog (loopOf Try.f141 0) (impl_NodeOk_L0 l3 0) Ex.ret (impl_NodeOk_X0 b6)]) :
    Ret Try.prog 141 [AD.agg [I n0, I n1, I n2, D.sl 1 l3]] [AD.one (B b6)] :=
  .of [Ans.br false, Ans.br false, Ans.br false, Ans.br true, Ans.br true, Ans.br false, Ans.br false, Ans.br false, Ans.br true, Ans.br false, Ans.br true, Ans.el [I n4], Ans.el [I n5], Ans.br false, Ans.loop [] [93, 92, 91] [] Ex.ret (impl_NodeOk_X0 b6)] _ Try.func141 rfl (by kernel_rfl) h

theorem impl_NodeOk_p48 (n0 : Int) (n1 : Int) (n2 : Int) (l3 : List (List D)) (n4 : Int) (n5 : Int)
    (h : Obs [(n0 == 2) = false, (n0 == 3) = false, (n0 == 4) = false, (n0 == 1) = true, (n0 == 1) = true, (n1 != 0) = false, (n2 != 0) = false, decide ((↑l3.length : Int) > 2) = false, (n0 == 8) = true, decide ((↑l3.length : Int) > 0) = false, ((↑l3.length : Int) == 2) = true, (0 : Int) ≤ 0, 0 < (↑l3.length : Int), l3[0]? = some [I n4], (0 : Int) ≤ 1, 1 < (↑l3.length : Int), l3[1]? = some [I n5], (n4 == n5) = false, LoopOk Try.prog (loopOf Try.f141 0) (impl_NodeOk_L0 l3 0) (Ex.exit 1) impl_NodeOk_X0v2]) :
    Ret Try.prog 141 [AD.agg [I n0, I n1, I n2, D.sl 1 l3]] [AD.one (B true)] :=
  .of [Ans.br false, Ans.br false, Ans.br false, Ans.br true, Ans.br true, Ans.br false, Ans.br false, Ans.br false, Ans.br true, Ans.br false, Ans.br true, Ans.el [I n4], Ans.el [I n5], Ans.br false, Ans.loop [] [93, 92, 91] [] (Ex.exit 1) impl_NodeOk_X0v2] _ Try.func141 rfl (by kernel_rfl) h

theorem impl_NodeOk_p49 (n0 : Int) (n1 : Int) (n2 : Int) (l3 : List (List D)) (b4 : Bool)
    (h : Obs [(n0 == 2) = false, (n0 == 3) = false, (n0 == 4) = false, (n0 == 1) = true, (n0 == 1) = true, (n1 != 0) = false, (n2 != 0) = false, decide ((↑l3.length : Int) > 2) = false, (n0 == 8) = true, decide ((↑l3.length : Int) > 0) = false, ((↑l3.length : Int) == 2) = false, LoopOk Try.prog (loopOf Try.f141 0) (impl_NodeOk_L0 l3 0) Ex.ret (impl_NodeOk_X0 b4)]) :
    Ret Try.prog 141 [AD.agg [I n0, I n1, I n2, D.sl 1 l3]] [AD.one (B b4)] :=
  .of [Ans.br false, Ans.br false, Ans.br false, Ans.br true, Ans.br true, Ans.br false, Ans.br false, Ans.br false, Ans.br true, Ans.br false, Ans.br false, Ans.loop [] [93, 92, 91] [] Ex.ret (impl_NodeOk_X0 b4)] _ Try.func141 rfl (by kernel_rfl) h

theorem impl_NodeOk_p50 (n0 : Int) (n1 : Int) (n2 : Int) (l3 : List (List D))
    (h : Obs [(n0 == 2) = false, (n0 == 3) = false, (n0 == 4) = false, (n0 == 1) = true, (n0 == 1) = true, (n1 != 0) = false, (n2 != 0) = false, decide ((↑l3.length : Int) > 2) = false, (n0 == 8) = true, decide ((↑l3.length : Int) > 0) = false, ((↑l3.length : Int) == 2) = false, LoopOk Try.prog (loopOf Try.f141 0) (impl_NodeOk_L0 l3 0) (Ex.exit 1) impl_NodeOk_X0v2]) :
    Ret Try.prog 141 [AD.agg [I n0, I n1, I n2, D.sl 1 l3]] [AD.one (B true)] :=
  .of [Ans.br false, Ans.br false, Ans.br false, Ans.br true, Ans.br true, Ans.br false, Ans.br false, Ans.br false, Ans.br true, Ans.br false, Ans.br false, Ans.loop [] [93, 92, 91] [] (Ex.exit 1) impl_NodeOk_X0v2] _ Try.func141 rfl (by kernel_rfl) h

theorem impl_NodeOk_p51 (n0 : Int) (n1 : Int) (n2 : Int) (l3 : List (List D)) (n4 : Int) (n5 : Int)
    (h : Obs [(n0 == 2) = false, (n0 == 3) = false, (n0 == 4) = false, (n0 == 1) = true, (n0 == 1) = true, (n1 != 0) = false, (n2 != 0) = false, decide ((↑l3.length : Int) > 2) = false, (n0 == 8) = false, ((↑l3.length : Int) == 2) = true, (0 : Int) ≤ 0, 0 < (↑l3.length : Int), l3[0]? = some [I n4], (0 : Int) ≤ 1, 1 < (↑l3.length : Int), l3[1]? = some [I n5], (n4 == n5) = true]) :
    Ret Try.prog 141 [AD.agg [I n0, I n1, I n2, D.sl 1 l3]] [AD.one (B false)] :=
  .of [Ans.br false, Ans.br false, Ans.br false, Ans.br true, Ans.br true, Ans.br false, Ans.br false, Ans.br false, Ans.br false, Ans.br true, Ans.el [I n4], Ans.el [I n5], Ans.br true] _ Try.func141 rfl (by kernel_rfl) h

theorem impl_NodeOk_p52 (n0 : Int) (n1 : Int) (n2 : Int) (l3 : List (List D)) (n4 : Int) (n5 : Int) (b6 : Bool)
    (h : Obs [(n0 == 2) = false, (n0 == 3) = false, (n0 == 4) = false, (n0 == 1) = true, (n0 == 1) = true, (n1 != 0) = false, (n2 != 0) = false, decide ((↑l3.length : Int) > 2) = false, (n0 == 8) = false, ((↑l3.length : Int) == 2) = true, (0 : Int) ≤ 0, 0 < (↑l3.length : Int), l3[0]? = some [I n4], (0 : Int) ≤ 1, 1 < (↑l3.length : Int), l3[1]? = some [I n5], (n4 == n5) = false, LoopOk Try.prog (loopOf Try.f141 0) (impl_NodeOk_L0 l3 0) Ex.ret (impl_NodeOk_X0 b6)]) :
    Ret Try.prog 141 [AD.agg [I n0, I n1, I n2, D.sl 1 l3]] [AD.one (B b6)] :=
  .of [Ans.br false, Ans.br false, Ans.br false, Ans.br true, Ans.br true, Ans.br false, Ans.br false, Ans.br false, Ans.br false, Ans.br true, Ans.el [I n4], Ans.el [I n5], Ans.br false, Ans.loop [] [93, 92, 91] [] Ex.ret (impl_NodeOk_X0 b6)] _ Try.func141 rfl (by kernel_rfl) h

theorem impl_NodeOk_p53 (n0 : Int) (n1 : Int) (n2 : Int) (l3 : List (List D)) (n4 : Int) (n5 : Int)
    (h : Obs [(n0 == 2) = false, (n0 == 3) = false, (n0 == 4) = false, (n0 == 1) = true, (n0 == 1) = true, (n1 != 0) = false, (n2 != 0) = false, decide ((↑l3.length : Int) > 2) = false, (n0 == 8) = false, ((↑l3.length : Int) == 2) = true, (0 : Int) ≤ 0, 0 < (↑l3.length : Int), l3[0]? = some [I n4], (0 : Int) ≤ 1, 1 < (↑l3.length : Int), l3[1]? = some [I n5], (n4 == n5) = false, LoopOk Try.prog (loopOf Try.f141 0) (impl_NodeOk_L0 l3 0) (Ex.exit 1) impl_NodeOk_X0v2]) :
    Ret Try.prog 141 [AD.agg [I n0, I n1, I n2, D.sl 1 l3]] [AD.one (B true)] :=
  .of [Ans.br false, Ans.br false, Ans.br false, Ans.br true, Ans.br true, Ans.br false, Ans.br false, Ans.br false, Ans.br false, Ans.br true, Ans.el [I n4], Ans.el [I n5], Ans.br false, Ans.loop [] [93, 92, 91] [] (Ex.exit 1) impl_NodeOk_X0v2] _ Try.func141 rfl (by kernel_rfl) h

theorem impl_NodeOk_p54 (n0 : Int) (n1 : Int) (n2 : Int) (l3 : List (List D)) (b4 : Bool)
    (h : Obs [(n0 == 2) = false, (n0 == 3) = false, (n0 == 4) = false, (n0 == 1) = true, (n0 == 1) = true, (n1 != 0) = false, (n2 != 0) = false, decide ((↑l3.length : Int) > 2) = false, (n0 == 8) = false, ((↑l3.length : Int) == 2) = false, LoopOk Try.prog (loopOf Try.f141 0) (impl_NodeOk_L0 l3 0) Ex.ret (impl_NodeOk_X0 b4)]) :
    Ret Try.prog 141 [AD.agg [I n0, I n1, I n2, D.sl 1 l3]] [AD.one (B b4)] :=
  .of [Ans.br false, Ans.br false, Ans.br false, Ans.br true, Ans.br true, Ans.br false, Ans.br false, Ans.br false, Ans.br false, Ans.br false, Ans.loop [] [93, 92, 91] [] Ex.ret (impl_NodeOk_X0 b4)] _ Try.func141 rfl (by kernel_rfl) h

theorem impl_NodeOk_p55 (n0 : Int) (n1 : Int) (n2 : Int) (l3 : List (List D))
    (h : Obs [(n0 == 2) = false, (n0 == 3) = false, (n0 == 4) = false, (n0 == 1) = true, (n0 == 1) = true, (n1 != 0) = false, (n2 != 0) = false, decide ((↑l3.length : Int) > 2) = false, (n0 == 8) = false, ((↑l3.length : Int) == 2) = false, LoopOk Try.prog (loopOf Try.f141 0) (impl_NodeOk_L0 l3 0) (Ex.exit 1) impl_NodeOk_X0v2]) :
    Ret Try.prog 141 [AD.agg [I n0, I n1, I n2, D.sl 1 l3]] [AD.one (B true)] :=
  .of [Ans.br false, Ans.br false, Ans.br false, Ans.br true, Ans.br true, Ans.br false, Ans.br false, Ans.br false, Ans.br false, Ans.br false, Ans.loop [] [93, 92, 91] [] (Ex.exit 1) impl_NodeOk_X0v2] _ Try.func141 rfl (by kernel_rfl) h

theorem impl_NodeOk_p56 (n0 : Int) (n1 : Int) (n2 : Int) (l3 : List (List D))
    (h : Obs [(n0 == 2) = false, (n0 == 3) = false, (n0 == 4) = false, (n0 == 1) = false, (n0 == 5) = true, (n0 == 5) = true, (n1 != 0) = true]) :
    Ret Try.prog 141 [AD.agg [I n0, I n1, I n2, D.sl 1 l3]] [AD.one (B false)] :=
  .of [Ans.br false, Ans.br false, Ans.br false, Ans.br false, Ans.br true, Ans.br true, Ans.br true] _ Try.func141 rfl (by kernel_rfl) h

theorem impl_NodeOk_p57 (n0 : Int) (n1 : Int) (n2 : Int) (l3 : List (List D))
    (h : Obs [(n0 == 2) = false, (n0 == 3) = false, (n0 == 4) = false, (n0 == 1) = false, (n0 == 5) = true, (n0 == 5) = true, (n1 != 0) = false, (n2 != 0) = true]) :
    Ret Try.prog 141 [AD.agg [I n0, I n1, I n2, D.sl 1 l3]] [AD.one (B false)] :=
  .of [Ans.br false, Ans.br false, Ans.br false, Ans.br false, Ans.br true, Ans.br true, Ans.br false, Ans.br true] _ Try.func141 rfl (by kernel_rfl) h

theorem impl_NodeOk_p58 (n0 : Int) (n1 : Int) (n2 : Int) (l3 : List (List D))
    (h : Obs [(n0 == 2) = false, (n0 == 3) = false, (n0 == 4) = false, (n0 == 1) = false, (n0 == 5) = true, (n0 == 5) = true, (n1 != 0) = false, (n2 != 0) = false, decide ((↑l3.length : Int) > 2) = true]) :
    Ret Try.prog 141 [AD.agg [I n0, I n1, I n2, D.sl 1 l3]] [AD.one (B false)] :=
  .of [Ans.br false, Ans.br false, Ans.br false, Ans.br false, Ans.br true, Ans.br true, Ans.br false, Ans.br false, Ans.br true] _ Try.func141 rfl (by kernel_rfl) h

theorem impl_NodeOk_p59 (n0 : Int) (n1 : Int) (n2 : Int) (l3 : List (List D))
    (h : Obs [(n0 == 2) = false, (n0 == 3) = false, (n0 == 4) = false, (n0 == 1) = false, (n0 == 5) = true, (n0 == 5) = true, (n1 != 0) = false, (n2 != 0) = false, decide ((↑l3.length : Int) > 2) = false, (n0 == 8) = true, decide ((↑l3.length : Int) > 0) = true]) :
    Ret Try.prog 141 [AD.agg [I n0, I n1, I n2, D.sl 1 l3]] [AD.one (B false)] :=
  .of [Ans.br false, Ans.br false, Ans.br false, Ans.br false, Ans.br true, Ans.br true, Ans.br false, Ans.br false, Ans.br false, Ans.br true, Ans.br true] _ Try.func141 rfl (by kernel_rfl) h

theorem impl_NodeOk_p60 (n0 : Int) (n1 : Int) (n2 : Int) (l3 : List (List D)) (n4 : Int) (n5 : Int)
    (h : Obs [(n0 == 2) = false, (n0 == 3) = false, (n0 == 4) = false, (n0 == 1) = false, (n0 == 5) = true, (n0 == 5) = true, (n1 != 0) = false, (n2 != 0) = false, decide ((↑l3.length : Int) > 2) = false, (n0 == 8) = true, decide ((↑l3.length : Int) > 0) = false, ((↑l3.length : Int) == 2) = true, (0 : Int) ≤ 0, 0 < (↑l3.length : Int), l3[0]? = some [I n4], (0 : Int) ≤ 1, 1 < (↑l3.length : Int), l3[1]? = some [I n5], (n4 == n5) = true]) :
    Ret Try.prog 141 [AD.agg [I n0, I n1, I n2, D.sl 1 l3]] [AD.one (B false)] :=
  .of [Ans.br false, Ans.br false, Ans.br false, Ans.br false, Ans.br true, Ans.br true, Ans.br false, Ans.br false, Ans.br false, Ans.br true, Ans.br false, Ans.br true, Ans.el [I n4], Ans.el [I n5], Ans.br true] _ Try.func141 rfl (by kernel_rfl) h

theorem impl_NodeOk_p61 (n0 : Int) (n1 : Int) (n2 : Int) (l3 : List (List D)) (n4 : Int) (n5 : Int) (b6 : Bool)
    (h : Obs [(n0 == 2) = false, (n0 == 3) = false, (n0 == 4) = false, (n0 == 1) = false, (n0 == 5) = true, (n0 == 5) = true, (n1 != 0) = false, (n2 != 0) = false, decide ((↑l3.length : Int) > 2) = false, (n0 == 8) = true, decide ((↑l3.length : Int) > 0) = false, ((↑l3.length : Int) == 2) = true, (0 : Int) ≤ 0, 0 < (↑l3.length : Int), l3[0]? = some [I n4], (0 : Int) ≤ 1, 1 < (↑l3.length : Int), l3[1]? = some [I n5], (n4 == n5) = false, LoopOk Try.prog (loopOf Try.f141 0) (impl_NodeOk_L0 l3 0) Ex.ret (impl_NodeOk_X0 b6)]) :
    Ret Try.prog 141 [AD.agg [I n0, I n1, I n2, D.sl 1 l3]] [AD.one (B b6)] :=
  .of [Ans.br false, Ans.br false, Ans.br false, Ans.br false, Ans.br true, Ans.br true, Ans.br false, Ans.br false, Ans.br false, Ans.br true, Ans.br false, Ans.br true, Ans.el [I n4], Ans.el [I n5], Ans.br false, Ans.loop [] [93, 92, 91] [] Ex.ret (impl_NodeOk_X0 b6)] _ Try.func141 rfl (by kernel_rfl) h

theorem impl_NodeOk_p62 (n0 : Int) (n1 : Int) (n2 : Int) (l3 : List (List D)) (n4 : Int) (n5 : Int)
    (h : Obs [(n0 == 2) = false, (n0 == 3) = false, (n0 == 4) = false, (n0 == 1) = false, (n0 == 5) = true, (n0 == 5) = true, (n1 != 0) = false, (n2 != 0) = false, decide ((↑l3.length : Int) > 2) = false, (n0 == 8) = true, decide ((↑l3.length : Int) > 0) = false, ((↑l3.length : Int) == 2) = true, (0 : Int) ≤ 0, 0 < (↑l3.length : Int), l3[0]? = some [I n4], (0 : Int) ≤ 1, 1 < (↑l3.length : Int), l3[1]? = some [I n5], (n4 == n5) = false, LoopOk Try.prog (loopOf Try.f141 0) (impl_NodeOk_L0 l3 0) (Ex.exit 1) impl_NodeOk_X0v2]) :
    Ret Try.prog 141 [AD.agg [I n0, I n1, I n2, D.sl 1 l3]] [AD.one (B true)] :=
  .of [Ans.br false, Ans.br false, Ans.br false, Ans.br false, Ans.br true, Ans.br true, Ans.br false, Ans.br false, Ans.br false, Ans.br true, Ans.br false, Ans.br true, Ans.el [I n4], Ans.el [I n5], Ans.br false, Ans.loop [] [93, 92, 91] [] (Ex.exit 1) impl_NodeOk_X0v2] _ Try.func141 rfl (by kernel_rfl) h

theorem impl_NodeOk_p63 (n0 : Int) (n1 : Int) (n2 : Int) (l3 : List (List D)) (b4 : Bool)
    (h : Obs [(n0 == 2) = false, (n0 == 3) = false, (n0 == 4) = false, (n0 == 1) = false, (n0 == 5) = true, (n0 == 5) = true, (n1 != 0) = false, (n2 != 0) = false, decide ((↑l3.length : Int) > 2) = false, (n0 == 8) = true, decide ((↑l3.length : Int) > 0) = false, ((↑l3.length : Int) == 2) = false, LoopOk Try.prog (loopOf Try.f141 0) (impl_NodeOk_L0 l3 0) Ex.ret (impl_NodeOk_X0 b4)]) :
    Ret Try.prog 141 [AD.agg [I n0, I n1, I n2, D.sl 1 l3]] [AD.one (B b4)] :=
  .of [Ans.br false, Ans.br false, Ans.br false, Ans.br false, Ans.br true, Ans.br true, Ans.br false, Ans.br false, Ans.br false, Ans.br true, Ans.br false, Ans.br false, Ans.loop [] [93, 92, 91] [] Ex.ret (impl_NodeOk_X0 b4)] _ Try.func141 rfl (by kernel_rfl) h

theorem impl_NodeOk_p64 (n0 : Int) (n1 : Int) (n2 : Int) (l3 : List (List D))
    (h : Obs [(n0 == 2) = false, (n0 == 3) = false, (n0 == 4) = false, (n0 == 1) = false, (n0 == 5) = true, (n0 == 5) = true, (n1 != 0) = false, (n2 != 0) = false, decide ((↑l3.length : Int) > 2) = false, (n0 == 8) = true, decide ((↑l3.length : Int) > 0) = false, ((↑l3.length : Int) == 2) = false, LoopOk Try.prog (loopOf Try.f141 0) (impl_NodeOk_L0 l3 0) (Ex.exit 1) impl_NodeOk_X0v2]) :
    Ret Try.prog 141 [AD.agg [I n0, I n1, I n2, D.sl 1 l3]] [AD.one (B true)] :=
  .of [Ans.br false, Ans.br false, Ans.br false, Ans.br false, Ans.br true, Ans.br true, Ans.br false, Ans.br false, Ans.br false, Ans.br true, Ans.br false, Ans.br false, Ans.loop [] [93, 92, 91] [] (Ex.exit 1) impl_NodeOk_X0v2] _ Try.func141 rfl (by kernel_rfl) h

theorem impl_NodeOk_p65 (n0 : Int) (n1 : Int) (n2 : Int) (l3 : List (List D)) (n4 : Int) (n5 : Int)
    (h : Obs [(n0 == 2) = false, (n0 == 3) = false, (n0 == 4) = false, (n0 == 1) = false, (n0 == 5) = true, (n0 == 5) = true, (n1 != 0) = false, (n2 != 0) = false, decide ((↑l3.length : Int) > 2) = false, (n0 == 8) = false, ((↑l3.length : Int) == 2) = true, (0 : Int) ≤ 0, 0 < (↑l3.length : Int), l3[0]? = some [I n4], (0 : Int) ≤ 1, 1 < (↑l3.length : Int), l3[1]? = some [I n5], (n4 == n5) = true]) :
    Ret Try.prog 141 [AD.agg [I n0, I n1, I n2, D.sl 1 l3]] [AD.one (B false)] :=
  .of [Ans.br false, Ans.br false, Ans.br false, Ans.br false, Ans.br true, Ans.br true, Ans.br false, Ans.br false, Ans.br false, Ans.br false, Ans.br true, Ans.el [I n4], Ans.el [I n5], Ans.br true] _ Try.func141 rfl (by kernel_rfl) h

theorem impl_NodeOk_p66 (n0 : Int) (n1 : Int) (n2 : Int) (l3 : List (List D)) (n4 : Int) (n5 : Int) (b6 : Bool)
    (h : Obs [(n0 == 2) = false, (n0 == 3) = false, (n0 == 4) = false, (n0 == 1) = false, (n0 == 5) = true, (n0 == 5) = true, (n1 != 0) = false, (n2 != 0) = false, decide ((↑l3.length : Int) > 2) = false, (n0 == 8) = false, ((↑l3.length : Int) == 2) = true, (0 : Int) ≤ 0, 0 < (↑l3.length : Int), l3[0]? = some [I n4], (0 : Int) ≤ 1, 1 < (↑l3.length : Int), l3[1]? = some [I n5], (n4 == n5) = false, LoopOk Try.prog (loopOf Try.f141 0) (impl_NodeOk_L0 l3 0) Ex.ret (impl_NodeOk_X0 b6)]) :
    Ret Try.prog 141 [AD.agg [I n0, I n1, I n2, D.sl 1 l3]] [AD.one (B b6)] :=
  .of [Ans.br false, Ans.br false, Ans.br false, Ans.br false, Ans.br true, Ans.br true, Ans.br false, Ans.br false, Ans.br false, Ans.br false, Ans.br true, Ans.el [I n4], Ans.el [I n5], Ans.br false, Ans.loop [] [93, 92, 91] [] Ex.ret (impl_NodeOk_X0 b6)] _ Try.func141 rfl (by kernel_rfl) h

theorem impl_NodeOk_p67 (n0 : Int) (n1 : Int) (n2 : Int) (l3 : List (List D)) (n4 : Int) (n5 : Int)
    (h : Obs [(n0 == 2) = false, (n0 == 3) = false, (n0 == 4) = false, (n0 == 1) = false, (n0 == 5) = true, (n0 == 5) = true, (n1 != 0) = false, (n2 != 0) = false, decide ((↑l3.length : Int) > 2) = false, (n0 == 8) = false, ((↑l3.length : Int) == 2) = true, (0 : Int) ≤ 0, 0 < (↑l3.length : Int), l3[0]? = some [I n4], (0 : Int) ≤ 1, 1 < (↑l3.length : Int), l3[1]? = some [I n5], (n4 == n5) = false, LoopOk Try.prog (loopOf Try.f141 0) (impl_NodeOk_L0 l3 0) (Ex.exit 1) impl_NodeOk_X0v2]) :
    Ret Try.prog 141 [AD.agg [I n0, I n1, I n2, D.sl 1 l3]] [AD.one (B true)] :=
  .of [Ans.br false, Ans.br false, Ans.br false, Ans.br false, Ans.br true, Ans.br true, Ans.br false, Ans.br false, Ans.br false, Ans.br false, Ans.br true, Ans.el [I n4], Ans.el [I n5], Ans.br false, Ans.loop [] [93, 92, 91] [] (Ex.exit 1) impl_NodeOk_X0v2] _ Try.func141 rfl (by kernel_rfl) h

theorem impl_NodeOk_p68 (n0 : Int) (n1 : Int) (n2 : Int) (l3 : List (List D)) (b4 : Bool)
    (h : Obs [(n0 == 2) = false, (n0 == 3) = false, (n0 == 4) = false, (n0 == 1) = false, (n0 == 5) = true, (n0 == 5) = true, (n1 != 0) = false, (n2 != 0) = false, decide ((↑l3.length : Int) > 2) = false, (n0 == 8) = false, ((↑l3.length : Int) == 2) = false, LoopOk Try.prog (loopOf Try.f141 0) (impl_NodeOk_L0 l3 0) Ex.ret (impl_NodeOk_X0 b4)]) :
    Ret Try.prog 141 [AD.agg [I n0, I n1, I n2, D.sl 1 l3]] [AD.one (B b4)] :=
  .of [Ans.br false, Ans.br false, Ans.br false, Ans.br false, Ans.br true, Ans.br true, Ans.br false, Ans.br false, Ans.br false, Ans.br false, Ans.br false, Ans.loop [] [93, 92, 91] [] Ex.ret (impl_NodeOk_X0 b4)] _ Try.func141 rfl (by kernel_rfl) h

theorem impl_NodeOk_p69 (n0 : Int) (n1 : Int) (n2 : Int) (l3 : List (List D))
    (h : Obs [(n0 == 2) = false, (n0 == 3) = false, (n0 == 4) = false, (n0 == 1) = false, (n0 == 5) = true, (n0 == 5) = true, (n1 != 0) = false, (n2 != 0) = false, decide ((↑l3.length : Int) > 2) = false, (n0 == 8) = false, ((↑l3.length : Int) == 2) = false, LoopOk Try.prog (loopOf Try.f141 0) (impl_NodeOk_L0 l3 0) (Ex.exit 1) impl_NodeOk_X0v2]) :
    Ret Try.prog 141 [AD.agg [I n0, I n1, I n2, D.sl 1 l3]] [AD.one (B true)] :=
  .of [Ans.br false, Ans.br false, Ans.br false, Ans.br false, Ans.br true, Ans.br true, Ans.br false, Ans.br false, Ans.br false, Ans.br false, Ans.br false, Ans.loop [] [93, 92, 91] [] (Ex.exit 1) impl_NodeOk_X0v2] _ Try.func141 rfl (by kernel_rfl) h

theorem impl_NodeOk_p70 (n0 : Int) (n1 : Int) (n2 : Int) (l3 : List (List D))
    (h : Obs [(n0 == 2) = false, (n0 == 3) = false, (n0 == 4) = false, (n0 == 1) = false, (n0 == 5) = false, (n0 == 6) = true, (n0 == 6) = true, (n1 != 0) = true]) :
    Ret Try.prog 141 [AD.agg [I n0, I n1, I n2, D.sl 1 l3]] [AD.one (B false)] :=
  .of [Ans.br false, Ans.br false, Ans.br false, Ans.br false, Ans.br false, Ans.br true, Ans.br true, Ans.br true] _ Try.func141 rfl (by kernel_rfl) h

theorem impl_NodeOk_p71 (n0 : Int) (n1 : Int) (n2 : Int) (l3 : List (List D))
    (h : Obs [(n0 == 2) = false, (n0 == 3) = false, (n0 == 4) = false, (n0 == 1) = false, (n0 == 5) = false, (n0 == 6) = true, (n0 == 6) = true, (n1 != 0) = false, (n2 != 0) = true]) :
    Ret Try.prog 141 [AD.agg [I n0, I n1, I n2, D.sl 1 l3]] [AD.one (B false)] :=
  .of [Ans.br false, Ans.br false, Ans.br false, Ans.br false, Ans.br false, Ans.br true, Ans.br true, Ans.br false, Ans.br true] _ Try.func141 rfl (by kernel_rfl) h

theorem impl_NodeOk_p72 (n0 : Int) (n1 : Int) (n2 : Int) (l3 : List (List D))
    (h : Obs [(n0 == 2) = false, (n0 == 3) = false, (n0 == 4) = false, (n0 == 1) = false, (n0 == 5) = false, (n0 == 6) = true, (n0 == 6) = true, (n1 != 0) = false, (n2 != 0) = false, decide ((↑l3.length : Int) > 2) = true]) :
    Ret Try.prog 141 [AD.agg [I n0, I n1, I n2, D.sl 1 l3]] [AD.one (B false)] :=
  .of [Ans.br false, Ans.br false, Ans.br false, Ans.br false, Ans.br false, Ans.br true, Ans.br true, Ans.br false, Ans.br false, Ans.br true] _ Try.func141 rfl (by kernel_rfl) h

theorem impl_NodeOk_p73 (n0 : Int) (n1 : Int) (n2 : Int) (l3 : List (List D))
    (h : Obs [(n0 == 2) = false, (n0 == 3) = false, (n0 == 4) = false, (n0 == 1) = false, (n0 == 5) = false, (n0 == 6) = true, (n0 == 6) = true, (n1 != 0) = false, (n2 != 0) = false, decide ((↑l3.length : Int) > 2) = false, (n0 == 8) = true, decide ((↑l3.length : Int) > 0) = true]) :
    Ret Try.prog 141 [AD.agg [I n0, I n1, I n2, D.sl 1 l3]] [AD.one (B false)] :=
  .of [Ans.br false, Ans.br false, Ans.br false, Ans.br false, Ans.br false, Ans.br true, Ans.br true, Ans.br false, Ans.br false, Ans.br false, Ans.br true, Ans.br true] _ Try.func141 rfl (by kernel_rfl) h

theorem impl_NodeOk_p74 (n0 : Int) (n1 : Int) (n2 : Int) (l3 : List (List D)) (n4 : Int) (n5 : Int)
    (h : Obs [(n0 == 2) = false, (n0 == 3) = false, (n0 == 4) = false, (n0 == 1) = false, (n0 == 5) = false, (n0 == 6) = true, (n0 == 6) = true, (n1 != 0) = false, (n2 != 0) = false, decide ((↑l3.length : Int) > 2) = false, (n0 == 8) = true, decide ((↑l3.length : Int) > 0) = false, ((↑l3.length : Int) == 2) = true, (0 : Int) ≤ 0, 0 < (↑l3.length : Int), l3[0]? = some [I n4], (0 : Int) ≤ 1, 1 < (↑l3.length : Int), l3[1]? = some [I n5], (n4 == n5) = true]) :
    Ret Try.prog 141 [AD.agg [I n0, I n1, I n2, D.sl 1 l3]] [AD.one (B false)] :=
  .of [Ans.br false, Ans.br false, Ans.br false, Ans.br false, Ans.br false, Ans.br true, Ans.br true, Ans.br false, Ans.br false, Ans.br false, Ans.br true, Ans.br false, Ans.br true, Ans.el [I n4], Ans.el [I n5], Ans.br true] _ Try.func141 rfl (by kernel_rfl) h

theorem impl_NodeOk_p75 (n0 : Int) (n1 : Int) (n2 : Int) (l3 : List (List D)) (n4 : Int) (n5 : Int) (b6 : Bool)
    (h : Obs [(n0 == 2) = false, (n0 == 3) = false, (n0 == 4) = false, (n0 == 1) = false, (n0 == 5) = false, (n0 == 6) = true, (n0 == 6) = true, (n1 != 0) = false, (n2 != 0) = false, decide ((↑l3.length : Int) > 2) = false, (n0 == 8) = true, decide ((↑l3.length : Int) > 0) = false, ((↑l3.length : Int) == 2) = true, (0 : Int) ≤ 0, 0 < (↑l3.length : Int), l3[0]? = some [I n4], (0 : Int) ≤ 1, 1 < (↑l3.length : Int), l3[1]? = some [I n5], (n4 == n5) = false, LoopOk Try.prog (loopOf Try.f141 0) (impl_NodeOk_L0 l3 0) Ex.ret (impl_NodeOk_X0 b6)]) :
    Ret Try.prog 141 [AD.agg [I n0, I n1, I n2, D.sl 1 l3]] [AD.one (B b6)] :=
  .of [Ans.br false, Ans.br false, Ans.br false, Ans.br false, Ans.br false, Ans.br true, Ans.br true, Ans.br false, Ans.br false, Ans.br false, Ans.br true, Ans.br false, Ans.br true, Ans.el [I n4], Ans.el [I n5], Ans.br false, Ans.loop [] [93, 92, 91] [] Ex.ret (impl_NodeOk_X0 b6)] _ Try.func141 rfl (by kernel_rfl) h

theorem impl_NodeOk_p76 (n0 : Int) (n1 : Int) (n2 : Int) (l3 : List (List D)) (n4 : Int) (n5 : Int)
    (h : Obs [(n0 == 2) = false, (n0 == 3) = false, (n0 == 4) = false, (n0 == 1) = false, (n0 == 5) = false, (n0 == 6) = true, (n0 == 6) = true, (n1 != 0) = false, (n2 != 0) = false, decide ((↑l3.length : Int) > 2) = false, (n0 == 8) = true, decide ((↑l3.length : Int) > 0) = false, ((↑l3.length : Int) == 2) = true, (0 : Int) ≤ 0, 0 < (↑l3.length : Int), l3[0]? = some [I n4], (0 : Int) ≤ 1, 1 < (↑l3.length : Int), l3[1]? = some [I n5], (n4 == n5) = false, LoopOk Try.prog (loopOf Try.f141 0) (impl_NodeOk_L0 l3 0) (Ex.exit 1) impl_NodeOk_X0v2]) :
    Ret Try.prog 141 [AD.agg [I n0, I n1, I n2, D.sl 1 l3]] [AD.one (B true)] :=
  .of [Ans.br false, Ans.br false, Ans.br false, Ans.br false, Ans.br false, Ans.br true, Ans.br true, Ans.br false, Ans.br false, Ans.br false, Ans.br true, Ans.br false, Ans.br true, Ans.el [I n4], Ans.el [I n5], Ans.br false, Ans.loop [] [93, 92, 91] [] (Ex.exit 1) impl_NodeOk_X0v2] _ Try.func141 rfl (by kernel_rfl) h

theorem impl_NodeOk_p77 (n0 : Int) (n1 : Int) (n2 : Int) (l3 : List (List D)) (b4 : Bool)
    (h : Obs [(n0 == 2) = false, (n0 == 3) = false, (n0 == 4) = false, (n0 == 1) = false, (n0 == 5) = false, (n0 == 6) = true, (n0 == 6) = true, (n1 != 0) = false, (n2 != 0) = false, decide ((↑l3.length : Int) > 2) = false, (n0 == 8) = true, decide ((↑l3.length : Int) > 0) = false, ((↑l3.length : Int) == 2) = false, LoopOk Try.prog (loopOf Try.f141 0) (impl_NodeOk_L0 l3 0) Ex.ret (impl_NodeOk_X0 b4)]) :
    Ret Try.prog 141 [AD.agg [I n0, I n1, I n2, D.sl 1 l3]] [AD.one (B b4)] :=
  .of [Ans.br false, Ans.br false, Ans.br false, Ans.br false, Ans.br false, Ans.br true, Ans.br true, Ans.br false, Ans.br false, Ans.br false, Ans.br true, Ans.br false, Ans.br false, Ans.loop [] [93, 92, 91] [] Ex.ret (impl_NodeOk_X0 b4)] _ Try.func141 rfl (by kernel_rfl) h

theorem impl_NodeOk_p78 (n0 : Int) (n1 : Int) (n2 : Int) (l3 : List (List D))
    (h : Obs [(n0 == 2) = false, (n0 == 3) = false, (n0 == 4) = false, (n0 == 1) = false, (n0 == 5) = false, (n0 == 6) = true, (n0 == 6) = true, (n1 != 0) = false, (n2 != 0) = false, decide ((↑l3.length : Int) > 2) = false, (n0 == 8) = true, decide ((↑l3.length : Int) > 0) = false, ((↑l3.length : Int) == 2) = false, LoopOk Try.prog (loopOf Try.f141 0) (impl_NodeOk_L0 l3 0) (Ex.exit 1) impl_NodeOk_X0v2]) :
    Ret Try.prog 141 [AD.agg [I n0, I n1, I n2, D.sl 1 l3]] [AD.one (B true)] :=
  .of [Ans.br false, Ans.br false, Ans.br false, Ans.br false, Ans.br false, Ans.br true, Ans.br true, Ans.br false, Ans.br false, Ans.br false, Ans.br true, Ans.br false, Ans.br false, Ans.loop [] [93, 92, 91] [] (Ex.exit 1) impl_NodeOk_X0v2] _ Try.func141 rfl (by kernel_rfl) h

theorem impl_NodeOk_p79 (n0 : Int) (n1 : Int) (n2 : Int) (l3 : List (List D)) (n4 : Int) (n5 : Int)
    (h : Obs [(n0 == 2) = false, (n0 == 3) = false, (n0 == 4) = false, (n0 == 1) = false, (n0 == 5) = false, (n0 == 6) = true, (n0 == 6) = true, (n1 != 0) = false, (n2 != 0) = false, decide ((↑l3.length : Int) > 2) = false, (n0 == 8) = false, ((↑l3.length : Int) == 2) = true, (0 : Int) ≤ 0, 0 < (↑l3.length : Int), l3[0]? = some [I n4], (0 : Int) ≤ 1, 1 < (↑l3.length : Int), l3[1]? = some [I n5], (n4 == n5) = true]) :
    Ret Try.prog 141 [AD.agg [I n0, I n1, I n2, D.sl 1 l3]] [AD.one (B false)] :=
  .of [Ans.br false, Ans.br false, Ans.br false, Ans.br false, Ans.br false, Ans.br true, Ans.br true, Ans.br false, Ans.br false, Ans.br false, Ans.br false, Ans.br true, Ans.el [I n4], Ans.el [I n5], Ans.br true] _ Try.func141 rfl (by kernel_rfl) h

theorem impl_NodeOk_p80 (n0 : Int) (n1 : Int) (n2 : Int) (l3 : List (List D)) (n4 : Int) (n5 : Int) (b6 : Bool)
    (h : Obs [(n0 == 2) = false, (n0 == 3) = false, (n0 == 4) = false, (n0 == 1) = false, (n0 == 5) = false, (n0 == 6) = true, (n0 == 6) = true, (n1 != 0) = false, (n2 != 0) = false, decide ((↑l3.length : Int) > 2) = false, (n0 == 8) = false, ((↑l3.length : Int) == 2) = true, (0 : Int) ≤ 0, 0 < (↑l3.length : Int), l3[0]? = some [I n4], (0 : Int) ≤ 1, 1 < (↑l3.length : Int), l3[1]? = some [I n5], (n4 == n5) = false, LoopOk Try.prog (loopOf Try.f141 0) (impl_NodeOk_L0 l3 0) Ex.ret (impl_NodeOk_X0 b6)]) :
    Ret Try.prog 141 [AD.agg [I n0, I n1, I n2, D.sl 1 l3]] [AD.one (B b6)] :=
  .of [Ans.br false, Ans.br false, Ans.br false, Ans.br false, Ans.br false, Ans.br true, Ans.br true, Ans.br false, Ans.br false, Ans.br false, Ans.br false, Ans.br true, Ans.el [I n4], Ans.el [I n5], Ans.br false, Ans.loop [] [93, 92, 91] [] Ex.ret (impl_NodeOk_X0 b6)] _ Try.func141 rfl (by kernel_rfl) h

theorem impl_NodeOk_p81 (n0 : Int) (n1 : Int) (n2 : Int) (l3 : List (List D)) (n4 : Int) (n5 : Int)
    (h : Obs [(n0 == 2) = false, (n0 == 3) = false, (n0 == 4) = false, (n0 == 1) = false, (n0 == 5) = false, (n0 == 6) = true, (n0 == 6) = true, (n1 != 0) = false, (n2 != 0) = false, decide ((↑l3.length : Int) > 2) = false, (n0 == 8) = false, ((↑l3.length : Int) == 2) = true, (0 : Int) ≤ 0, 0 < (↑l3.length : Int), l3[0]? = some [I n4], (0 : Int) ≤ 1, 1 < (↑l3.length : Int), l3[1]? = some [I n5], (n4 == n5) = false, LoopOk Try.prog (loopOf Try.f141 0) (impl_NodeOk_L0 l3 0) (Ex.exit 1) impl_NodeOk_X0v2]) :
    Ret Try.prog 141 [AD.agg [I n0, I n1, I n2, D.sl 1 l3]] [AD.one (B true)] :=
  .of [Ans.br false, Ans.br false, Ans.br false, Ans.br false, Ans.br false, Ans.br true, Ans.br true, Ans.br false, Ans.br false, Ans.br false, Ans.br false, Ans.br true, Ans.el [I n4], Ans.el [I n5], Ans.br false, Ans.loop [] [93, 92, 91] [] (Ex.exit 1) impl_NodeOk_X0v2] _ Try.func141 rfl (by kernel_rfl) h

theorem impl_NodeOk_p82 (n0 : Int) (n1 : Int) (n2 : Int) (l3 : List (List D)) (b4 : Bool)
    (h : Obs [(n0 == 2) = false, (n0 == 3) = false, (n0 == 4) = false, (n0 == 1) = false, (n0 == 5) = false, (n0 == 6) = true, (n0 == 6) = true, (n1 != 0) = false, (n2 != 0) = false, decide ((↑l3.length : Int) > 2) = false, (n0 == 8) = false, ((↑l3.length : Int) == 2) = false, LoopOk Try.prog (loopOf Try.f141 0) (impl_NodeOk_L0 l3 0) Ex.ret (impl_NodeOk_X0 b4)]) :
    Ret Try.prog 141 [AD.agg [I n0, I n1, I n2, D.sl 1 l3]] [AD.one (B b4)] :=
  .of [Ans.br false, Ans.br false, Ans.br false, Ans.br false, Ans.br false, Ans.br true, Ans.br true, Ans.br false, Ans.br false, Ans.br false, Ans.br false, Ans.br false, Ans.loop [] [93, 92, 91] [] Ex.ret (impl_NodeOk_X0 b4)] _ Try.func141 rfl (by kernel_rfl) h

theorem impl_NodeOk_p83 (n0 : Int) (n1 : Int) (n2 : Int) (l3 : List (List D))
    (h : Obs [(n0 == 2) = false, (n0 == 3) = false, (n0 == 4) = false, (n0 == 1) = false, (n0 == 5) = false, (n0 == 6) = true, (n0 == 6) = true, (n1 != 0) = false, (n2 != 0) = false, decide ((↑l3.length : Int) > 2) = false, (n0 == 8) = false, ((↑l3.length : Int) == 2) = false, LoopOk Try.prog (loopOf Try.f141 0) (impl_NodeOk_L0 l3 0) (Ex.exit 1) impl_NodeOk_X0v2]) :
    Ret Try.prog 141 [AD.agg [I n0, I n1, I n2, D.sl 1 l3]] [AD.one (B true)] :=
  .of [Ans.br false, Ans.br false, Ans.br false, Ans.br false, Ans.br false, Ans.br true, Ans.br true, Ans.br false, Ans.br false, Ans.br false, Ans.br false, Ans.br false, Ans.loop [] [93, 92, 91] [] (Ex.exit 1) impl_NodeOk_X0v2] _ Try.func141 rfl (by kernel_rfl) h

theorem impl_NodeOk_p84 (n0 : Int) (n1 : Int) (n2 : Int) (l3 : List (List D))
    (h : Obs [(n0 == 2) = false, (n0 == 3) = false, (n0 == 4) = false, (n0 == 1) = false, (n0 == 5) = false, (n0 == 6) = false, (n0 == 7) = true, (n0 == 7) = true, (n1 != 0) = true]) :
    Ret Try.prog 141 [AD.agg [I n0, I n1, I n2, D.sl 1 l3]] [AD.one (B false)] :=
  .of [Ans.br false, Ans.br false, Ans.br false, Ans.br false, Ans.br false, Ans.br false, Ans.br true, Ans.br true, Ans.br true] _ Try.func141 rfl (by kernel_rfl) h

theorem impl_NodeOk_p85 (n0 : Int) (n1 : Int) (n2 : Int) (l3 : List (List D))
    (h : Obs [(n0 == 2) = false, (n0 == 3) = false, (n0 == 4) = false, (n0 == 1) = false, (n0 == 5) = false, (n0 == 6) = false, (n0 == 7) = true, (n0 == 7) = true, (n1 != 0) = false, (n2 != 0) = true]) :
    Ret Try.prog 141 [AD.agg [I n0, I n1, I n2, D.sl 1 l3]] [AD.one (B false)] :=
  .of [Ans.br false, Ans.br false, Ans.br false, Ans.br false, Ans.br false, Ans.br false, Ans.br true, Ans.br true, Ans.br false, Ans.br true] _ Try.func141 rfl (by kernel_rfl) h

theorem impl_NodeOk_p86 (n0 : Int) (n1 : Int) (n2 : Int) (l3 : List (List D))
    (h : Obs [(n0 == 2) = false, (n0 == 3) = false, (n0 == 4) = false, (n0 == 1) = false, (n0 == 5) = false, (n0 == 6) = false, (n0 == 7) = true, (n0 == 7) = true, (n1 != 0) = false, (n2 != 0) = false, decide ((↑l3.length : Int) > 2) = true]) :
    Ret Try.prog 141 [AD.agg [I n0, I n1, I n2, D.sl 1 l3]] [AD.one (B false)] :=
  .of [Ans.br false, Ans.br false, Ans.br false, Ans.br false, Ans.br false, Ans.br false, Ans.br true, Ans.br true, Ans.br false, Ans.br false, Ans.br true] _ Try.func141 rfl (by kernel_rfl) h

theorem impl_NodeOk_p87 (n0 : Int) (n1 : Int) (n2 : Int) (l3 : List (List D))
    (h : Obs [(n0 == 2) = false, (n0 == 3) = false, (n0 == 4) = false, (n0 == 1) = false, (n0 == 5) = false, (n0 == 6) = false, (n0 == 7) = true, (n0 == 7) = true, (n1 != 0) = false, (n2 != 0) = false, decide ((↑l3.length : Int) > 2) = false, (n0 == 8) = true, decide ((↑l3.length : Int) > 0) = true]) :
    Ret Try.prog 141 [AD.agg [I n0, I n1, I n2, D.sl 1 l3]] [AD.one (B false)] :=
  .of [Ans.br false, Ans.br false, Ans.br false, Ans.br false, Ans.br false, Ans.br false, Ans.br true, Ans.br true, Ans.br false, Ans.br false, Ans.br false, Ans.br true, Ans.br true] _ Try.func141 rfl (by kernel_rfl) h

theorem impl_NodeOk_p88 (n0 : Int) (n1 : Int) (n2 : Int) (l3 : List (List D)) (n4 : Int) (n5 : Int)
    (h : Obs [(n0 == 2) = false, (n0 == 3) = false, (n0 == 4) = false, (n0 == 1) = false, (n0 == 5) = false, (n0 == 6) = false, (n0 == 7) = true, (n0 == 7) = true, (n1 != 0) = false, (n2 != 0) = false, decide ((↑l3.length : Int) > 2) = false, (n0 == 8) = true, decide ((↑l3.length : Int) > 0) = false, ((↑l3.length : Int) == 2) = true, (0 : Int) ≤ 0, 0 < (↑l3.length : Int), l3[0]? = some [I n4], (0 : Int) ≤ 1, 1 < (↑l3.length : Int), l3[1]? = some [I n5], (n4 == n5) = true]) :
    Ret Try.prog 141 [AD.agg [I n0, I n1, I n2, D.sl 1 l3]] [AD.one (B false)] :=
  .of [Ans.br false, Ans.br false, Ans.br false, Ans.br false, Ans.br false, Ans.br false, Ans.br true, Ans.br true, Ans.br false, Ans.br false, Ans.br false, Ans.br true, Ans.br false, Ans.br true, Ans.el [I n4], Ans.el [I n5], Ans.br true] _ Try.func141 rfl (by kernel_rfl) h

theorem impl_NodeOk_p89 (n0 : Int) (n1 : Int) (n2 : Int) (l3 : List (List D)) (n4 : Int) (n5 : Int) (b6 : Bool)
    (h : Obs [(n0 == 2) = false, (n0 == 3) = false, (n0 == 4) = false, (n0 == 1) = false, (n0 == 5) = false, (n0 == 6) = false, (n0 == 7) = true, (n0 == 7) = true, (n1 != 0) = false, (n2 != 0) = false, decide ((↑l3.length : Int) > 2) = false, (n0 == 8) = true, decide ((↑l3.length : Int) > 0) = false, ((↑l3.length : Int) == 2) = true, (0 : Int) ≤ 0, 0 < (↑l3.length : Int), l3[0]? = some [I n4], (0 : Int) ≤ 1, 1 < (↑l3.length : Int), l3[1]? = some [I n5], (n4 == n5) = false, LoopOk Try.prog (loopOf Try.f141 0) (impl_NodeOk_L0 l3 0) Ex.ret (impl_NodeOk_X0 b6)]) :
    Ret Try.prog 141 [AD.agg [I n0, I n1, I n2, D.sl 1 l3]] [AD.one (B b6)] :=
  .of [Ans.br false, Ans.br false, Ans.br false, Ans.br false, Ans.br false, Ans.br false, Ans.br true, Ans.br true, Ans.br false, Ans.br false, Ans.br false, Ans.br true, Ans.br false, Ans.br true, Ans.el [I n4], Ans.el [I n5], Ans.br false, Ans.loop [] [93, 92, 91] [] Ex.ret (impl_NodeOk_X0 b6)] _ Try.func141 rfl (by kernel_rfl) h

theorem impl_NodeOk_p90 (n0 : Int) (n1 : Int) (n2 : Int) (l3 : List (List D)) (n4 : Int) (n5 : Int)
    (h : Obs [(n0 == 2) = false, (n0 == 3) = false, (n0 == 4) = false, (n0 == 1) = false, (n0 == 5) = false, (n0 == 6) = false, (n0 == 7) = true, (n0 == 7) = true, (n1 != 0) = false, (n2 != 0) = false, decide ((↑l3.length : Int) > 2) = false, (n0 == 8) = true, decide ((↑l3.length : Int) > 0) = false, ((↑l3.length : Int) == 2) = true, (0 : Int) ≤ 0, 0 < (↑l3.length : Int), l3[0]? = some [I n4], (0 : Int) ≤ 1, 1 < (↑l3.length : Int), l3[1]? = some [I n5], (n4 == n5) = false, LoopOk Try.prog (loopOf Try.f141 0) (impl_NodeOk_L0 l3 0) (Ex.exit 1) impl_NodeOk_X0v2]) :
    Ret Try.prog 141 [AD.agg [I n0, I n1, I n2, D.sl 1 l3]] [AD.one (B true)] :=
  .of [Ans.br false, Ans.br false, Ans.br false, Ans.br false, Ans.br false, Ans.br false, Ans.br true, Ans.br true, Ans.br false, Ans.br false, Ans.br false, Ans.br true, Ans.br false, Ans.br true, Ans.el [I n4], Ans.el [I n5], Ans.br false, Ans.loop [] [93, 92, 91] [] (Ex.exit 1) impl_NodeOk_X0v2] _ Try.func141 rfl (by kernel_rfl) h

theorem impl_NodeOk_p91 (n0 : Int) (n1 : Int) (n2 : Int) (l3 : List (List D)) (b4 : Bool)
    (h : Obs [(n0 == 2) = false, (n0 == 3) = false, (n0 == 4) = false, (n0 == 1) = false, (n0 == 5) = false, (n0 == 6) = false, (n0 == 7) = true, (n0 == 7) = true, (n1 != 0) = false, (n2 != 0) = false, decide ((↑l3.length : Int) > 2) = false, (n0 == 8) = true, decide ((↑l3.length : Int) > 0) = false, ((↑l3.length : Int) == 2) = false, LoopOk Try.prog (loopOf Try.f141 0) (impl_NodeOk_L0 l3 0) Ex.ret (impl_NodeOk_X0 b4)]) :
    Ret Try.prog 141 [AD.agg [I n0, I n1, I n2, D.sl 1 l3]] [AD.one (B b4)] :=
  .of [Ans.br false, Ans.br false, Ans.br false, Ans.br false, Ans.br false, Ans.br false, Ans.br true, Ans.br true, Ans.br false, Ans.br false, Ans.br false, Ans.br true, Ans.br false, Ans.br false, Ans.loop [] [93, 92, 91] [] Ex.ret (impl_NodeOk_X0 b4)] _ Try.func141 rfl (by kernel_rfl) h

theorem impl_NodeOk_p92 (n0 : Int) (n1 : Int) (n2 : Int) (l3 : List (List D))
    (h : Obs [(n0 == 2) = false, (n0 == 3) = false, (n0 == 4) = false, (n0 == 1) = false, (n0 == 5) = false, (n0 == 6) = false, (n0 == 7) = true, (n0 == 7) = true, (n1 != 0) = false, (n2 != 0) = false, decide ((↑l3.length : Int) > 2) = false, (n0 == 8) = true, decide ((↑l3.length : Int) > 0) = false, ((↑l3.length : Int) == 2) = false, LoopOk Try.prog (loopOf Try.f141 0) (impl_NodeOk_L0 l3 0) (Ex.exit 1) impl_NodeOk_X0v2]) :
    Ret Try.prog 141 [AD.agg [I n0, I n1, I n2, D.sl 1 l3]] [AD.one (B true)] :=
  .of [Ans.br false, Ans.br false, Ans.br false, Ans.br false, Ans.br false, Ans.br false, Ans.br true, Ans.br true, Ans.br false, Ans.br false, Ans.br false, Ans.br true, Ans.br false, Ans.br false, Ans.loop [] [93, 92, 91] [] (Ex.exit 1) impl_NodeOk_X0v2] _ Try.func141 rfl (by kernel_rfl) h

theorem impl_NodeOk_p93 (n0 : Int) (n1 : Int) (n2 : Int) (l3 : List (List D)) (n4 : Int) (n5 : Int)
    (h : Obs [(n0 == 2) = false, (n0 == 3) = false, (n0 == 4) = false, (n0 == 1) = false, (n0 == 5) = false, (n0 == 6) = false, (n0 == 7) = true, (n0 == 7) = true, (n1 != 0) = false, (n2 != 0) = false, decide ((↑l3.length : Int) > 2) = false, (n0 == 8) = false, ((↑l3.length : Int) == 2) = true, (0 : Int) ≤ 0, 0 < (↑l3.length : Int), l3[0]? = some [I n4], (0 : Int) ≤ 1, 1 < (↑l3.length : Int), l3[1]? = some [I n5], (n4 == n5) = true]) :
    Ret Try.prog 141 [AD.agg [I n0, I n1, I n2, D.sl 1 l3]] [AD.one (B false)] :=
  .of [Ans.br false, Ans.br false, Ans.br false, Ans.br false, Ans.br false, Ans.br false, Ans.br true, Ans.br true, Ans.br false, Ans.br false, Ans.br false, Ans.br false, Ans.br true, Ans.el [I n4], Ans.el [I n5], Ans.br true] _ Try.func141 rfl (by kernel_rfl) h

theorem impl_NodeOk_p94 (n0 : Int) (n1 : Int) (n2 : Int) (l3 : List (List D)) (n4 : Int) (n5 : Int) (b6 : Bool)
    (h : Obs [(n0 == 2) = false, (n0 == 3) = false, (n0 == 4) = false, (n0 == 1) = false, (n0 == 5) = false, (n0 == 6) = false, (n0 == 7) = true, (n0 == 7) = true, (n1 != 0) = false, (n2 != 0) = false, decide ((↑l3.length : Int) > 2) = false, (n0 == 8) = false, ((↑l3.length : Int) == 2) = true, (0 : Int) ≤ 0, 0 < (↑l3.length : Int), l3[0]? = some [I n4], (0 : Int) ≤ 1, 1 < (↑l3.length : Int), l3[1]? = some [I n5], (n4 == n5) = false, LoopOk Try.prog (loopOf Try.f141 0) (impl_NodeOk_L0 l3 0) Ex.ret (impl_NodeOk_X0 b6)]) :
    Ret Try.prog 141 [AD.agg [I n0, I n1, I n2, D.sl 1 l3]] [AD.one (B b6)] :=
  .of [Ans.br false, Ans.br false, Ans.br false, Ans.br false, Ans.br false, Ans.br false, Ans.br true, Ans.br true, Ans.br false, Ans.br false, Ans.br false, Ans.br false, Ans.br true, Ans.el [I n4], Ans.el [I n5], Ans.br false, Ans.loop [] [93, 92, 91] [] Ex.ret (impl_NodeOk_X0 b6)] _ Try.func141 rfl (by kernel_rfl) h

theorem impl_NodeOk_p95 (n0 : Int) (n1 : Int) (n2 : Int) (l3 : List (List D)) (n4 : Int) (n5 : Int)
    (h : Obs [(n0 == 2) = false, (n0 == 3) = false, (n0 == 4) = false, (n0 == 1) = false, (n0 == 5) = false, (n0 == 6) = false, (n0 == 7) = true, (n0 == 7) = true, (n1 != 0) = false, (n2 != 0) = false, decide ((↑l3.length : Int) > 2) = false, (n0 == 8) = false, ((↑l3.length : Int) == 2) = true, (0 : Int) ≤ 0, 0 < (↑l3.length : Int), l3[0]? = some [I n4], (0 : Int) ≤ 1, 1 < (↑l3.length : Int), l3[1]? = some [I n5], (n4 == n5) = false, LoopOk Try.prog (loopOf Try.f141 0) (impl_NodeOk_L0 l3 0) (Ex.exit 1) impl_NodeOk_X0v2]) :
    Ret Try.prog 141 [AD.agg [I n0, I n1, I n2, D.sl 1 l3]] [AD.one (B true)] :=
  .of [Ans.br false, Ans.br false, Ans.br false, Ans.br false, Ans.br false, Ans.br false, Ans.br true, Ans.br true, Ans.br false, Ans.br false, Ans.br false, Ans.br false, Ans.br true, Ans.el [I n4], Ans.el [I n5], Ans.br false, Ans.loop [] [93, 92, 91] [] (Ex.exit 1) impl_NodeOk_X0v2] _ Try.func141 rfl (by kernel_rfl) h

theorem impl_NodeOk_p96 (n0 : Int) (n1 : Int) (n2 : Int) (l3 : List (List D)) (b4 : Bool)
    (h : Obs [(n0 == 2) = false, (n0 == 3) = false, (n0 == 4) = false, (n0 == 1) = false, (n0 == 5) = false, (n0 == 6) = false, (n0 == 7) = true, (n0 == 7) = true, (n1 != 0) = false, (n2 != 0) = false, decide ((↑l3.length : Int) > 2) = false, (n0 == 8) = false, ((↑l3.length : Int) == 2) = false, LoopOk Try.prog (loopOf Try.f141 0) (impl_NodeOk_L0 l3 0) Ex.ret (impl_NodeOk_X0 b4)]) :
    Ret Try.prog 141 [AD.agg [I n0, I n1, I n2, D.sl 1 l3]] [AD.one (B b4)] :=
  .of [Ans.br false, Ans.br false, Ans.br false, Ans.br false, Ans.br false, Ans.br false, Ans.br true, Ans.br true, Ans.br false, Ans.br false, Ans.br false, Ans.br false, Ans.br false, Ans.loop [] [93, 92, 91] [] Ex.ret (impl_NodeOk_X0 b4)] _ Try.func141 rfl (by kernel_rfl) h

theorem impl_NodeOk_p97 (n0 : Int) (n1 : Int) (n2 : Int) (l3 : List (List D))
    (h : Obs [(n0 == 2) = false, (n0 == 3) = false, (n0 == 4) = false, (n0 == 1) = false, (n0 == 5) = false, (n0 == 6) = false, (n0 == 7) = true, (n0 == 7) = true, (n1 != 0) = false, (n2 != 0) = false, decide ((↑l3.length : Int) > 2) = false, (n0 == 8) = false, ((↑l3.length : Int) == 2) = false, LoopOk Try.prog (loopOf Try.f141 0) (impl_NodeOk_L0 l3 0) (Ex.exit 1) impl_NodeOk_X0v2]) :
    Ret Try.prog 141 [AD.agg [I n0, I n1, I n2, D.sl 1 l3]] [AD.one (B true)] :=
  .of [Ans.br false, Ans.br false, Ans.br false, Ans.br false, Ans.br false, Ans.br false, Ans.br true, Ans.br true, Ans.br false, Ans.br false, Ans.br false, Ans.br false, Ans.br false, Ans.loop [] [93, 92, 91] [] (Ex.exit 1) impl_NodeOk_X0v2] _ Try.func141 rfl (by kernel_rfl) h

theorem impl_NodeOk_p98 (n0 : Int) (n1 : Int) (n2 : Int) (l3 : List (List D))
    (h : Obs [(n0 == 2) = false, (n0 == 3) = false, (n0 == 4) = false, (n0 == 1) = false, (n0 == 5) = false, (n0 == 6) = false, (n0 == 7) = false, (n0 == 8) = true, (n1 != 0) = true]) :
    Ret Try.prog 141 [AD.agg [I n0, I n1, I n2, D.sl 1 l3]] [AD.one (B false)] :=
  .of [Ans.br false, Ans.br false, Ans.br false, Ans.br false, Ans.br false, Ans.br false, Ans.br false, Ans.br true, Ans.br true] _ Try.func141 rfl (by kernel_rfl) h

theorem impl_NodeOk_p99 (n0 : Int) (n1 : Int) (n2 : Int) (l3 : List (List D))
    (h : Obs [(n0 == 2) = false, (n0 == 3) = false, (n0 == 4) = false, (n0 == 1) = false, (n0 == 5) = false, (n0 == 6) = false, (n0 == 7) = false, (n0 == 8) = true, (n1 != 0) = false, (n2 != 0) = true]) :
    Ret Try.prog 141 [AD.agg [I n0, I n1, I n2, D.sl 1 l3]] [AD.one (B false)] :=
  .of [Ans.br false, Ans.br false, Ans.br false, Ans.br false, Ans.br false, Ans.br false, Ans.br false, Ans.br true, Ans.br false, Ans.br true] _ Try.func141 rfl (by kernel_rfl) h

theorem impl_NodeOk_p100 (n0 : Int) (n1 : Int) (n2 : Int) (l3 : List (List D))
    (h : Obs [(n0 == 2) = false, (n0 == 3) = false, (n0 == 4) = false, (n0 == 1) = false, (n0 == 5) = false, (n0 == 6) = false, (n0 == 7) = false, (n0 == 8) = true, (n1 != 0) = false, (n2 != 0) = false, decide ((↑l3.length : Int) > 2) = true]) :
    Ret Try.prog 141 [AD.agg [I n0, I n1, I n2, D.sl 1 l3]] [AD.one (B false)] :=
  .of [Ans.br false, Ans.br false, Ans.br false, Ans.br false, Ans.br false, Ans.br false, Ans.br false, Ans.br true, Ans.br false, Ans.br false, Ans.br true] _ Try.func141 rfl (by kernel_rfl) h

theorem impl_NodeOk_p101 (n0 : Int) (n1 : Int) (n2 : Int) (l3 : List (List D))
    (h : Obs [(n0 == 2) = false, (n0 == 3) = false, (n0 == 4) = false, (n0 == 1) = false, (n0 == 5) = false, (n0 == 6) = false, (n0 == 7) = false, (n0 == 8) = true, (n1 != 0) = false, (n2 != 0) = false, decide ((↑l3.length : Int) > 2) = false, (n0 == 8) = true, decide ((↑l3.length : Int) > 0) = true]) :
    Ret Try.prog 141 [AD.agg [I n0, I n1, I n2, D.sl 1 l3]] [AD.one (B false)] :=
  .of [Ans.br false, Ans.br false, Ans.br false, Ans.br false, Ans.br false, Ans.br false, Ans.br false, Ans.br true, Ans.br false, Ans.br false, Ans.br false, Ans.br true, Ans.br true] _ Try.func141 rfl (by kernel_rfl) h

theorem impl_NodeOk_p102 (n0 : Int) (n1 : Int) (n2 : Int) (l3 : List (List D)) (n4 : Int) (n5 : Int)
    (h : Obs [(n0 == 2) = false, (n0 == 3) = false, (n0 == 4) = false, (n0 == 1) = false, (n0 == 5) = false, (n0 == 6) = false, (n0 == 7) = false, (n0 == 8) = true, (n1 != 0) = false, (n2 != 0) = false, decide ((↑l3.length : Int) > 2) = false, (n0 == 8) = true, decide ((↑l3.length : Int) > 0) = false, ((↑l3.length : Int) == 2) = true, (0 : Int) ≤ 0, 0 < (↑l3.length : Int), l3[0]? = some [I n4], (0 : Int) ≤ 1, 1 < (↑l3.length : Int), l3[1]? = some [I n5], (n4 == n5) = true]) :
    Ret Try.prog 141 [AD.agg [I n0, I n1, I n2, D.sl 1 l3]] [AD.one (B false)] :=
  .of [Ans.br false, Ans.br false, Ans.br false, Ans.br false, Ans.br false, Ans.br false, Ans.br false, Ans.br true, Ans.br false, Ans.br false, Ans.br false, Ans.br true, Ans.br false, Ans.br true, Ans.el [I n4], Ans.el [I n5], Ans.br true] _ Try.func141 rfl (by kernel_rfl) h

theorem impl_NodeOk_p103 (n0 : Int) (n1 : Int) (n2 : Int) (l3 : List (List D)) (n4 : Int) (n5 : Int) (b6 : Bool)
    (h : Obs [(n0 == 2) = false, (n0 == 3) = false, (n0 == 4) = false, (n0 == 1) = false, (n0 == 5) = false, (n0 == 6) = false, (n0 == 7) = false, (n0 == 8) = true, (n1 != 0) = false, (n2 != 0) = false, decide ((↑l3.length : Int) > 2) = false, (n0 == 8) = true, decide ((↑l3.length : Int) > 0) = false, ((↑l3.length : Int) == 2) = true, (0 : Int) ≤ 0, 0 < (↑l3.length : Int), l3[0]? = some [I n4], (0 : Int) ≤ 1, 1 < (↑l3.length : Int), l3[1]? = some [I n5], (n4 == n5) = false, LoopOk Try.prog (loopOf Try.f141 0) (impl_NodeOk_L0 l3 0) Ex.ret (impl_NodeOk_X0 b6)]) :
    Ret Try.prog 141 [AD.agg [I n0, I n1, I n2, D.sl 1 l3]] [AD.one (B b6)] :=
  .of [Ans.br false, Ans.br false, Ans.br false, Ans.br false, Ans.br false, Ans.br false, Ans.br false, Ans.br true, Ans.br false, Ans.br false, Ans.br false, Ans.br true, Ans.br false, Ans.br true, Ans.el [I n4], Ans.el [I n5], Ans.br false, Ans.loop [] [93, 92, 91] [] Ex.ret (impl_NodeOk_X0 b6)] _ Try.func141 rfl (by kernel_rfl) h

theorem impl_NodeOk_p104 (n0 : Int) (n1 : Int) (n2 : Int) (l3 : List (List D)) (n4 : Int) (n5 : Int)
    (h : Obs [(n0 == 2) = false, (n0 == 3) = false, (n0 == 4) = false, (n0 == 1) = false, (n0 == 5) = false, (n0 == 6) = false, (n0 == 7) = false, (n0 == 8) = true, (n1 != 0) = false, (n2 != 0) = false, decide ((↑l3.length : Int) > 2) = false, (n0 == 8) = true, decide ((↑l3.length : Int) > 0) = false, ((↑l3.length : Int) == 2) = true, (0 : Int) ≤ 0, 0 < (↑l3.length : Int), l3[0]? = some [I n4], (0 : Int) ≤ 1, 1 < (↑l3.length : Int), l3[1]? = some [I n5], (n4 == n5) = false, LoopOk Try.prog (loopOf Try.f141 0) (impl_NodeOk_L0 l3 0) (Ex.exit 1) impl_NodeOk_X0v2]) :
    Ret Try.prog 141 [AD.agg [I n0, I n1, I n2, D.sl 1 l3]] [AD.one (B true)] :=
  .of [Ans.br false, Ans.br false, Ans.br false, Ans.br false, Ans.br false, Ans.br false, Ans.br false, Ans.br true, Ans.br false, Ans.br false, Ans.br false, Ans.br true, Ans.br false, Ans.br true, Ans.el [I n4], Ans.el [I n5], Ans.br false, Ans.loop [] [93, 92, 91] [] (Ex.exit 1) impl_NodeOk_X0v2] _ Try.func141 rfl (by kernel_rfl) h

theorem impl_NodeOk_p105 (n0 : Int) (n1 : Int) (n2 : Int) (l3 : List (List D)) (b4 : Bool)
    (h : Obs [(n0 == 2) = false, (n0 == 3) = false, (n0 == 4) = false, (n0 == 1) = false, (n0 == 5) = false, (n0 == 6) = false, (n0 == 7) = false, (n0 == 8) = true, (n1 != 0) = false, (n2 != 0) = false, decide ((↑l3.length : Int) > 2) = false, (n0 == 8) = true, decide ((↑l3.length : Int) > 0) = false, ((↑l3.length : Int) == 2) = false, LoopOk Try.prog (loopOf Try.f141 0) (impl_NodeOk_L0 l3 0) Ex.ret (impl_NodeOk_X0 b4)]) :
    Ret Try.prog 141 [AD.agg [I n0, I n1, I n2, D.sl 1 l3]] [AD.one (B b4)] :=
  .of [Ans.br false, Ans.br false, Ans.br false, Ans.br false, Ans.br false, Ans.br false, Ans.br false, Ans.br true, Ans.br false, Ans.br false, Ans.br false, Ans.br true, Ans.br false, Ans.br false, Ans.loop [] [93, 92, 91] [] Ex.ret (impl_NodeOk_X0 b4)] _ Try.func141 rfl (by kernel_rfl) h

theorem impl_NodeOk_p106 (n0 : Int) (n1 : Int) (n2 : Int) (l3 : List (List D))
    (h : Obs [(n0 == 2) = false, (n0 == 3) = false, (n0 == 4) = false, (n0 == 1) = false, (n0 == 5) = false, (n0 == 6) = false, (n0 == 7) = false, (n0 == 8) = true, (n1 != 0) = false, (n2 != 0) = false, decide ((↑l3.length : Int) > 2) = false, (n0 == 8) = true, decide ((↑l3.length : Int) > 0) = false, ((↑l3.length : Int) == 2) = false, LoopOk Try.prog (loopOf Try.f141 0) (impl_NodeOk_L0 l3 0) (Ex.exit 1) impl_NodeOk_X0v2]) :
    Ret Try.prog 141 [AD.agg [I n0, I n1, I n2, D.sl 1 l3]] [AD.one (B true)] :=
  .of [Ans.br false, Ans.br false, Ans.br false, Ans.br false, Ans.br false, Ans.br false, Ans.br false, Ans.br true, Ans.br false, Ans.br false, Ans.br false, Ans.br true, Ans.br false, Ans.br false, Ans.loop [] [93, 92, 91] [] (Ex.exit 1) impl_NodeOk_X0v2] _ Try.func141 rfl (by kernel_rfl) h

theorem impl_NodeOk_p107 (n0 : Int) (n1 : Int) (n2 : Int) (l3 : List (List D))
    (h : Obs [(n0 == 2) = false, (n0 == 3) = false, (n0 == 4) = false, (n0 == 1) = false, (n0 == 5) = false, (n0 == 6) = false, (n0 == 7) = false, (n0 == 8) = false]) :
    Ret Try.prog 141 [AD.agg [I n0, I n1, I n2, D.sl 1 l3]] [AD.one (B false)] :=
  .of [Ans.br false, Ans.br false, Ans.br false, Ans.br false, Ans.br false, Ans.br false, Ans.br false, Ans.br false] _ Try.func141 rfl (by kernel_rfl) h

end Go.Proofs.Ytbbjajmimckabaa
