import Derived.Test.YtamiheofgejehaaRows
import Derived.Test.YtamiheofgejehaaR17
set_option linter.unusedVariables false
set_option linter.unusedSimpArgs false
namespace Go.Proofs.Ytamiheofgejehaa
open Go.Sx Go.RowKit

/- loop.example/g00973/laws.toCell -/

theorem f40_p0 (n0 : Int) (n1 : Int) (n2 : Int) (n3 : Int)
    (h : Obs []) :
    Ret Try.prog 40 [AD.agg [I n0, I n1, I n2, I n3]] [AD.agg [I n0, I n1, I n2, I n3]] :=
  .of [] _ Try.func40 rfl (by kernel_rfl) h

/- loop.example/g00973/laws.toCellS -/

def lp14_0 (l0 : List (List D)) (n1 : Int) (l2 : List (List D)) : St :=
  { env := envOf 23 [(0, PV.al (AL.one (Leaf.sl Tag.free 4 l0))), (3, PV.al (AL.one (Leaf.sl (Tag.own 7) 4 l2))), (4, PV.al (AL.one (Leaf.v (Value.int IntKind.i64 n1))))], boxes := [] }

theorem lp14_0_s0 (l0 : List (List D)) (n1 : Int) (l2 : List (List D)) (n3 : Int) (n4 : Int) (n5 : Int) (n6 : Int) (n7 : Int) (n8 : Int) (n9 : Int) (n10 : Int) (n11 : Int) (n12 : Int) (n13 : Int) (n14 : Int)
    (h : Obs [decide (n1 < (↑l0.length : Int)) = true, 0 ≤ n1, n1 < (↑l0.length : Int), l0[n1.toNat]? = some [I n3, I n4, I n5, I n6], Ret Try.prog 40 [AD.agg [I n3, I n4, I n5, I n6]] [AD.agg [I n7, I n8, I n9, I n10]], 0 ≤ n1, n1 < (↑l2.length : Int), l2[n1.toNat]? = some [I n11, I n12, I n13, I n14], inInt IntKind.i64 (n1 + 1)]) :
    Tr Try.prog (loopOf Try.f14 0) (lp14_0 l0 n1 l2) Ex.normal (lp14_0 l0 (n1 + 1) (l2.set n1.toNat [I n7, I n8, I n9, I n10])) :=
  .of_loopc (ks := [4, 0, 3]) (bs := []) (ans := [Ans.br true, Ans.el [I n3, I n4, I n5, I n6], Ans.res [AD.agg [I n7, I n8, I n9, I n10]], Ans.el [I n11, I n12, I n13, I n14]]) (by kernel_rfl) h

def lx14_0 (l0 : List (List D)) : St :=
  { env := envOf 23 [(3, PV.al (AL.one (Leaf.sl (Tag.own 7) 4 l0)))], boxes := [] }

theorem lp14_0_x1 (l0 : List (List D)) (n1 : Int) (l2 : List (List D))
    (h : Obs [decide (n1 < (↑l0.length : Int)) = false]) :
    Tr Try.prog (loopOf Try.f14 0) (lp14_0 l0 n1 l2) (Ex.exit 0) (lx14_0 l2) :=
  .of_loopc (ks := [3]) (bs := []) (ans := [Ans.br false]) (by kernel_rfl) h

theorem f14_p0 (l0 : List (List D)) (l1 : List (List D))
    (h : Obs [0 ≤ (↑l0.length : Int), (↑l0.length : Int) ≤ (↑l0.length : Int), (↑32 : Int) * (↑l0.length : Int) ≤ 281474976710656, (↑l0.length : Int) ≤ 9223372036854775807, LoopOk Try.prog (loopOf Try.f14 0) (lp14_0 l0 0 (List.replicate l0.length [I 0, I 0, I 0, I 0])) (Ex.exit 0) (lx14_0 l1)]) :
    Ret Try.prog 14 [AD.one (D.sl 4 l0)] [AD.one (D.sl 4 l1)] :=
  .of [Ans.loop [] [4, 0, 3] [] (Ex.exit 0) (lx14_0 l1)] _ Try.func14 rfl (by kernel_rfl) h

/- loop.example/g00973/laws.eqCellS -/

theorem f16_p0 (l0 : List (List D)) (l1 : List (List D))
    (h : Obs [((↑l0.length : Int) != (↑l1.length : Int)) = true]) :
    Ret Try.prog 16 [AD.one (D.sl 4 l0), AD.one (D.sl 4 l1)] [AD.one (B false)] :=
  .of [Ans.br true] _ Try.func16 rfl (by kernel_rfl) h

def lp16_0 (l0 : List (List D)) (l1 : List (List D)) (n2 : Int) : St :=
  { env := envOf 27 [(0, PV.al (AL.one (Leaf.sl Tag.free 4 l0))), (1, PV.al (AL.one (Leaf.sl Tag.free 4 l1))), (5, PV.al (AL.one (Leaf.v (Value.int IntKind.i64 n2))))], boxes := [] }

def lx16_0 (b0 : Bool) : St :=
  { env := envOf 27 [(4, PV.al (AL.one (Leaf.sb b0)))], boxes := [] }

theorem lp16_0_x0 (l0 : List (List D)) (l1 : List (List D)) (n2 : Int) (n3 : Int) (n4 : Int) (n5 : Int) (n6 : Int) (n7 : Int) (n8 : Int) (n9 : Int) (n10 : Int) (b11 : Bool)
    (h : Obs [decide (n2 < (↑l0.length : Int)) = true, 0 ≤ n2, n2 < (↑l0.length : Int), l0[n2.toNat]? = some [I n3, I n4, I n5, I n6], 0 ≤ n2, n2 < (↑l1.length : Int), l1[n2.toNat]? = some [I n7, I n8, I n9, I n10], Ret Try.prog 42 [AD.agg [I n3, I n4, I n5, I n6], AD.agg [I n7, I n8, I n9, I n10]] [AD.one (B b11)], (!b11) = true]) :
    Tr Try.prog (loopOf Try.f16 0) (lp16_0 l0 l1 n2) Ex.ret (lx16_0 false) :=
  .of_loopc (ks := [4]) (bs := []) (ans := [Ans.br true, Ans.el [I n3, I n4, I n5, I n6], Ans.el [I n7, I n8, I n9, I n10], Ans.res [AD.one (B b11)], Ans.br true]) (by kernel_rfl) h

theorem lp16_0_s1 (l0 : List (List D)) (l1 : List (List D)) (n2 : Int) (n3 : Int) (n4 : Int) (n5 : Int) (n6 : Int) (n7 : Int) (n8 : Int) (n9 : Int) (n10 : Int) (b11 : Bool)
    (h : Obs [decide (n2 < (↑l0.length : Int)) = true, 0 ≤ n2, n2 < (↑l0.length : Int), l0[n2.toNat]? = some [I n3, I n4, I n5, I n6], 0 ≤ n2, n2 < (↑l1.length : Int), l1[n2.toNat]? = some [I n7, I n8, I n9, I n10], Ret Try.prog 42 [AD.agg [I n3, I n4, I n5, I n6], AD.agg [I n7, I n8, I n9, I n10]] [AD.one (B b11)], (!b11) = false, inInt IntKind.i64 (n2 + 1)]) :
    Tr Try.prog (loopOf Try.f16 0) (lp16_0 l0 l1 n2) Ex.normal (lp16_0 l0 l1 (n2 + 1)) :=
  .of_loopc (ks := [5, 0, 1]) (bs := []) (ans := [Ans.br true, Ans.el [I n3, I n4, I n5, I n6], Ans.el [I n7, I n8, I n9, I n10], Ans.res [AD.one (B b11)], Ans.br false]) (by kernel_rfl) h

def lx16_0v2 : St :=
  { env := envOf 27 [], boxes := [] }

theorem lp16_0_x2 (l0 : List (List D)) (l1 : List (List D)) (n2 : Int)
    (h : Obs [decide (n2 < (↑l0.length : Int)) = false]) :
    Tr Try.prog (loopOf Try.f16 0) (lp16_0 l0 l1 n2) (Ex.exit 0) lx16_0v2 :=
  .of_loopc (ks := []) (bs := []) (ans := [Ans.br false]) (by kernel_rfl) h

theorem f16_p1 (l0 : List (List D)) (l1 : List (List D)) (b2 : Bool)
    (h : Obs [((↑l0.length : Int) != (↑l1.length : Int)) = false, LoopOk Try.prog (loopOf Try.f16 0) (lp16_0 l0 l1 0) Ex.ret (lx16_0 b2)]) :
    Ret Try.prog 16 [AD.one (D.sl 4 l0), AD.one (D.sl 4 l1)] [AD.one (B b2)] :=
  .of [Ans.br false, Ans.loop [] [5, 0, 1] [] Ex.ret (lx16_0 b2)] _ Try.func16 rfl (by kernel_rfl) h

theorem f16_p2 (l0 : List (List D)) (l1 : List (List D))
    (h : Obs [((↑l0.length : Int) != (↑l1.length : Int)) = false, LoopOk Try.prog (loopOf Try.f16 0) (lp16_0 l0 l1 0) (Ex.exit 0) lx16_0v2]) :
    Ret Try.prog 16 [AD.one (D.sl 4 l0), AD.one (D.sl 4 l1)] [AD.one (B true)] :=
  .of [Ans.br false, Ans.loop [] [5, 0, 1] [] (Ex.exit 0) lx16_0v2] _ Try.func16 rfl (by kernel_rfl) h

/- loop.example/g00973/laws.eqCell -/

theorem f42_p0 (n0 : Int) (n1 : Int) (n2 : Int) (n3 : Int) (n4 : Int) (n5 : Int) (n6 : Int) (n7 : Int)
    (h : Obs [(n0 != n4) = true]) :
    Ret Try.prog 42 [AD.agg [I n0, I n1, I n2, I n3], AD.agg [I n4, I n5, I n6, I n7]] [AD.one (B false)] :=
  .of [Ans.br true] _ Try.func42 rfl (by kernel_rfl) h

theorem f42_p1 (n0 : Int) (n1 : Int) (n2 : Int) (n3 : Int) (n4 : Int) (n5 : Int) (n6 : Int) (n7 : Int)
    (h : Obs [(n0 != n4) = false, (n1 != n5) = true]) :
    Ret Try.prog 42 [AD.agg [I n0, I n1, I n2, I n3], AD.agg [I n4, I n5, I n6, I n7]] [AD.one (B false)] :=
  .of [Ans.br false, Ans.br true] _ Try.func42 rfl (by kernel_rfl) h

theorem f42_p2 (n0 : Int) (n1 : Int) (n2 : Int) (n3 : Int) (n4 : Int) (n5 : Int) (n6 : Int) (n7 : Int)
    (h : Obs [(n0 != n4) = false, (n1 != n5) = false, (n2 != n6) = true]) :
    Ret Try.prog 42 [AD.agg [I n0, I n1, I n2, I n3], AD.agg [I n4, I n5, I n6, I n7]] [AD.one (B false)] :=
  .of [Ans.br false, Ans.br false, Ans.br true] _ Try.func42 rfl (by kernel_rfl) h

theorem f42_p3 (n0 : Int) (n1 : Int) (n2 : Int) (n3 : Int) (n4 : Int) (n5 : Int) (n6 : Int) (n7 : Int)
    (h : Obs [(n0 != n4) = false, (n1 != n5) = false, (n2 != n6) = false, (n3 != n7) = true]) :
    Ret Try.prog 42 [AD.agg [I n0, I n1, I n2, I n3], AD.agg [I n4, I n5, I n6, I n7]] [AD.one (B false)] :=
  .of [Ans.br false, Ans.br false, Ans.br false, Ans.br true] _ Try.func42 rfl (by kernel_rfl) h

theorem f42_p4 (n0 : Int) (n1 : Int) (n2 : Int) (n3 : Int) (n4 : Int) (n5 : Int) (n6 : Int) (n7 : Int)
    (h : Obs [(n0 != n4) = false, (n1 != n5) = false, (n2 != n6) = false, (n3 != n7) = false]) :
    Ret Try.prog 42 [AD.agg [I n0, I n1, I n2, I n3], AD.agg [I n4, I n5, I n6, I n7]] [AD.one (B true)] :=
  .of [Ans.br false, Ans.br false, Ans.br false, Ans.br false] _ Try.func42 rfl (by kernel_rfl) h

/- loop.example/g00973/spec.l09Same -/

theorem f39_p0 (l0 : List (List D)) (l1 : List (List D))
    (h : Obs [((↑l0.length : Int) != (↑l1.length : Int)) = true]) :
    Ret Try.prog 39 [AD.one (D.sl 4 l0), AD.one (D.sl 4 l1)] [AD.one (B false)] :=
  .of [Ans.br true] _ Try.func39 rfl (by kernel_rfl) h

def lp39_0 (l0 : List (List D)) (l1 : List (List D)) (n2 : Int) : St :=
  { env := envOf 26 [(0, PV.al (AL.one (Leaf.sl Tag.free 4 l0))), (1, PV.al (AL.one (Leaf.sl Tag.free 4 l1))), (5, PV.al (AL.one (Leaf.v (Value.int IntKind.i64 n2))))], boxes := [] }

def lx39_0 (b0 : Bool) : St :=
  { env := envOf 26 [(4, PV.al (AL.one (Leaf.sb b0)))], boxes := [] }

theorem lp39_0_x0 (l0 : List (List D)) (l1 : List (List D)) (n2 : Int) (n3 : Int) (n4 : Int) (n5 : Int) (n6 : Int) (n7 : Int) (n8 : Int) (n9 : Int) (n10 : Int)
    (h : Obs [decide (n2 < (↑l0.length : Int)) = true, 0 ≤ n2, n2 < (↑l0.length : Int), l0[n2.toNat]? = some [I n3, I n4, I n5, I n6], 0 ≤ n2, n2 < (↑l1.length : Int), l1[n2.toNat]? = some [I n7, I n8, I n9, I n10], (!(n3 == n7 && (n4 == n8 && (n5 == n9 && n6 == n10)))) = true]) :
    Tr Try.prog (loopOf Try.f39 0) (lp39_0 l0 l1 n2) Ex.ret (lx39_0 false) :=
  .of_loopc (ks := [4]) (bs := []) (ans := [Ans.br true, Ans.el [I n3, I n4, I n5, I n6], Ans.el [I n7, I n8, I n9, I n10], Ans.br true]) (by kernel_rfl) h

theorem lp39_0_s1 (l0 : List (List D)) (l1 : List (List D)) (n2 : Int) (n3 : Int) (n4 : Int) (n5 : Int) (n6 : Int) (n7 : Int) (n8 : Int) (n9 : Int) (n10 : Int)
    (h : Obs [decide (n2 < (↑l0.length : Int)) = true, 0 ≤ n2, n2 < (↑l0.length : Int), l0[n2.toNat]? = some [I n3, I n4, I n5, I n6], 0 ≤ n2, n2 < (↑l1.length : Int), l1[n2.toNat]? = some [I n7, I n8, I n9, I n10], (!(n3 == n7 && (n4 == n8 && (n5 == n9 && n6 == n10)))) = false, inInt IntKind.i64 (n2 + 1)]) :
    Tr Try.prog (loopOf Try.f39 0) (lp39_0 l0 l1 n2) Ex.normal (lp39_0 l0 l1 (n2 + 1)) :=
  .of_loopc (ks := [5, 0, 1]) (bs := []) (ans := [Ans.br true, Ans.el [I n3, I n4, I n5, I n6], Ans.el [I n7, I n8, I n9, I n10], Ans.br false]) (by kernel_rfl) h

def lx39_0v2 : St :=
  { env := envOf 26 [], boxes := [] }

theorem lp39_0_x2 (l0 : List (List D)) (l1 : List (List D)) (n2 : Int)
    (h : Obs [decide (n2 < (↑l0.length : Int)) = false]) :
    Tr Try.prog (loopOf Try.f39 0) (lp39_0 l0 l1 n2) (Ex.exit 0) lx39_0v2 :=
  .of_loopc (ks := []) (bs := []) (ans := [Ans.br false]) (by kernel_rfl) h

theorem f39_p1 (l0 : List (List D)) (l1 : List (List D)) (b2 : Bool)
    (h : Obs [((↑l0.length : Int) != (↑l1.length : Int)) = false, LoopOk Try.prog (loopOf Try.f39 0) (lp39_0 l0 l1 0) Ex.ret (lx39_0 b2)]) :
    Ret Try.prog 39 [AD.one (D.sl 4 l0), AD.one (D.sl 4 l1)] [AD.one (B b2)] :=
  .of [Ans.br false, Ans.loop [] [5, 0, 1] [] Ex.ret (lx39_0 b2)] _ Try.func39 rfl (by kernel_rfl) h

theorem f39_p2 (l0 : List (List D)) (l1 : List (List D))
    (h : Obs [((↑l0.length : Int) != (↑l1.length : Int)) = false, LoopOk Try.prog (loopOf Try.f39 0) (lp39_0 l0 l1 0) (Ex.exit 0) lx39_0v2]) :
    Ret Try.prog 39 [AD.one (D.sl 4 l0), AD.one (D.sl 4 l1)] [AD.one (B true)] :=
  .of [Ans.br false, Ans.loop [] [5, 0, 1] [] (Ex.exit 0) lx39_0v2] _ Try.func39 rfl (by kernel_rfl) h

/- loop.example/g00973/laws.szCellS -/

theorem f12_p0 (l0 : List (List D)) (n1 : Int)
    (h : Obs [inInt IntKind.i64 (n1 - (↑l0.length : Int)), decide (n1 - (↑l0.length : Int) < 0) = true]) :
    Ret Try.prog 12 [AD.one (D.sl 4 l0), AD.one (I n1)] [AD.one (I (-1))] :=
  .of [Ans.br true] _ Try.func12 rfl (by kernel_rfl) h

theorem f12_p1 (l0 : List (List D)) (n1 : Int)
    (h : Obs [inInt IntKind.i64 (n1 - (↑l0.length : Int)), decide (n1 - (↑l0.length : Int) < 0) = false]) :
    Ret Try.prog 12 [AD.one (D.sl 4 l0), AD.one (I n1)] [AD.one (I (n1 - (↑l0.length : Int)))] :=
  .of [Ans.br false] _ Try.func12 rfl (by kernel_rfl) h

/- loop.example/g00973/spec.SameOuts -/

theorem f13_p0 (l0 : List (List D)) (l1 : List (List D)) (b2 : Bool)
    (h : Obs [Ret Try.prog 39 [AD.one (D.sl 4 l0), AD.one (D.sl 4 l1)] [AD.one (B b2)]]) :
    Ret Try.prog 13 [AD.one (D.sl 4 l0), AD.one (D.sl 4 l1)] [AD.one (B b2)] :=
  .of [Ans.res [AD.one (B b2)]] _ Try.func13 rfl (by kernel_rfl) h

/- loop.example/g00973/impl.SameOuts -/

theorem f15_p0 (l0 : List (List D)) (l1 : List (List D)) (b2 : Bool)
    (h : Obs [Ret Try.prog 41 [AD.one (D.sl 4 l0), AD.one (D.sl 4 l1)] [AD.one (B b2)]]) :
    Ret Try.prog 15 [AD.one (D.sl 4 l0), AD.one (D.sl 4 l1)] [AD.one (B b2)] :=
  .of [Ans.res [AD.one (B b2)]] _ Try.func15 rfl (by kernel_rfl) h

/- slices.Equal[[]loop.example/g00973/impl.Cell,loop.example/g00973/impl.Cell] -/

theorem f41_p0 (l0 : List (List D)) (l1 : List (List D))
    (h : Obs [((↑l0.length : Int) != (↑l1.length : Int)) = true]) :
    Ret Try.prog 41 [AD.one (D.sl 4 l0), AD.one (D.sl 4 l1)] [AD.one (B false)] :=
  .of [Ans.br true] _ Try.func41 rfl (by kernel_rfl) h

def lp41_0 (l0 : List (List D)) (l1 : List (List D)) (n2 : Int) : St :=
  { env := envOf 26 [(0, PV.al (AL.one (Leaf.sl Tag.free 4 l0))), (1, PV.al (AL.one (Leaf.sl Tag.free 4 l1))), (12, PV.al (AL.one (Leaf.v (Value.int IntKind.i64 (↑l0.length : Int))))), (13, PV.al (AL.one (Leaf.v (Value.int IntKind.i64 n2))))], boxes := [] }

def lx41_0 (b0 : Bool) : St :=
  { env := envOf 26 [(4, PV.al (AL.one (Leaf.sb b0)))], boxes := [] }

theorem lp41_0_x0 (l0 : List (List D)) (l1 : List (List D)) (n2 : Int) (n3 : Int) (n4 : Int) (n5 : Int) (n6 : Int) (n7 : Int) (n8 : Int) (n9 : Int) (n10 : Int)
    (h : Obs [decide (n2 < (↑l0.length : Int)) = true, 0 ≤ n2, n2 < (↑l0.length : Int), l0[n2.toNat]? = some [I n3, I n4, I n5, I n6], 0 ≤ n2, n2 < (↑l1.length : Int), l1[n2.toNat]? = some [I n7, I n8, I n9, I n10], (!(n3 == n7 && (n4 == n8 && (n5 == n9 && n6 == n10)))) = true]) :
    Tr Try.prog (loopOf Try.f41 0) (lp41_0 l0 l1 n2) Ex.ret (lx41_0 false) :=
  .of_loopc (ks := [4]) (bs := []) (ans := [Ans.br true, Ans.el [I n3, I n4, I n5, I n6], Ans.el [I n7, I n8, I n9, I n10], Ans.br true]) (by kernel_rfl) h

theorem lp41_0_s1 (l0 : List (List D)) (l1 : List (List D)) (n2 : Int) (n3 : Int) (n4 : Int) (n5 : Int) (n6 : Int) (n7 : Int) (n8 : Int) (n9 : Int) (n10 : Int)
    (h : Obs [decide (n2 < (↑l0.length : Int)) = true, 0 ≤ n2, n2 < (↑l0.length : Int), l0[n2.toNat]? = some [I n3, I n4, I n5, I n6], 0 ≤ n2, n2 < (↑l1.length : Int), l1[n2.toNat]? = some [I n7, I n8, I n9, I n10], (!(n3 == n7 && (n4 == n8 && (n5 == n9 && n6 == n10)))) = false, inInt IntKind.i64 (n2 + 1)]) :
    Tr Try.prog (loopOf Try.f41 0) (lp41_0 l0 l1 n2) Ex.normal (lp41_0 l0 l1 (n2 + 1)) :=
  .of_loopc (ks := [13, 12, 0, 1]) (bs := []) (ans := [Ans.br true, Ans.el [I n3, I n4, I n5, I n6], Ans.el [I n7, I n8, I n9, I n10], Ans.br false]) (by kernel_rfl) h

def lx41_0v2 : St :=
  { env := envOf 26 [], boxes := [] }

theorem lp41_0_x2 (l0 : List (List D)) (l1 : List (List D)) (n2 : Int)
    (h : Obs [decide (n2 < (↑l0.length : Int)) = false]) :
    Tr Try.prog (loopOf Try.f41 0) (lp41_0 l0 l1 n2) (Ex.exit 0) lx41_0v2 :=
  .of_loopc (ks := []) (bs := []) (ans := [Ans.br false]) (by kernel_rfl) h

theorem f41_p1 (l0 : List (List D)) (l1 : List (List D)) (b2 : Bool)
    (h : Obs [((↑l0.length : Int) != (↑l1.length : Int)) = false, LoopOk Try.prog (loopOf Try.f41 0) (lp41_0 l0 l1 0) Ex.ret (lx41_0 b2)]) :
    Ret Try.prog 41 [AD.one (D.sl 4 l0), AD.one (D.sl 4 l1)] [AD.one (B b2)] :=
  .of [Ans.br false, Ans.loop [] [13, 12, 0, 1] [] Ex.ret (lx41_0 b2)] _ Try.func41 rfl (by kernel_rfl) h

theorem f41_p2 (l0 : List (List D)) (l1 : List (List D))
    (h : Obs [((↑l0.length : Int) != (↑l1.length : Int)) = false, LoopOk Try.prog (loopOf Try.f41 0) (lp41_0 l0 l1 0) (Ex.exit 0) lx41_0v2]) :
    Ret Try.prog 41 [AD.one (D.sl 4 l0), AD.one (D.sl 4 l1)] [AD.one (B true)] :=
  .of [Ans.br false, Ans.loop [] [13, 12, 0, 1] [] (Ex.exit 0) lx41_0v2] _ Try.func41 rfl (by kernel_rfl) h

/- loop.example/g00973/laws.FnExactSameOuts -/

theorem f4_p0 (l0 : List (List D)) (l1 : List (List D)) (n2 : Int)
    (h : Obs [Ret Try.prog 12 [AD.one (D.sl 4 l0), AD.one (I 1048576)] [AD.one (I n2)], decide (n2 < 0) = true]) :
    Ret Try.prog 4 [AD.one (D.sl 4 l0), AD.one (D.sl 4 l1)] [AD.one (B true)] :=
  .of [Ans.res [AD.one (I n2)], Ans.br true] _ Try.func4 rfl (by kernel_rfl) h

theorem f4_p1 (l0 : List (List D)) (l1 : List (List D)) (n2 : Int) (n3 : Int)
    (h : Obs [Ret Try.prog 12 [AD.one (D.sl 4 l0), AD.one (I 1048576)] [AD.one (I n2)], decide (n2 < 0) = false, Ret Try.prog 12 [AD.one (D.sl 4 l1), AD.one (I n2)] [AD.one (I n3)], decide (n3 < 0) = true]) :
    Ret Try.prog 4 [AD.one (D.sl 4 l0), AD.one (D.sl 4 l1)] [AD.one (B true)] :=
  .of [Ans.res [AD.one (I n2)], Ans.br false, Ans.res [AD.one (I n3)], Ans.br true] _ Try.func4 rfl (by kernel_rfl) h

theorem f4_p2 (l0 : List (List D)) (l1 : List (List D)) (n2 : Int) (n3 : Int) (l4 : List (List D)) (l5 : List (List D)) (b6 : Bool) (l7 : List (List D)) (l8 : List (List D)) (b9 : Bool)
    (h : Obs [Ret Try.prog 12 [AD.one (D.sl 4 l0), AD.one (I 1048576)] [AD.one (I n2)], decide (n2 < 0) = false, Ret Try.prog 12 [AD.one (D.sl 4 l1), AD.one (I n2)] [AD.one (I n3)], decide (n3 < 0) = false, Ret Try.prog 14 [AD.one (D.sl 4 l0)] [AD.one (D.sl 4 l4)], Ret Try.prog 14 [AD.one (D.sl 4 l1)] [AD.one (D.sl 4 l5)], Ret Try.prog 13 [AD.one (D.sl 4 l4), AD.one (D.sl 4 l5)] [AD.one (B b6)], Ret Try.prog 14 [AD.one (D.sl 4 l0)] [AD.one (D.sl 4 l7)], Ret Try.prog 14 [AD.one (D.sl 4 l1)] [AD.one (D.sl 4 l8)], Ret Try.prog 15 [AD.one (D.sl 4 l7), AD.one (D.sl 4 l8)] [AD.one (B b9)], (!b9 == b6) = true]) :
    Ret Try.prog 4 [AD.one (D.sl 4 l0), AD.one (D.sl 4 l1)] [AD.one (B false)] :=
  .of [Ans.res [AD.one (I n2)], Ans.br false, Ans.res [AD.one (I n3)], Ans.br false, Ans.res [AD.one (D.sl 4 l4)], Ans.res [AD.one (D.sl 4 l5)], Ans.res [AD.one (B b6)], Ans.res [AD.one (D.sl 4 l7)], Ans.res [AD.one (D.sl 4 l8)], Ans.res [AD.one (B b9)], Ans.br true] _ Try.func4 rfl (by kernel_rfl) h

theorem f4_p3 (l0 : List (List D)) (l1 : List (List D)) (n2 : Int) (n3 : Int) (l4 : List (List D)) (l5 : List (List D)) (b6 : Bool) (l7 : List (List D)) (l8 : List (List D)) (b9 : Bool) (l10 : List (List D)) (b11 : Bool)
    (h : Obs [Ret Try.prog 12 [AD.one (D.sl 4 l0), AD.one (I 1048576)] [AD.one (I n2)], decide (n2 < 0) = false, Ret Try.prog 12 [AD.one (D.sl 4 l1), AD.one (I n2)] [AD.one (I n3)], decide (n3 < 0) = false, Ret Try.prog 14 [AD.one (D.sl 4 l0)] [AD.one (D.sl 4 l4)], Ret Try.prog 14 [AD.one (D.sl 4 l1)] [AD.one (D.sl 4 l5)], Ret Try.prog 13 [AD.one (D.sl 4 l4), AD.one (D.sl 4 l5)] [AD.one (B b6)], Ret Try.prog 14 [AD.one (D.sl 4 l0)] [AD.one (D.sl 4 l7)], Ret Try.prog 14 [AD.one (D.sl 4 l1)] [AD.one (D.sl 4 l8)], Ret Try.prog 15 [AD.one (D.sl 4 l7), AD.one (D.sl 4 l8)] [AD.one (B b9)], (!b9 == b6) = false, Ret Try.prog 14 [AD.one (D.sl 4 l0)] [AD.one (D.sl 4 l10)], Ret Try.prog 16 [AD.one (D.sl 4 l7), AD.one (D.sl 4 l10)] [AD.one (B b11)], (!b11) = true]) :
    Ret Try.prog 4 [AD.one (D.sl 4 l0), AD.one (D.sl 4 l1)] [AD.one (B false)] :=
  .of [Ans.res [AD.one (I n2)], Ans.br false, Ans.res [AD.one (I n3)], Ans.br false, Ans.res [AD.one (D.sl 4 l4)], Ans.res [AD.one (D.sl 4 l5)], Ans.res [AD.one (B b6)], Ans.res [AD.one (D.sl 4 l7)], Ans.res [AD.one (D.sl 4 l8)], Ans.res [AD.one (B b9)], Ans.br false, Ans.res [AD.one (D.sl 4 l10)], Ans.res [AD.one (B b11)], Ans.br true] _ Try.func4 rfl (by kernel_rfl) h

theorem f4_p4 (l0 : List (List D)) (l1 : List (List D)) (n2 : Int) (n3 : Int) (l4 : List (List D)) (l5 : List (List D)) (b6 : Bool) (l7 : List (List D)) (l8 : List (List D)) (b9 : Bool) (l10 : List (List D)) (b11 : Bool) (l12 : List (List D)) (b13 : Bool)
    (h : Obs [Ret Try.prog 12 [AD.one (D.sl 4 l0), AD.one (I 1048576)] [AD.one (I n2)], decide (n2 < 0) = false, Ret Try.prog 12 [AD.one (D.sl 4 l1), AD.one (I n2)] [AD.one (I n3)], decide (n3 < 0) = false, Ret Try.prog 14 [AD.one (D.sl 4 l0)] [AD.one (D.sl 4 l4)], Ret Try.prog 14 [AD.one (D.sl 4 l1)] [AD.one (D.sl 4 l5)], Ret Try.prog 13 [AD.one (D.sl 4 l4), AD.one (D.sl 4 l5)] [AD.one (B b6)], Ret Try.prog 14 [AD.one (D.sl 4 l0)] [AD.one (D.sl 4 l7)], Ret Try.prog 14 [AD.one (D.sl 4 l1)] [AD.one (D.sl 4 l8)], Ret Try.prog 15 [AD.one (D.sl 4 l7), AD.one (D.sl 4 l8)] [AD.one (B b9)], (!b9 == b6) = false, Ret Try.prog 14 [AD.one (D.sl 4 l0)] [AD.one (D.sl 4 l10)], Ret Try.prog 16 [AD.one (D.sl 4 l7), AD.one (D.sl 4 l10)] [AD.one (B b11)], (!b11) = false, Ret Try.prog 14 [AD.one (D.sl 4 l1)] [AD.one (D.sl 4 l12)], Ret Try.prog 16 [AD.one (D.sl 4 l8), AD.one (D.sl 4 l12)] [AD.one (B b13)], (!b13) = true]) :
    Ret Try.prog 4 [AD.one (D.sl 4 l0), AD.one (D.sl 4 l1)] [AD.one (B false)] :=
  .of [Ans.res [AD.one (I n2)], Ans.br false, Ans.res [AD.one (I n3)], Ans.br false, Ans.res [AD.one (D.sl 4 l4)], Ans.res [AD.one (D.sl 4 l5)], Ans.res [AD.one (B b6)], Ans.res [AD.one (D.sl 4 l7)], Ans.res [AD.one (D.sl 4 l8)], Ans.res [AD.one (B b9)], Ans.br false, Ans.res [AD.one (D.sl 4 l10)], Ans.res [AD.one (B b11)], Ans.br false, Ans.res [AD.one (D.sl 4 l12)], Ans.res [AD.one (B b13)], Ans.br true] _ Try.func4 rfl (by kernel_rfl) h

theorem f4_p5 (l0 : List (List D)) (l1 : List (List D)) (n2 : Int) (n3 : Int) (l4 : List (List D)) (l5 : List (List D)) (b6 : Bool) (l7 : List (List D)) (l8 : List (List D)) (b9 : Bool) (l10 : List (List D)) (b11 : Bool) (l12 : List (List D)) (b13 : Bool)
    (h : Obs [Ret Try.prog 12 [AD.one (D.sl 4 l0), AD.one (I 1048576)] [AD.one (I n2)], decide (n2 < 0) = false, Ret Try.prog 12 [AD.one (D.sl 4 l1), AD.one (I n2)] [AD.one (I n3)], decide (n3 < 0) = false, Ret Try.prog 14 [AD.one (D.sl 4 l0)] [AD.one (D.sl 4 l4)], Ret Try.prog 14 [AD.one (D.sl 4 l1)] [AD.one (D.sl 4 l5)], Ret Try.prog 13 [AD.one (D.sl 4 l4), AD.one (D.sl 4 l5)] [AD.one (B b6)], Ret Try.prog 14 [AD.one (D.sl 4 l0)] [AD.one (D.sl 4 l7)], Ret Try.prog 14 [AD.one (D.sl 4 l1)] [AD.one (D.sl 4 l8)], Ret Try.prog 15 [AD.one (D.sl 4 l7), AD.one (D.sl 4 l8)] [AD.one (B b9)], (!b9 == b6) = false, Ret Try.prog 14 [AD.one (D.sl 4 l0)] [AD.one (D.sl 4 l10)], Ret Try.prog 16 [AD.one (D.sl 4 l7), AD.one (D.sl 4 l10)] [AD.one (B b11)], (!b11) = false, Ret Try.prog 14 [AD.one (D.sl 4 l1)] [AD.one (D.sl 4 l12)], Ret Try.prog 16 [AD.one (D.sl 4 l8), AD.one (D.sl 4 l12)] [AD.one (B b13)], (!b13) = false]) :
    Ret Try.prog 4 [AD.one (D.sl 4 l0), AD.one (D.sl 4 l1)] [AD.one (B true)] :=
  .of [Ans.res [AD.one (I n2)], Ans.br false, Ans.res [AD.one (I n3)], Ans.br false, Ans.res [AD.one (D.sl 4 l4)], Ans.res [AD.one (D.sl 4 l5)], Ans.res [AD.one (B b6)], Ans.res [AD.one (D.sl 4 l7)], Ans.res [AD.one (D.sl 4 l8)], Ans.res [AD.one (B b9)], Ans.br false, Ans.res [AD.one (D.sl 4 l10)], Ans.res [AD.one (B b11)], Ans.br false, Ans.res [AD.one (D.sl 4 l12)], Ans.res [AD.one (B b13)], Ans.br false] _ Try.func4 rfl (by kernel_rfl) h


end Go.Proofs.Ytamiheofgejehaa
