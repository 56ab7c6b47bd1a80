import Derived.Test.YtbbjajmimckabaaRows
import Derived.Test.YtbbjajmimckabaaR23
set_option linter.unusedVariables false
set_option linter.unusedSimpArgs false
namespace Go.Proofs.Ytbbjajmimckabaa
open Go.Sx Go.RowKit

/- loop.example/g00973/laws.eqStamp -/

theorem laws_eqStamp_p0 (n0 : Int) (n1 : Int) (n2 : Int) (n3 : Int)
    (h : Obs [(n0 != n2) = true]) :
    Ret Try.prog 63 [AD.agg [I n0, I n1], AD.agg [I n2, I n3]] [AD.one (B false)] :=
  .of [Ans.br true] _ Try.func63 rfl (by kernel_rfl) h

theorem laws_eqStamp_p1 (n0 : Int) (n1 : Int) (n2 : Int) (n3 : Int)
    (h : Obs [(n0 != n2) = false, (n1 != n3) = true]) :
    Ret Try.prog 63 [AD.agg [I n0, I n1], AD.agg [I n2, I n3]] [AD.one (B false)] :=
  .of [Ans.br false, Ans.br true] _ Try.func63 rfl (by kernel_rfl) h

theorem laws_eqStamp_p2 (n0 : Int) (n1 : Int) (n2 : Int) (n3 : Int)
    (h : Obs [(n0 != n2) = false, (n1 != n3) = false]) :
    Ret Try.prog 63 [AD.agg [I n0, I n1], AD.agg [I n2, I n3]] [AD.one (B true)] :=
  .of [Ans.br false, Ans.br false] _ Try.func63 rfl (by kernel_rfl) h

/- loop.example/g00973/laws.eqRecord -/

theorem laws_eqRecord_p0 (n0 : Int) (n1 : Int) (n2 : Int) (n3 : Int) (n4 : Int) (n5 : Int) (n6 : Int) (n7 : Int) (n8 : Int) (n9 : Int)
    (h : Obs [(n0 != n5) = true]) :
    Ret Try.prog 24 [AD.agg [I n0, I n1, I n2, I n3, I n4], AD.agg [I n5, I n6, I n7, I n8, I n9]] [AD.one (B false)] :=
  .of [Ans.br true] _ Try.func24 rfl (by kernel_rfl) h

theorem laws_eqRecord_p1 (n0 : Int) (n1 : Int) (n2 : Int) (n3 : Int) (n4 : Int) (n5 : Int) (n6 : Int) (n7 : Int) (n8 : Int) (n9 : Int) (b10 : Bool)
    (h : Obs [(n0 != n5) = false, Ret Try.prog 63 [AD.agg [I n1, I n2], AD.agg [I n6, I n7]] [AD.one (B b10)], (!b10) = true]) :
    Ret Try.prog 24 [AD.agg [I n0, I n1, I n2, I n3, I n4], AD.agg [I n5, I n6, I n7, I n8, I n9]] [AD.one (B false)] :=
  .of [Ans.br false, Ans.res [AD.one (B b10)], Ans.br true] _ Try.func24 rfl (by kernel_rfl) h

theorem laws_eqRecord_p2 (n0 : Int) (n1 : Int) (n2 : Int) (n3 : Int) (n4 : Int) (n5 : Int) (n6 : Int) (n7 : Int) (n8 : Int) (n9 : Int) (b10 : Bool)
    (h : Obs [(n0 != n5) = false, Ret Try.prog 63 [AD.agg [I n1, I n2], AD.agg [I n6, I n7]] [AD.one (B b10)], (!b10) = false, (n3 != n8) = true]) :
    Ret Try.prog 24 [AD.agg [I n0, I n1, I n2, I n3, I n4], AD.agg [I n5, I n6, I n7, I n8, I n9]] [AD.one (B false)] :=
  .of [Ans.br false, Ans.res [AD.one (B b10)], Ans.br false, Ans.br true] _ Try.func24 rfl (by kernel_rfl) h

theorem laws_eqRecord_p3 (n0 : Int) (n1 : Int) (n2 : Int) (n3 : Int) (n4 : Int) (n5 : Int) (n6 : Int) (n7 : Int) (n8 : Int) (n9 : Int) (b10 : Bool)
    (h : Obs [(n0 != n5) = false, Ret Try.prog 63 [AD.agg [I n1, I n2], AD.agg [I n6, I n7]] [AD.one (B b10)], (!b10) = false, (n3 != n8) = false, (n4 != n9) = true]) :
    Ret Try.prog 24 [AD.agg [I n0, I n1, I n2, I n3, I n4], AD.agg [I n5, I n6, I n7, I n8, I n9]] [AD.one (B false)] :=
  .of [Ans.br false, Ans.res [AD.one (B b10)], Ans.br false, Ans.br false, Ans.br true] _ Try.func24 rfl (by kernel_rfl) h

theorem laws_eqRecord_p4 (n0 : Int) (n1 : Int) (n2 : Int) (n3 : Int) (n4 : Int) (n5 : Int) (n6 : Int) (n7 : Int) (n8 : Int) (n9 : Int) (b10 : Bool)
    (h : Obs [(n0 != n5) = false, Ret Try.prog 63 [AD.agg [I n1, I n2], AD.agg [I n6, I n7]] [AD.one (B b10)], (!b10) = false, (n3 != n8) = false, (n4 != n9) = false]) :
    Ret Try.prog 24 [AD.agg [I n0, I n1, I n2, I n3, I n4], AD.agg [I n5, I n6, I n7, I n8, I n9]] [AD.one (B true)] :=
  .of [Ans.br false, Ans.res [AD.one (B b10)], Ans.br false, Ans.br false, Ans.br false] _ Try.func24 rfl (by kernel_rfl) h

/- loop.example/g00973/laws.eqRecordS -/

theorem laws_eqRecordS_p0 (l0 : List (List D)) (l1 : List (List D))
    (h : Obs [((↑l0.length : Int) != (↑l1.length : Int)) = true]) :
    Ret Try.prog 16 [AD.one (D.sl 5 l0), AD.one (D.sl 5 l1)] [AD.one (B false)] :=
  .of [Ans.br true] _ Try.func16 rfl (by kernel_rfl) h

def laws_eqRecordS_L0 (l0 : List (List D)) (l1 : List (List D)) (n2 : Int) : St :=
  { env := envOf 27 [(0, PV.al (AL.one (Leaf.sl Tag.free 5 l0))), (1, PV.al (AL.one (Leaf.sl Tag.free 5 l1))), (5, PV.al (AL.one (Leaf.v (Value.int IntKind.i64 n2))))], boxes := [] }

def laws_eqRecordS_X0 (b0 : Bool) : St :=
  { env := envOf 27 [(4, PV.al (AL.one (Leaf.sb b0)))], boxes := [] }

theorem laws_eqRecordS_L0_x0 (l0 : List (List D)) (l1 : List (List D)) (n2 : Int) (n3 : Int) (n4 : Int) (n5 : Int) (n6 : Int) (n7 : Int) (n8 : Int) (n9 : Int) (n10 : Int) (n11 : Int) (n12 : Int) (b13 : Bool)
    (h : Obs [decide (n2 < (↑l0.length : Int)) = true, 0 ≤ n2, n2 < (↑l0.length : Int), l0[n2.toNat]? = some [I n3, I n4, I n5, I n6, I n7], 0 ≤ n2, n2 < (↑l1.length : Int), l1[n2.toNat]? = some [I n8, I n9, I n10, I n11, I n12], Ret Try.prog 24 [AD.agg [I n3, I n4, I n5, I n6, I n7], AD.agg [I n8, I n9, I n10, I n11, I n12]] [AD.one (B b13)], (!b13) = true]) :
    Tr Try.prog (loopOf Try.f16 0) (laws_eqRecordS_L0 l0 l1 n2) Ex.ret (laws_eqRecordS_X0 false) :=
  .of_loopc (ks := [4]) (bs := []) (ans := [Ans.br true, Ans.el [I n3, I n4, I n5, I n6, I n7], Ans.el [I n8, I n9, I n10, I n11, I n12], Ans.res [AD.one (B b13)], Ans.br true]) (by kernel_rfl) h

theorem laws_eqRecordS_L0_s1 (l0 : List (List D)) (l1 : List (List D)) (n2 : Int) (n3 : Int) (n4 : Int) (n5 : Int) (n6 : Int) (n7 : Int) (n8 : Int) (n9 : Int) (n10 : Int) (n11 : Int) (n12 : Int) (b13 : Bool)
    (h : Obs [decide (n2 < (↑l0.length : Int)) = true, 0 ≤ n2, n2 < (↑l0.length : Int), l0[n2.toNat]? = some [I n3, I n4, I n5, I n6, I n7], 0 ≤ n2, n2 < (↑l1.length : Int), l1[n2.toNat]? = some [I n8, I n9, I n10, I n11, I n12], Ret Try.prog 24 [AD.agg [I n3, I n4, I n5, I n6, I n7], AD.agg [I n8, I n9, I n10, I n11, I n12]] [AD.one (B b13)], (!b13) = false, inInt IntKind.i64 (n2 + 1)]) :
    Tr Try.prog (loopOf Try.f16 0) (laws_eqRecordS_L0 l0 l1 n2) Ex.normal (laws_eqRecordS_L0 l0 l1 (n2 + 1)) :=
  .of_loopc (ks := [5, 0, 1]) (bs := []) (ans := [Ans.br true, Ans.el [I n3, I n4, I n5, I n6, I n7], Ans.el [I n8, I n9, I n10, I n11, I n12], Ans.res [AD.one (B b13)], Ans.br false]) (by kernel_rfl) h

def laws_eqRecordS_X0v2 : St :=
  { env := envOf 27 [], boxes := [] }

theorem laws_eqRecordS_L0_x2 (l0 : List (List D)) (l1 : List (List D)) (n2 : Int)
    (h : Obs [decide (n2 < (↑l0.length : Int)) = false]) :
    Tr Try.prog (loopOf Try.f16 0) (laws_eqRecordS_L0 l0 l1 n2) (Ex.exit 0) laws_eqRecordS_X0v2 :=
  .of_loopc (ks := []) (bs := []) (ans := [Ans.br false]) (by kernel_rfl) h

theorem laws_eqRecordS_p1 (l0 : List (List D)) (l1 : List (List D)) (b2 : Bool)
    (h : Obs [((↑l0.length : Int) != (↑l1.length : Int)) = false, LoopOk Try.prog (loopOf Try.f16 0) (laws_eqRecordS_L0 l0 l1 0) Ex.ret (laws_eqRecordS_X0 b2)]) :
    Ret Try.prog 16 [AD.one (D.sl 5 l0), AD.one (D.sl 5 l1)] [AD.one (B b2)] :=
  .of [Ans.br false, Ans.loop [] [5, 0, 1] [] Ex.ret (laws_eqRecordS_X0 b2)] _ Try.func16 rfl (by kernel_rfl) h

theorem laws_eqRecordS_p2 (l0 : List (List D)) (l1 : List (List D))
    (h : Obs [((↑l0.length : Int) != (↑l1.length : Int)) = false, LoopOk Try.prog (loopOf Try.f16 0) (laws_eqRecordS_L0 l0 l1 0) (Ex.exit 0) laws_eqRecordS_X0v2]) :
    Ret Try.prog 16 [AD.one (D.sl 5 l0), AD.one (D.sl 5 l1)] [AD.one (B true)] :=
  .of [Ans.br false, Ans.loop [] [5, 0, 1] [] (Ex.exit 0) laws_eqRecordS_X0v2] _ Try.func16 rfl (by kernel_rfl) h

/- loop.example/g00973/laws.eqCell -/

theorem laws_eqCell_p0 (n0 : Int) (n1 : Int) (n2 : Int) (n3 : Int) (n4 : Int) (n5 : Int) (n6 : Int) (n7 : Int)
    (h : Obs [(n0 != n4) = true]) :
    Ret Try.prog 77 [AD.agg [I n0, I n1, I n2, I n3], AD.agg [I n4, I n5, I n6, I n7]] [AD.one (B false)] :=
  .of [Ans.br true] _ Try.func77 rfl (by kernel_rfl) h

theorem laws_eqCell_p1 (n0 : Int) (n1 : Int) (n2 : Int) (n3 : Int) (n4 : Int) (n5 : Int) (n6 : Int) (n7 : Int)
    (h : Obs [(n0 != n4) = false, (n1 != n5) = true]) :
    Ret Try.prog 77 [AD.agg [I n0, I n1, I n2, I n3], AD.agg [I n4, I n5, I n6, I n7]] [AD.one (B false)] :=
  .of [Ans.br false, Ans.br true] _ Try.func77 rfl (by kernel_rfl) h

theorem laws_eqCell_p2 (n0 : Int) (n1 : Int) (n2 : Int) (n3 : Int) (n4 : Int) (n5 : Int) (n6 : Int) (n7 : Int)
    (h : Obs [(n0 != n4) = false, (n1 != n5) = false, (n2 != n6) = true]) :
    Ret Try.prog 77 [AD.agg [I n0, I n1, I n2, I n3], AD.agg [I n4, I n5, I n6, I n7]] [AD.one (B false)] :=
  .of [Ans.br false, Ans.br false, Ans.br true] _ Try.func77 rfl (by kernel_rfl) h

theorem laws_eqCell_p3 (n0 : Int) (n1 : Int) (n2 : Int) (n3 : Int) (n4 : Int) (n5 : Int) (n6 : Int) (n7 : Int)
    (h : Obs [(n0 != n4) = false, (n1 != n5) = false, (n2 != n6) = false, (n3 != n7) = true]) :
    Ret Try.prog 77 [AD.agg [I n0, I n1, I n2, I n3], AD.agg [I n4, I n5, I n6, I n7]] [AD.one (B false)] :=
  .of [Ans.br false, Ans.br false, Ans.br false, Ans.br true] _ Try.func77 rfl (by kernel_rfl) h

theorem laws_eqCell_p4 (n0 : Int) (n1 : Int) (n2 : Int) (n3 : Int) (n4 : Int) (n5 : Int) (n6 : Int) (n7 : Int)
    (h : Obs [(n0 != n4) = false, (n1 != n5) = false, (n2 != n6) = false, (n3 != n7) = false]) :
    Ret Try.prog 77 [AD.agg [I n0, I n1, I n2, I n3], AD.agg [I n4, I n5, I n6, I n7]] [AD.one (B true)] :=
  .of [Ans.br false, Ans.br false, Ans.br false, Ans.br false] _ Try.func77 rfl (by kernel_rfl) h

/- loop.example/g00973/laws.eqCellS -/

theorem laws_eqCellS_p0 (l0 : List (List D)) (l1 : List (List D))
    (h : Obs [((↑l0.length : Int) != (↑l1.length : Int)) = true]) :
    Ret Try.prog 34 [AD.one (D.sl 4 l0), AD.one (D.sl 4 l1)] [AD.one (B false)] :=
  .of [Ans.br true] _ Try.func34 rfl (by kernel_rfl) h

def laws_eqCellS_L0 (l0 : List (List D)) (l1 : List (List D)) (n2 : Int) : St :=
  { env := envOf 27 [(0, PV.al (AL.one (Leaf.sl Tag.free 4 l0))), (1, PV.al (AL.one (Leaf.sl Tag.free 4 l1))), (5, PV.al (AL.one (Leaf.v (Value.int IntKind.i64 n2))))], boxes := [] }

def laws_eqCellS_X0 (b0 : Bool) : St :=
  { env := envOf 27 [(4, PV.al (AL.one (Leaf.sb b0)))], boxes := [] }

theorem laws_eqCellS_L0_x0 (l0 : List (List D)) (l1 : List (List D)) (n2 : Int) (n3 : Int) (n4 : Int) (n5 : Int) (n6 : Int) (n7 : Int) (n8 : Int) (n9 : Int) (n10 : Int) (b11 : Bool)
    (h : Obs [decide (n2 < (↑l0.length : Int)) = true, 0 ≤ n2, n2 < (↑l0.length : Int), l0[n2.toNat]? = some [I n3, I n4, I n5, I n6], 0 ≤ n2, n2 < (↑l1.length : Int), l1[n2.toNat]? = some [I n7, I n8, I n9, I n10], Ret Try.prog 77 [AD.agg [I n3, I n4, I n5, I n6], AD.agg [I n7, I n8, I n9, I n10]] [AD.one (B b11)], (!b11) = true]) :
    Tr Try.prog (loopOf Try.f34 0) (laws_eqCellS_L0 l0 l1 n2) Ex.ret (laws_eqCellS_X0 false) :=
  .of_loopc (ks := [4]) (bs := []) (ans := [Ans.br true, Ans.el [I n3, I n4, I n5, I n6], Ans.el [I n7, I n8, I n9, I n10], Ans.res [AD.one (B b11)], Ans.br true]) (by kernel_rfl) h

theorem laws_eqCellS_L0_s1 (l0 : List (List D)) (l1 : List (List D)) (n2 : Int) (n3 : Int) (n4 : Int) (n5 : Int) (n6 : Int) (n7 : Int) (n8 : Int) (n9 : Int) (n10 : Int) (b11 : Bool)
    (h : Obs [decide (n2 < (↑l0.length : Int)) = true, 0 ≤ n2, n2 < (↑l0.length : Int), l0[n2.toNat]? = some [I n3, I n4, I n5, I n6], 0 ≤ n2, n2 < (↑l1.length : Int), l1[n2.toNat]? = some [I n7, I n8, I n9, I n10], Ret Try.prog 77 [AD.agg [I n3, I n4, I n5, I n6], AD.agg [I n7, I n8, I n9, I n10]] [AD.one (B b11)], (!b11) = false, inInt IntKind.i64 (n2 + 1)]) :
    Tr Try.prog (loopOf Try.f34 0) (laws_eqCellS_L0 l0 l1 n2) Ex.normal (laws_eqCellS_L0 l0 l1 (n2 + 1)) :=
  .of_loopc (ks := [5, 0, 1]) (bs := []) (ans := [Ans.br true, Ans.el [I n3, I n4, I n5, I n6], Ans.el [I n7, I n8, I n9, I n10], Ans.res [AD.one (B b11)], Ans.br false]) (by kernel_rfl) h

def laws_eqCellS_X0v2 : St :=
  { env := envOf 27 [], boxes := [] }

theorem laws_eqCellS_L0_x2 (l0 : List (List D)) (l1 : List (List D)) (n2 : Int)
    (h : Obs [decide (n2 < (↑l0.length : Int)) = false]) :
    Tr Try.prog (loopOf Try.f34 0) (laws_eqCellS_L0 l0 l1 n2) (Ex.exit 0) laws_eqCellS_X0v2 :=
  .of_loopc (ks := []) (bs := []) (ans := [Ans.br false]) (by kernel_rfl) h

theorem laws_eqCellS_p1 (l0 : List (List D)) (l1 : List (List D)) (b2 : Bool)
    (h : Obs [((↑l0.length : Int) != (↑l1.length : Int)) = false, LoopOk Try.prog (loopOf Try.f34 0) (laws_eqCellS_L0 l0 l1 0) Ex.ret (laws_eqCellS_X0 b2)]) :
    Ret Try.prog 34 [AD.one (D.sl 4 l0), AD.one (D.sl 4 l1)] [AD.one (B b2)] :=
  .of [Ans.br false, Ans.loop [] [5, 0, 1] [] Ex.ret (laws_eqCellS_X0 b2)] _ Try.func34 rfl (by kernel_rfl) h

theorem laws_eqCellS_p2 (l0 : List (List D)) (l1 : List (List D))
    (h : Obs [((↑l0.length : Int) != (↑l1.length : Int)) = false, LoopOk Try.prog (loopOf Try.f34 0) (laws_eqCellS_L0 l0 l1 0) (Ex.exit 0) laws_eqCellS_X0v2]) :
    Ret Try.prog 34 [AD.one (D.sl 4 l0), AD.one (D.sl 4 l1)] [AD.one (B true)] :=
  .of [Ans.br false, Ans.loop [] [5, 0, 1] [] (Ex.exit 0) laws_eqCellS_X0v2] _ Try.func34 rfl (by kernel_rfl) h

/- loop.example/g00973/laws.eqIntS -/

theorem laws_eqIntS_p0 (l0 : List (List D)) (l1 : List (List D))
    (h : Obs [((↑l0.length : Int) != (↑l1.length : Int)) = true]) :
    Ret Try.prog 127 [AD.one (D.sl 1 l0), AD.one (D.sl 1 l1)] [AD.one (B false)] :=
  .of [Ans.br true] _ Try.func127 rfl (by kernel_rfl) h

def laws_eqIntS_L0 (l0 : List (List D)) (l1 : List (List D)) (n2 : Int) : St :=
  { env := envOf 26 [(0, PV.al (AL.one (Leaf.sl Tag.free 1 l0))), (1, PV.al (AL.one (Leaf.sl Tag.free 1 l1))), (5, PV.al (AL.one (Leaf.v (Value.int IntKind.i64 n2))))], boxes := [] }

def laws_eqIntS_X0 (b0 : Bool) : St :=
  { env := envOf 26 [(4, PV.al (AL.one (Leaf.sb b0)))], boxes := [] }

theorem laws_eqIntS_L0_x0 (l0 : List (List D)) (l1 : List (List D)) (n2 : Int) (n3 : Int) (n4 : Int)
    (h : Obs [decide (n2 < (↑l0.length : Int)) = true, 0 ≤ n2, n2 < (↑l0.length : Int), l0[n2.toNat]? = some [I n3], 0 ≤ n2, n2 < (↑l1.length : Int), l1[n2.toNat]? = some [I n4], (n3 != n4) = true]) :
    Tr Try.prog (loopOf Try.f127 0) (laws_eqIntS_L0 l0 l1 n2) Ex.ret (laws_eqIntS_X0 false) :=
  .of_loopc (ks := [4]) (bs := []) (ans := [Ans.br true, Ans.el [I n3], Ans.el [I n4], Ans.br true]) (by kernel_rfl) h

theorem laws_eqIntS_L0_s1 (l0 : List (List D)) (l1 : List (List D)) (n2 : Int) (n3 : Int) (n4 : Int)
    (h : Obs [decide (n2 < (↑l0.length : Int)) = true, 0 ≤ n2, n2 < (↑l0.length : Int), l0[n2.toNat]? = some [I n3], 0 ≤ n2, n2 < (↑l1.length : Int), l1[n2.toNat]? = some [I n4], (n3 != n4) = false, inInt IntKind.i64 (n2 + 1)]) :
    Tr Try.prog (loopOf Try.f127 0) (laws_eqIntS_L0 l0 l1 n2) Ex.normal (laws_eqIntS_L0 l0 l1 (n2 + 1)) :=
  .of_loopc (ks := [5, 0, 1]) (bs := []) (ans := [Ans.br true, Ans.el [I n3], Ans.el [I n4], Ans.br false]) (by kernel_rfl) h

def laws_eqIntS_X0v2 : St :=
  { env := envOf 26 [], boxes := [] }

theorem laws_eqIntS_L0_x2 (l0 : List (List D)) (l1 : List (List D)) (n2 : Int)
    (h : Obs [decide (n2 < (↑l0.length : Int)) = false]) :
    Tr Try.prog (loopOf Try.f127 0) (laws_eqIntS_L0 l0 l1 n2) (Ex.exit 0) laws_eqIntS_X0v2 :=
  .of_loopc (ks := []) (bs := []) (ans := [Ans.br false]) (by kernel_rfl) h

theorem laws_eqIntS_p1 (l0 : List (List D)) (l1 : List (List D)) (b2 : Bool)
    (h : Obs [((↑l0.length : Int) != (↑l1.length : Int)) = false, LoopOk Try.prog (loopOf Try.f127 0) (laws_eqIntS_L0 l0 l1 0) Ex.ret (laws_eqIntS_X0 b2)]) :
    Ret Try.prog 127 [AD.one (D.sl 1 l0), AD.one (D.sl 1 l1)] [AD.one (B b2)] :=
  .of [Ans.br false, Ans.loop [] [5, 0, 1] [] Ex.ret (laws_eqIntS_X0 b2)] _ Try.func127 rfl (by kernel_rfl) h

theorem laws_eqIntS_p2 (l0 : List (List D)) (l1 : List (List D))
    (h : Obs [((↑l0.length : Int) != (↑l1.length : Int)) = false, LoopOk Try.prog (loopOf Try.f127 0) (laws_eqIntS_L0 l0 l1 0) (Ex.exit 0) laws_eqIntS_X0v2]) :
    Ret Try.prog 127 [AD.one (D.sl 1 l0), AD.one (D.sl 1 l1)] [AD.one (B true)] :=
  .of [Ans.br false, Ans.loop [] [5, 0, 1] [] (Ex.exit 0) laws_eqIntS_X0v2] _ Try.func127 rfl (by kernel_rfl) h

/- loop.example/g00973/laws.eqBoolS -/

/- loop.example/g00973/laws.eqDone -/

/- loop.example/g00973/laws.eqDoneS -/

/- loop.example/g00973/laws.eqToken -/

/- loop.example/g00973/laws.eqTokenS -/

/- loop.example/g00973/laws.eqNews -/

/- loop.example/g00973/laws.eqNewsS -/

/- loop.example/g00973/laws.eqNode -/

theorem laws_eqNode_p0 (n0 : Int) (n1 : Int) (n2 : Int) (l3 : List (List D)) (n4 : Int) (n5 : Int) (n6 : Int) (l7 : List (List D))
    (h : Obs [(n0 != n4) = true]) :
    Ret Try.prog 114 [AD.agg [I n0, I n1, I n2, D.sl 1 l3], AD.agg [I n4, I n5, I n6, D.sl 1 l7]] [AD.one (B false)] :=
  .of [Ans.br true] _ Try.func114 rfl (by kernel_rfl) h

theorem laws_eqNode_p1 (n0 : Int) (n1 : Int) (n2 : Int) (l3 : List (List D)) (n4 : Int) (n5 : Int) (n6 : Int) (l7 : List (List D))
    (h : Obs [(n0 != n4) = false, (n1 != n5) = true]) :
    Ret Try.prog 114 [AD.agg [I n0, I n1, I n2, D.sl 1 l3], AD.agg [I n4, I n5, I n6, D.sl 1 l7]] [AD.one (B false)] :=
  .of [Ans.br false, Ans.br true] _ Try.func114 rfl (by kernel_rfl) h

theorem laws_eqNode_p2 (n0 : Int) (n1 : Int) (n2 : Int) (l3 : List (List D)) (n4 : Int) (n5 : Int) (n6 : Int) (l7 : List (List D))
    (h : Obs [(n0 != n4) = false, (n1 != n5) = false, (n2 != n6) = true]) :
    Ret Try.prog 114 [AD.agg [I n0, I n1, I n2, D.sl 1 l3], AD.agg [I n4, I n5, I n6, D.sl 1 l7]] [AD.one (B false)] :=
  .of [Ans.br false, Ans.br false, Ans.br true] _ Try.func114 rfl (by kernel_rfl) h

theorem laws_eqNode_p3 (n0 : Int) (n1 : Int) (n2 : Int) (l3 : List (List D)) (n4 : Int) (n5 : Int) (n6 : Int) (l7 : List (List D)) (b8 : Bool)
    (h : Obs [(n0 != n4) = false, (n1 != n5) = false, (n2 != n6) = false, Ret Try.prog 127 [AD.one (D.sl 1 l3), AD.one (D.sl 1 l7)] [AD.one (B b8)], (!b8) = true]) :
    Ret Try.prog 114 [AD.agg [I n0, I n1, I n2, D.sl 1 l3], AD.agg [I n4, I n5, I n6, D.sl 1 l7]] [AD.one (B false)] :=
  .of [Ans.br false, Ans.br false, Ans.br false, Ans.res [AD.one (B b8)], Ans.br true] _ Try.func114 rfl (by kernel_rfl) h

theorem laws_eqNode_p4 (n0 : Int) (n1 : Int) (n2 : Int) (l3 : List (List D)) (n4 : Int) (n5 : Int) (n6 : Int) (l7 : List (List D)) (b8 : Bool)
    (h : Obs [(n0 != n4) = false, (n1 != n5) = false, (n2 != n6) = false, Ret Try.prog 127 [AD.one (D.sl 1 l3), AD.one (D.sl 1 l7)] [AD.one (B b8)], (!b8) = false]) :
    Ret Try.prog 114 [AD.agg [I n0, I n1, I n2, D.sl 1 l3], AD.agg [I n4, I n5, I n6, D.sl 1 l7]] [AD.one (B true)] :=
  .of [Ans.br false, Ans.br false, Ans.br false, Ans.res [AD.one (B b8)], Ans.br false] _ Try.func114 rfl (by kernel_rfl) h

/- loop.example/g00973/laws.eqNodeS -/

theorem laws_eqNodeS_p0 (l0 : List (List D)) (l1 : List (List D))
    (h : Obs [((↑l0.length : Int) != (↑l1.length : Int)) = true]) :
    Ret Try.prog 83 [AD.one (D.sl 4 l0), AD.one (D.sl 4 l1)] [AD.one (B false)] :=
  .of [Ans.br true] _ Try.func83 rfl (by kernel_rfl) h

def laws_eqNodeS_L0 (l0 : List (List D)) (l1 : List (List D)) (n2 : Int) : St :=
  { env := envOf 27 [(0, PV.al (AL.one (Leaf.sl Tag.free 4 l0))), (1, PV.al (AL.one (Leaf.sl Tag.free 4 l1))), (5, PV.al (AL.one (Leaf.v (Value.int IntKind.i64 n2))))], boxes := [] }

def laws_eqNodeS_X0 (b0 : Bool) : St :=
  { env := envOf 27 [(4, PV.al (AL.one (Leaf.sb b0)))], boxes := [] }

theorem laws_eqNodeS_L0_x0 (l0 : List (List D)) (l1 : List (List D)) (n2 : Int) (n3 : Int) (n4 : Int) (n5 : Int) (l6 : List (List D)) (n7 : Int) (n8 : Int) (n9 : Int) (l10 : List (List D)) (b11 : Bool)
    (h : Obs [decide (n2 < (↑l0.length : Int)) = true, 0 ≤ n2, n2 < (↑l0.length : Int), l0[n2.toNat]? = some [I n3, I n4, I n5, D.sl 1 l6], 0 ≤ n2, n2 < (↑l1.length : Int), l1[n2.toNat]? = some [I n7, I n8, I n9, D.sl 1 l10], Ret Try.prog 114 [AD.agg [I n3, I n4, I n5, D.sl 1 l6], AD.agg [I n7, I n8, I n9, D.sl 1 l10]] [AD.one (B b11)], (!b11) = true]) :
    Tr Try.prog (loopOf Try.f83 0) (laws_eqNodeS_L0 l0 l1 n2) Ex.ret (laws_eqNodeS_X0 false) :=
  .of_loopc (ks := [4]) (bs := []) (ans := [Ans.br true, Ans.el [I n3, I n4, I n5, D.sl 1 l6], Ans.el [I n7, I n8, I n9, D.sl 1 l10], Ans.res [AD.one (B b11)], Ans.br true]) (by kernel_rfl) h

theorem laws_eqNodeS_L0_s1 (l0 : List (List D)) (l1 : List (List D)) (n2 : Int) (n3 : Int) (n4 : Int) (n5 : Int) (l6 : List (List D)) (n7 : Int) (n8 : Int) (n9 : Int) (l10 : List (List D)) (b11 : Bool)
    (h : Obs [decide (n2 < (↑l0.length : Int)) = true, 0 ≤ n2, n2 < (↑l0.length : Int), l0[n2.toNat]? = some [I n3, I n4, I n5, D.sl 1 l6], 0 ≤ n2, n2 < (↑l1.length : Int), l1[n2.toNat]? = some [I n7, I n8, I n9, D.sl 1 l10], Ret Try.prog 114 [AD.agg [I n3, I n4, I n5, D.sl 1 l6], AD.agg [I n7, I n8, I n9, D.sl 1 l10]] [AD.one (B b11)], (!b11) = false, inInt IntKind.i64 (n2 + 1)]) :
    Tr Try.prog (loopOf Try.f83 0) (laws_eqNodeS_L0 l0 l1 n2) Ex.normal (laws_eqNodeS_L0 l0 l1 (n2 + 1)) :=
  .of_loopc (ks := [5, 0, 1]) (bs := []) (ans := [Ans.br true, Ans.el [I n3, I n4, I n5, D.sl 1 l6], Ans.el [I n7, I n8, I n9, D.sl 1 l10], Ans.res [AD.one (B b11)], Ans.br false]) (by kernel_rfl) h

def laws_eqNodeS_X0v2 : St :=
  { env := envOf 27 [], boxes := [] }

theorem laws_eqNodeS_L0_x2 (l0 : List (List D)) (l1 : List (List D)) (n2 : Int)
    (h : Obs [decide (n2 < (↑l0.length : Int)) = false]) :
    Tr Try.prog (loopOf Try.f83 0) (laws_eqNodeS_L0 l0 l1 n2) (Ex.exit 0) laws_eqNodeS_X0v2 :=
  .of_loopc (ks := []) (bs := []) (ans := [Ans.br false]) (by kernel_rfl) h

theorem laws_eqNodeS_p1 (l0 : List (List D)) (l1 : List (List D)) (b2 : Bool)
    (h : Obs [((↑l0.length : Int) != (↑l1.length : Int)) = false, LoopOk Try.prog (loopOf Try.f83 0) (laws_eqNodeS_L0 l0 l1 0) Ex.ret (laws_eqNodeS_X0 b2)]) :
    Ret Try.prog 83 [AD.one (D.sl 4 l0), AD.one (D.sl 4 l1)] [AD.one (B b2)] :=
  .of [Ans.br false, Ans.loop [] [5, 0, 1] [] Ex.ret (laws_eqNodeS_X0 b2)] _ Try.func83 rfl (by kernel_rfl) h

theorem laws_eqNodeS_p2 (l0 : List (List D)) (l1 : List (List D))
    (h : Obs [((↑l0.length : Int) != (↑l1.length : Int)) = false, LoopOk Try.prog (loopOf Try.f83 0) (laws_eqNodeS_L0 l0 l1 0) (Ex.exit 0) laws_eqNodeS_X0v2]) :
    Ret Try.prog 83 [AD.one (D.sl 4 l0), AD.one (D.sl 4 l1)] [AD.one (B true)] :=
  .of [Ans.br false, Ans.loop [] [5, 0, 1] [] (Ex.exit 0) laws_eqNodeS_X0v2] _ Try.func83 rfl (by kernel_rfl) h

/- loop.example/g00973/laws.eqLink -/

/- loop.example/g00973/laws.eqLinkS -/

/- loop.example/g00973/laws.eqGraph -/

theorem laws_eqGraph_p0 (l0 : List (List D)) (n1 : Int) (n2 : Int) (l3 : List (List D)) (n4 : Int) (n5 : Int) (b6 : Bool)
    (h : Obs [Ret Try.prog 83 [AD.one (D.sl 4 l0), AD.one (D.sl 4 l3)] [AD.one (B b6)], (!b6) = true]) :
    Ret Try.prog 43 [AD.agg [D.sl 4 l0, I n1, I n2], AD.agg [D.sl 4 l3, I n4, I n5]] [AD.one (B false)] :=
  .of [Ans.res [AD.one (B b6)], Ans.br true] _ Try.func43 rfl (by kernel_rfl) h

theorem laws_eqGraph_p1 (l0 : List (List D)) (n1 : Int) (n2 : Int) (l3 : List (List D)) (n4 : Int) (n5 : Int) (b6 : Bool)
    (h : Obs [Ret Try.prog 83 [AD.one (D.sl 4 l0), AD.one (D.sl 4 l3)] [AD.one (B b6)], (!b6) = false, (n1 != n4) = true]) :
    Ret Try.prog 43 [AD.agg [D.sl 4 l0, I n1, I n2], AD.agg [D.sl 4 l3, I n4, I n5]] [AD.one (B false)] :=
  .of [Ans.res [AD.one (B b6)], Ans.br false, Ans.br true] _ Try.func43 rfl (by kernel_rfl) h

theorem laws_eqGraph_p2 (l0 : List (List D)) (n1 : Int) (n2 : Int) (l3 : List (List D)) (n4 : Int) (n5 : Int) (b6 : Bool)
    (h : Obs [Ret Try.prog 83 [AD.one (D.sl 4 l0), AD.one (D.sl 4 l3)] [AD.one (B b6)], (!b6) = false, (n1 != n4) = false, (n2 != n5) = true]) :
    Ret Try.prog 43 [AD.agg [D.sl 4 l0, I n1, I n2], AD.agg [D.sl 4 l3, I n4, I n5]] [AD.one (B false)] :=
  .of [Ans.res [AD.one (B b6)], Ans.br false, Ans.br false, Ans.br true] _ Try.func43 rfl (by kernel_rfl) h

theorem laws_eqGraph_p3 (l0 : List (List D)) (n1 : Int) (n2 : Int) (l3 : List (List D)) (n4 : Int) (n5 : Int) (b6 : Bool)
    (h : Obs [Ret Try.prog 83 [AD.one (D.sl 4 l0), AD.one (D.sl 4 l3)] [AD.one (B b6)], (!b6) = false, (n1 != n4) = false, (n2 != n5) = false]) :
    Ret Try.prog 43 [AD.agg [D.sl 4 l0, I n1, I n2], AD.agg [D.sl 4 l3, I n4, I n5]] [AD.one (B true)] :=
  .of [Ans.res [AD.one (B b6)], Ans.br false, Ans.br false, Ans.br false] _ Try.func43 rfl (by kernel_rfl) h

/- loop.example/g00973/laws.eqWorker -/

/- loop.example/g00973/laws.eqWorkerS -/

/- loop.example/g00973/laws.eqCluster -/

/- loop.example/g00973/laws.eqPick -/

/- loop.example/g00973/laws.eqPickS -/

end Go.Proofs.Ytbbjajmimckabaa
