import Derived.Test.YtbbjajmimckabaaGreatRows
import Derived.Test.YtbbjajmimckabaaGreatR23
set_option linter.unusedVariables false
set_option linter.unusedSimpArgs false
namespace Go.Proofs.YtbbjajmimckabaaGreat
open Go.Sx Go.RowKit

/- loop.example/g00973/laws.eqStamp -/

theorem laws_eqStamp_p0 (n0 : Int) (n1 : Int) (n2 : Int) (n3 : Int)
    (h : Obs [(n0 != n2) = true]) :
    Ret Tryz.prog 52 [AD.agg [I n0, I n1], AD.agg [I n2, I n3]] [AD.one (B false)] :=
  .of [Ans.br true] _ Tryz.func52 rfl (by kernel_rfl) h

theorem laws_eqStamp_p1 (n0 : Int) (n1 : Int) (n2 : Int) (n3 : Int)
    (h : Obs [(n0 != n2) = false, (n1 != n3) = true]) :
    Ret Tryz.prog 52 [AD.agg [I n0, I n1], AD.agg [I n2, I n3]] [AD.one (B false)] :=
  .of [Ans.br false, Ans.br true] _ Tryz.func52 rfl (by kernel_rfl) h

theorem laws_eqStamp_p2 (n0 : Int) (n1 : Int) (n2 : Int) (n3 : Int)
    (h : Obs [(n0 != n2) = false, (n1 != n3) = false]) :
    Ret Tryz.prog 52 [AD.agg [I n0, I n1], AD.agg [I n2, I n3]] [AD.one (B true)] :=
  .of [Ans.br false, Ans.br false] _ Tryz.func52 rfl (by kernel_rfl) h

/- loop.example/g00973/laws.eqStampS -/

theorem laws_eqStampS_p0 (l0 : List (List D)) (l1 : List (List D))
    (h : Obs [((↑l0.length : Int) != (↑l1.length : Int)) = true]) :
    Ret Tryz.prog 20 [AD.one (D.sl 2 l0), AD.one (D.sl 2 l1)] [AD.one (B false)] :=
  .of [Ans.br true] _ Tryz.func20 rfl (by kernel_rfl) h

def laws_eqStampS_L0 (l0 : List (List D)) (l1 : List (List D)) (n2 : Int) : St :=
  { env := envOf 27 [(0, PV.al (AL.one (Leaf.sl Tag.free 2 l0))), (1, PV.al (AL.one (Leaf.sl Tag.free 2 l1))), (5, PV.al (AL.one (Leaf.v (Value.int IntKind.i64 n2))))], boxes := [] }

def laws_eqStampS_X0 (b0 : Bool) : St :=
  { env := envOf 27 [(4, PV.al (AL.one (Leaf.sb b0)))], boxes := [] }

theorem laws_eqStampS_L0_x0 (l0 : List (List D)) (l1 : List (List D)) (n2 : Int) (n3 : Int) (n4 : Int) (n5 : Int) (n6 : Int) (b7 : Bool)
    (h : Obs [decide (n2 < (↑l0.length : Int)) = true, 0 ≤ n2, n2 < (↑l0.length : Int), l0[n2.toNat]? = some [I n3, I n4], 0 ≤ n2, n2 < (↑l1.length : Int), l1[n2.toNat]? = some [I n5, I n6], Ret Tryz.prog 52 [AD.agg [I n3, I n4], AD.agg [I n5, I n6]] [AD.one (B b7)], (!b7) = true]) :
    Tr Tryz.prog (loopOf Tryz.f20 0) (laws_eqStampS_L0 l0 l1 n2) Ex.ret (laws_eqStampS_X0 false) :=
  .of_loopc (ks := [4]) (bs := []) (ans := [Ans.br true, Ans.el [I n3, I n4], Ans.el [I n5, I n6], Ans.res [AD.one (B b7)], Ans.br true]) (by kernel_rfl) h

theorem laws_eqStampS_L0_s1 (l0 : List (List D)) (l1 : List (List D)) (n2 : Int) (n3 : Int) (n4 : Int) (n5 : Int) (n6 : Int) (b7 : Bool)
    (h : Obs [decide (n2 < (↑l0.length : Int)) = true, 0 ≤ n2, n2 < (↑l0.length : Int), l0[n2.toNat]? = some [I n3, I n4], 0 ≤ n2, n2 < (↑l1.length : Int), l1[n2.toNat]? = some [I n5, I n6], Ret Tryz.prog 52 [AD.agg [I n3, I n4], AD.agg [I n5, I n6]] [AD.one (B b7)], (!b7) = false, inInt IntKind.i64 (n2 + 1)]) :
    Tr Tryz.prog (loopOf Tryz.f20 0) (laws_eqStampS_L0 l0 l1 n2) Ex.normal (laws_eqStampS_L0 l0 l1 (n2 + 1)) :=
  .of_loopc (ks := [5, 0, 1]) (bs := []) (ans := [Ans.br true, Ans.el [I n3, I n4], Ans.el [I n5, I n6], Ans.res [AD.one (B b7)], Ans.br false]) (by kernel_rfl) h

def laws_eqStampS_X0v2 : St :=
  { env := envOf 27 [], boxes := [] }

theorem laws_eqStampS_L0_x2 (l0 : List (List D)) (l1 : List (List D)) (n2 : Int)
    (h : Obs [decide (n2 < (↑l0.length : Int)) = false]) :
    Tr Tryz.prog (loopOf Tryz.f20 0) (laws_eqStampS_L0 l0 l1 n2) (Ex.exit 0) laws_eqStampS_X0v2 :=
  .of_loopc (ks := []) (bs := []) (ans := [Ans.br false]) (by kernel_rfl) h

theorem laws_eqStampS_p1 (l0 : List (List D)) (l1 : List (List D)) (b2 : Bool)
    (h : Obs [((↑l0.length : Int) != (↑l1.length : Int)) = false, LoopOk Tryz.prog (loopOf Tryz.f20 0) (laws_eqStampS_L0 l0 l1 0) Ex.ret (laws_eqStampS_X0 b2)]) :
    Ret Tryz.prog 20 [AD.one (D.sl 2 l0), AD.one (D.sl 2 l1)] [AD.one (B b2)] :=
  .of [Ans.br false, Ans.loop [] [5, 0, 1] [] Ex.ret (laws_eqStampS_X0 b2)] _ Tryz.func20 rfl (by kernel_rfl) h

theorem laws_eqStampS_p2 (l0 : List (List D)) (l1 : List (List D))
    (h : Obs [((↑l0.length : Int) != (↑l1.length : Int)) = false, LoopOk Tryz.prog (loopOf Tryz.f20 0) (laws_eqStampS_L0 l0 l1 0) (Ex.exit 0) laws_eqStampS_X0v2]) :
    Ret Tryz.prog 20 [AD.one (D.sl 2 l0), AD.one (D.sl 2 l1)] [AD.one (B true)] :=
  .of [Ans.br false, Ans.loop [] [5, 0, 1] [] (Ex.exit 0) laws_eqStampS_X0v2] _ Tryz.func20 rfl (by kernel_rfl) h

/- loop.example/g00973/laws.eqRecord -/

theorem laws_eqRecord_p0 (n0 : Int) (n1 : Int) (n2 : Int) (n3 : Int) (n4 : Int) (n5 : Int) (n6 : Int) (n7 : Int) (n8 : Int) (n9 : Int)
    (h : Obs [(n0 != n5) = true]) :
    Ret Tryz.prog 37 [AD.agg [I n0, I n1, I n2, I n3, I n4], AD.agg [I n5, I n6, I n7, I n8, I n9]] [AD.one (B false)] :=
  .of [Ans.br true] _ Tryz.func37 rfl (by kernel_rfl) h

theorem laws_eqRecord_p1 (n0 : Int) (n1 : Int) (n2 : Int) (n3 : Int) (n4 : Int) (n5 : Int) (n6 : Int) (n7 : Int) (n8 : Int) (n9 : Int) (b10 : Bool)
    (h : Obs [(n0 != n5) = false, Ret Tryz.prog 52 [AD.agg [I n1, I n2], AD.agg [I n6, I n7]] [AD.one (B b10)], (!b10) = true]) :
    Ret Tryz.prog 37 [AD.agg [I n0, I n1, I n2, I n3, I n4], AD.agg [I n5, I n6, I n7, I n8, I n9]] [AD.one (B false)] :=
  .of [Ans.br false, Ans.res [AD.one (B b10)], Ans.br true] _ Tryz.func37 rfl (by kernel_rfl) h

theorem laws_eqRecord_p2 (n0 : Int) (n1 : Int) (n2 : Int) (n3 : Int) (n4 : Int) (n5 : Int) (n6 : Int) (n7 : Int) (n8 : Int) (n9 : Int) (b10 : Bool)
    (h : Obs [(n0 != n5) = false, Ret Tryz.prog 52 [AD.agg [I n1, I n2], AD.agg [I n6, I n7]] [AD.one (B b10)], (!b10) = false, (n3 != n8) = true]) :
    Ret Tryz.prog 37 [AD.agg [I n0, I n1, I n2, I n3, I n4], AD.agg [I n5, I n6, I n7, I n8, I n9]] [AD.one (B false)] :=
  .of [Ans.br false, Ans.res [AD.one (B b10)], Ans.br false, Ans.br true] _ Tryz.func37 rfl (by kernel_rfl) h

theorem laws_eqRecord_p3 (n0 : Int) (n1 : Int) (n2 : Int) (n3 : Int) (n4 : Int) (n5 : Int) (n6 : Int) (n7 : Int) (n8 : Int) (n9 : Int) (b10 : Bool)
    (h : Obs [(n0 != n5) = false, Ret Tryz.prog 52 [AD.agg [I n1, I n2], AD.agg [I n6, I n7]] [AD.one (B b10)], (!b10) = false, (n3 != n8) = false, (n4 != n9) = true]) :
    Ret Tryz.prog 37 [AD.agg [I n0, I n1, I n2, I n3, I n4], AD.agg [I n5, I n6, I n7, I n8, I n9]] [AD.one (B false)] :=
  .of [Ans.br false, Ans.res [AD.one (B b10)], Ans.br false, Ans.br false, Ans.br true] _ Tryz.func37 rfl (by kernel_rfl) h

theorem laws_eqRecord_p4 (n0 : Int) (n1 : Int) (n2 : Int) (n3 : Int) (n4 : Int) (n5 : Int) (n6 : Int) (n7 : Int) (n8 : Int) (n9 : Int) (b10 : Bool)
    (h : Obs [(n0 != n5) = false, Ret Tryz.prog 52 [AD.agg [I n1, I n2], AD.agg [I n6, I n7]] [AD.one (B b10)], (!b10) = false, (n3 != n8) = false, (n4 != n9) = false]) :
    Ret Tryz.prog 37 [AD.agg [I n0, I n1, I n2, I n3, I n4], AD.agg [I n5, I n6, I n7, I n8, I n9]] [AD.one (B true)] :=
  .of [Ans.br false, Ans.res [AD.one (B b10)], Ans.br false, Ans.br false, Ans.br false] _ Tryz.func37 rfl (by kernel_rfl) h

/- loop.example/g00973/laws.eqRecordS -/

theorem laws_eqRecordS_p0 (l0 : List (List D)) (l1 : List (List D))
    (h : Obs [((↑l0.length : Int) != (↑l1.length : Int)) = true]) :
    Ret Tryz.prog 11 [AD.one (D.sl 5 l0), AD.one (D.sl 5 l1)] [AD.one (B false)] :=
  .of [Ans.br true] _ Tryz.func11 rfl (by kernel_rfl) h

def laws_eqRecordS_L0 (l0 : List (List D)) (l1 : List (List D)) (n2 : Int) : St :=
  { env := envOf 27 [(0, PV.al (AL.one (Leaf.sl Tag.free 5 l0))), (1, PV.al (AL.one (Leaf.sl Tag.free 5 l1))), (5, PV.al (AL.one (Leaf.v (Value.int IntKind.i64 n2))))], boxes := [] }

def laws_eqRecordS_X0 (b0 : Bool) : St :=
  { env := envOf 27 [(4, PV.al (AL.one (Leaf.sb b0)))], boxes := [] }

theorem laws_eqRecordS_L0_x0 (l0 : List (List D)) (l1 : List (List D)) (n2 : Int) (n3 : Int) (n4 : Int) (n5 : Int) (n6 : Int) (n7 : Int) (n8 : Int) (n9 : Int) (n10 : Int) (n11 : Int) (n12 : Int) (b13 : Bool)
    (h : Obs [decide (n2 < (↑l0.length : Int)) = true, 0 ≤ n2, n2 < (↑l0.length : Int), l0[n2.toNat]? = some [I n3, I n4, I n5, I n6, I n7], 0 ≤ n2, n2 < (↑l1.length : Int), l1[n2.toNat]? = some [I n8, I n9, I n10, I n11, I n12], Ret Tryz.prog 37 [AD.agg [I n3, I n4, I n5, I n6, I n7], AD.agg [I n8, I n9, I n10, I n11, I n12]] [AD.one (B b13)], (!b13) = true]) :
    Tr Tryz.prog (loopOf Tryz.f11 0) (laws_eqRecordS_L0 l0 l1 n2) Ex.ret (laws_eqRecordS_X0 false) :=
  .of_loopc (ks := [4]) (bs := []) (ans := [Ans.br true, Ans.el [I n3, I n4, I n5, I n6, I n7], Ans.el [I n8, I n9, I n10, I n11, I n12], Ans.res [AD.one (B b13)], Ans.br true]) (by kernel_rfl) h

theorem laws_eqRecordS_L0_s1 (l0 : List (List D)) (l1 : List (List D)) (n2 : Int) (n3 : Int) (n4 : Int) (n5 : Int) (n6 : Int) (n7 : Int) (n8 : Int) (n9 : Int) (n10 : Int) (n11 : Int) (n12 : Int) (b13 : Bool)
    (h : Obs [decide (n2 < (↑l0.length : Int)) = true, 0 ≤ n2, n2 < (↑l0.length : Int), l0[n2.toNat]? = some [I n3, I n4, I n5, I n6, I n7], 0 ≤ n2, n2 < (↑l1.length : Int), l1[n2.toNat]? = some [I n8, I n9, I n10, I n11, I n12], Ret Tryz.prog 37 [AD.agg [I n3, I n4, I n5, I n6, I n7], AD.agg [I n8, I n9, I n10, I n11, I n12]] [AD.one (B b13)], (!b13) = false, inInt IntKind.i64 (n2 + 1)]) :
    Tr Tryz.prog (loopOf Tryz.f11 0) (laws_eqRecordS_L0 l0 l1 n2) Ex.normal (laws_eqRecordS_L0 l0 l1 (n2 + 1)) :=
  .of_loopc (ks := [5, 0, 1]) (bs := []) (ans := [Ans.br true, Ans.el [I n3, I n4, I n5, I n6, I n7], Ans.el [I n8, I n9, I n10, I n11, I n12], Ans.res [AD.one (B b13)], Ans.br false]) (by kernel_rfl) h

def laws_eqRecordS_X0v2 : St :=
  { env := envOf 27 [], boxes := [] }

theorem laws_eqRecordS_L0_x2 (l0 : List (List D)) (l1 : List (List D)) (n2 : Int)
    (h : Obs [decide (n2 < (↑l0.length : Int)) = false]) :
    Tr Tryz.prog (loopOf Tryz.f11 0) (laws_eqRecordS_L0 l0 l1 n2) (Ex.exit 0) laws_eqRecordS_X0v2 :=
  .of_loopc (ks := []) (bs := []) (ans := [Ans.br false]) (by kernel_rfl) h

theorem laws_eqRecordS_p1 (l0 : List (List D)) (l1 : List (List D)) (b2 : Bool)
    (h : Obs [((↑l0.length : Int) != (↑l1.length : Int)) = false, LoopOk Tryz.prog (loopOf Tryz.f11 0) (laws_eqRecordS_L0 l0 l1 0) Ex.ret (laws_eqRecordS_X0 b2)]) :
    Ret Tryz.prog 11 [AD.one (D.sl 5 l0), AD.one (D.sl 5 l1)] [AD.one (B b2)] :=
  .of [Ans.br false, Ans.loop [] [5, 0, 1] [] Ex.ret (laws_eqRecordS_X0 b2)] _ Tryz.func11 rfl (by kernel_rfl) h

theorem laws_eqRecordS_p2 (l0 : List (List D)) (l1 : List (List D))
    (h : Obs [((↑l0.length : Int) != (↑l1.length : Int)) = false, LoopOk Tryz.prog (loopOf Tryz.f11 0) (laws_eqRecordS_L0 l0 l1 0) (Ex.exit 0) laws_eqRecordS_X0v2]) :
    Ret Tryz.prog 11 [AD.one (D.sl 5 l0), AD.one (D.sl 5 l1)] [AD.one (B true)] :=
  .of [Ans.br false, Ans.loop [] [5, 0, 1] [] (Ex.exit 0) laws_eqRecordS_X0v2] _ Tryz.func11 rfl (by kernel_rfl) h

/- loop.example/g00973/laws.eqCell -/

theorem laws_eqCell_p0 (n0 : Int) (n1 : Int) (n2 : Int) (n3 : Int) (n4 : Int) (n5 : Int) (n6 : Int) (n7 : Int)
    (h : Obs [(n0 != n4) = true]) :
    Ret Tryz.prog 134 [AD.agg [I n0, I n1, I n2, I n3], AD.agg [I n4, I n5, I n6, I n7]] [AD.one (B false)] :=
  .of [Ans.br true] _ Tryz.func134 rfl (by kernel_rfl) h

theorem laws_eqCell_p1 (n0 : Int) (n1 : Int) (n2 : Int) (n3 : Int) (n4 : Int) (n5 : Int) (n6 : Int) (n7 : Int)
    (h : Obs [(n0 != n4) = false, (n1 != n5) = true]) :
    Ret Tryz.prog 134 [AD.agg [I n0, I n1, I n2, I n3], AD.agg [I n4, I n5, I n6, I n7]] [AD.one (B false)] :=
  .of [Ans.br false, Ans.br true] _ Tryz.func134 rfl (by kernel_rfl) h

theorem laws_eqCell_p2 (n0 : Int) (n1 : Int) (n2 : Int) (n3 : Int) (n4 : Int) (n5 : Int) (n6 : Int) (n7 : Int)
    (h : Obs [(n0 != n4) = false, (n1 != n5) = false, (n2 != n6) = true]) :
    Ret Tryz.prog 134 [AD.agg [I n0, I n1, I n2, I n3], AD.agg [I n4, I n5, I n6, I n7]] [AD.one (B false)] :=
  .of [Ans.br false, Ans.br false, Ans.br true] _ Tryz.func134 rfl (by kernel_rfl) h

theorem laws_eqCell_p3 (n0 : Int) (n1 : Int) (n2 : Int) (n3 : Int) (n4 : Int) (n5 : Int) (n6 : Int) (n7 : Int)
    (h : Obs [(n0 != n4) = false, (n1 != n5) = false, (n2 != n6) = false, (n3 != n7) = true]) :
    Ret Tryz.prog 134 [AD.agg [I n0, I n1, I n2, I n3], AD.agg [I n4, I n5, I n6, I n7]] [AD.one (B false)] :=
  .of [Ans.br false, Ans.br false, Ans.br false, Ans.br true] _ Tryz.func134 rfl (by kernel_rfl) h

theorem laws_eqCell_p4 (n0 : Int) (n1 : Int) (n2 : Int) (n3 : Int) (n4 : Int) (n5 : Int) (n6 : Int) (n7 : Int)
    (h : Obs [(n0 != n4) = false, (n1 != n5) = false, (n2 != n6) = false, (n3 != n7) = false]) :
    Ret Tryz.prog 134 [AD.agg [I n0, I n1, I n2, I n3], AD.agg [I n4, I n5, I n6, I n7]] [AD.one (B true)] :=
  .of [Ans.br false, Ans.br false, Ans.br false, Ans.br false] _ Tryz.func134 rfl (by kernel_rfl) h

/- loop.example/g00973/laws.eqCellS -/

theorem laws_eqCellS_p0 (l0 : List (List D)) (l1 : List (List D))
    (h : Obs [((↑l0.length : Int) != (↑l1.length : Int)) = true]) :
    Ret Tryz.prog 111 [AD.one (D.sl 4 l0), AD.one (D.sl 4 l1)] [AD.one (B false)] :=
  .of [Ans.br true] _ Tryz.func111 rfl (by kernel_rfl) h

def laws_eqCellS_L0 (l0 : List (List D)) (l1 : List (List D)) (n2 : Int) : St :=
  { env := envOf 27 [(0, PV.al (AL.one (Leaf.sl Tag.free 4 l0))), (1, PV.al (AL.one (Leaf.sl Tag.free 4 l1))), (5, PV.al (AL.one (Leaf.v (Value.int IntKind.i64 n2))))], boxes := [] }

def laws_eqCellS_X0 (b0 : Bool) : St :=
  { env := envOf 27 [(4, PV.al (AL.one (Leaf.sb b0)))], boxes := [] }

theorem laws_eqCellS_L0_x0 (l0 : List (List D)) (l1 : List (List D)) (n2 : Int) (n3 : Int) (n4 : Int) (n5 : Int) (n6 : Int) (n7 : Int) (n8 : Int) (n9 : Int) (n10 : Int) (b11 : Bool)
    (h : Obs [decide (n2 < (↑l0.length : Int)) = true, 0 ≤ n2, n2 < (↑l0.length : Int), l0[n2.toNat]? = some [I n3, I n4, I n5, I n6], 0 ≤ n2, n2 < (↑l1.length : Int), l1[n2.toNat]? = some [I n7, I n8, I n9, I n10], Ret Tryz.prog 134 [AD.agg [I n3, I n4, I n5, I n6], AD.agg [I n7, I n8, I n9, I n10]] [AD.one (B b11)], (!b11) = true]) :
    Tr Tryz.prog (loopOf Tryz.f111 0) (laws_eqCellS_L0 l0 l1 n2) Ex.ret (laws_eqCellS_X0 false) :=
  .of_loopc (ks := [4]) (bs := []) (ans := [Ans.br true, Ans.el [I n3, I n4, I n5, I n6], Ans.el [I n7, I n8, I n9, I n10], Ans.res [AD.one (B b11)], Ans.br true]) (by kernel_rfl) h

theorem laws_eqCellS_L0_s1 (l0 : List (List D)) (l1 : List (List D)) (n2 : Int) (n3 : Int) (n4 : Int) (n5 : Int) (n6 : Int) (n7 : Int) (n8 : Int) (n9 : Int) (n10 : Int) (b11 : Bool)
    (h : Obs [decide (n2 < (↑l0.length : Int)) = true, 0 ≤ n2, n2 < (↑l0.length : Int), l0[n2.toNat]? = some [I n3, I n4, I n5, I n6], 0 ≤ n2, n2 < (↑l1.length : Int), l1[n2.toNat]? = some [I n7, I n8, I n9, I n10], Ret Tryz.prog 134 [AD.agg [I n3, I n4, I n5, I n6], AD.agg [I n7, I n8, I n9, I n10]] [AD.one (B b11)], (!b11) = false, inInt IntKind.i64 (n2 + 1)]) :
    Tr Tryz.prog (loopOf Tryz.f111 0) (laws_eqCellS_L0 l0 l1 n2) Ex.normal (laws_eqCellS_L0 l0 l1 (n2 + 1)) :=
  .of_loopc (ks := [5, 0, 1]) (bs := []) (ans := [Ans.br true, Ans.el [I n3, I n4, I n5, I n6], Ans.el [I n7, I n8, I n9, I n10], Ans.res [AD.one (B b11)], Ans.br false]) (by kernel_rfl) h

def laws_eqCellS_X0v2 : St :=
  { env := envOf 27 [], boxes := [] }

theorem laws_eqCellS_L0_x2 (l0 : List (List D)) (l1 : List (List D)) (n2 : Int)
    (h : Obs [decide (n2 < (↑l0.length : Int)) = false]) :
    Tr Tryz.prog (loopOf Tryz.f111 0) (laws_eqCellS_L0 l0 l1 n2) (Ex.exit 0) laws_eqCellS_X0v2 :=
  .of_loopc (ks := []) (bs := []) (ans := [Ans.br false]) (by kernel_rfl) h

theorem laws_eqCellS_p1 (l0 : List (List D)) (l1 : List (List D)) (b2 : Bool)
    (h : Obs [((↑l0.length : Int) != (↑l1.length : Int)) = false, LoopOk Tryz.prog (loopOf Tryz.f111 0) (laws_eqCellS_L0 l0 l1 0) Ex.ret (laws_eqCellS_X0 b2)]) :
    Ret Tryz.prog 111 [AD.one (D.sl 4 l0), AD.one (D.sl 4 l1)] [AD.one (B b2)] :=
  .of [Ans.br false, Ans.loop [] [5, 0, 1] [] Ex.ret (laws_eqCellS_X0 b2)] _ Tryz.func111 rfl (by kernel_rfl) h

theorem laws_eqCellS_p2 (l0 : List (List D)) (l1 : List (List D))
    (h : Obs [((↑l0.length : Int) != (↑l1.length : Int)) = false, LoopOk Tryz.prog (loopOf Tryz.f111 0) (laws_eqCellS_L0 l0 l1 0) (Ex.exit 0) laws_eqCellS_X0v2]) :
    Ret Tryz.prog 111 [AD.one (D.sl 4 l0), AD.one (D.sl 4 l1)] [AD.one (B true)] :=
  .of [Ans.br false, Ans.loop [] [5, 0, 1] [] (Ex.exit 0) laws_eqCellS_X0v2] _ Tryz.func111 rfl (by kernel_rfl) h

/- loop.example/g00973/laws.eqIntS -/

theorem laws_eqIntS_p0 (l0 : List (List D)) (l1 : List (List D))
    (h : Obs [((↑l0.length : Int) != (↑l1.length : Int)) = true]) :
    Ret Tryz.prog 112 [AD.one (D.sl 1 l0), AD.one (D.sl 1 l1)] [AD.one (B false)] :=
  .of [Ans.br true] _ Tryz.func112 rfl (by kernel_rfl) h

def laws_eqIntS_L0 (l0 : List (List D)) (l1 : List (List D)) (n2 : Int) : St :=
  { env := envOf 26 [(0, PV.al (AL.one (Leaf.sl Tag.free 1 l0))), (1, PV.al (AL.one (Leaf.sl Tag.free 1 l1))), (5, PV.al (AL.one (Leaf.v (Value.int IntKind.i64 n2))))], boxes := [] }

def laws_eqIntS_X0 (b0 : Bool) : St :=
  { env := envOf 26 [(4, PV.al (AL.one (Leaf.sb b0)))], boxes := [] }

theorem laws_eqIntS_L0_x0 (l0 : List (List D)) (l1 : List (List D)) (n2 : Int) (n3 : Int) (n4 : Int)
    (h : Obs [decide (n2 < (↑l0.length : Int)) = true, 0 ≤ n2, n2 < (↑l0.length : Int), l0[n2.toNat]? = some [I n3], 0 ≤ n2, n2 < (↑l1.length : Int), l1[n2.toNat]? = some [I n4], (n3 != n4) = true]) :
    Tr Tryz.prog (loopOf Tryz.f112 0) (laws_eqIntS_L0 l0 l1 n2) Ex.ret (laws_eqIntS_X0 false) :=
  .of_loopc (ks := [4]) (bs := []) (ans := [Ans.br true, Ans.el [I n3], Ans.el [I n4], Ans.br true]) (by kernel_rfl) h

theorem laws_eqIntS_L0_s1 (l0 : List (List D)) (l1 : List (List D)) (n2 : Int) (n3 : Int) (n4 : Int)
    (h : Obs [decide (n2 < (↑l0.length : Int)) = true, 0 ≤ n2, n2 < (↑l0.length : Int), l0[n2.toNat]? = some [I n3], 0 ≤ n2, n2 < (↑l1.length : Int), l1[n2.toNat]? = some [I n4], (n3 != n4) = false, inInt IntKind.i64 (n2 + 1)]) :
    Tr Tryz.prog (loopOf Tryz.f112 0) (laws_eqIntS_L0 l0 l1 n2) Ex.normal (laws_eqIntS_L0 l0 l1 (n2 + 1)) :=
  .of_loopc (ks := [5, 0, 1]) (bs := []) (ans := [Ans.br true, Ans.el [I n3], Ans.el [I n4], Ans.br false]) (by kernel_rfl) h

def laws_eqIntS_X0v2 : St :=
  { env := envOf 26 [], boxes := [] }

theorem laws_eqIntS_L0_x2 (l0 : List (List D)) (l1 : List (List D)) (n2 : Int)
    (h : Obs [decide (n2 < (↑l0.length : Int)) = false]) :
    Tr Tryz.prog (loopOf Tryz.f112 0) (laws_eqIntS_L0 l0 l1 n2) (Ex.exit 0) laws_eqIntS_X0v2 :=
  .of_loopc (ks := []) (bs := []) (ans := [Ans.br false]) (by kernel_rfl) h

theorem laws_eqIntS_p1 (l0 : List (List D)) (l1 : List (List D)) (b2 : Bool)
    (h : Obs [((↑l0.length : Int) != (↑l1.length : Int)) = false, LoopOk Tryz.prog (loopOf Tryz.f112 0) (laws_eqIntS_L0 l0 l1 0) Ex.ret (laws_eqIntS_X0 b2)]) :
    Ret Tryz.prog 112 [AD.one (D.sl 1 l0), AD.one (D.sl 1 l1)] [AD.one (B b2)] :=
  .of [Ans.br false, Ans.loop [] [5, 0, 1] [] Ex.ret (laws_eqIntS_X0 b2)] _ Tryz.func112 rfl (by kernel_rfl) h

theorem laws_eqIntS_p2 (l0 : List (List D)) (l1 : List (List D))
    (h : Obs [((↑l0.length : Int) != (↑l1.length : Int)) = false, LoopOk Tryz.prog (loopOf Tryz.f112 0) (laws_eqIntS_L0 l0 l1 0) (Ex.exit 0) laws_eqIntS_X0v2]) :
    Ret Tryz.prog 112 [AD.one (D.sl 1 l0), AD.one (D.sl 1 l1)] [AD.one (B true)] :=
  .of [Ans.br false, Ans.loop [] [5, 0, 1] [] (Ex.exit 0) laws_eqIntS_X0v2] _ Tryz.func112 rfl (by kernel_rfl) h

/- loop.example/g00973/laws.eqBoolS -/

theorem laws_eqBoolS_p0 (l0 : List (List D)) (l1 : List (List D))
    (h : Obs [((↑l0.length : Int) != (↑l1.length : Int)) = true]) :
    Ret Tryz.prog 113 [AD.one (D.sl 1 l0), AD.one (D.sl 1 l1)] [AD.one (B false)] :=
  .of [Ans.br true] _ Tryz.func113 rfl (by kernel_rfl) h

def laws_eqBoolS_L0 (l0 : List (List D)) (l1 : List (List D)) (n2 : Int) : St :=
  { env := envOf 26 [(0, PV.al (AL.one (Leaf.sl Tag.free 1 l0))), (1, PV.al (AL.one (Leaf.sl Tag.free 1 l1))), (5, PV.al (AL.one (Leaf.v (Value.int IntKind.i64 n2))))], boxes := [] }

def laws_eqBoolS_X0 (b0 : Bool) : St :=
  { env := envOf 26 [(4, PV.al (AL.one (Leaf.sb b0)))], boxes := [] }

theorem laws_eqBoolS_L0_x0 (l0 : List (List D)) (l1 : List (List D)) (n2 : Int) (b3 : Bool) (b4 : Bool)
    (h : Obs [decide (n2 < (↑l0.length : Int)) = true, 0 ≤ n2, n2 < (↑l0.length : Int), l0[n2.toNat]? = some [B b3], 0 ≤ n2, n2 < (↑l1.length : Int), l1[n2.toNat]? = some [B b4], (!b3 == b4) = true]) :
    Tr Tryz.prog (loopOf Tryz.f113 0) (laws_eqBoolS_L0 l0 l1 n2) Ex.ret (laws_eqBoolS_X0 false) :=
  .of_loopc (ks := [4]) (bs := []) (ans := [Ans.br true, Ans.el [B b3], Ans.el [B b4], Ans.br true]) (by kernel_rfl) h

theorem laws_eqBoolS_L0_s1 (l0 : List (List D)) (l1 : List (List D)) (n2 : Int) (b3 : Bool) (b4 : Bool)
    (h : Obs [decide (n2 < (↑l0.length : Int)) = true, 0 ≤ n2, n2 < (↑l0.length : Int), l0[n2.toNat]? = some [B b3], 0 ≤ n2, n2 < (↑l1.length : Int), l1[n2.toNat]? = some [B b4], (!b3 == b4) = false, inInt IntKind.i64 (n2 + 1)]) :
    Tr Tryz.prog (loopOf Tryz.f113 0) (laws_eqBoolS_L0 l0 l1 n2) Ex.normal (laws_eqBoolS_L0 l0 l1 (n2 + 1)) :=
  .of_loopc (ks := [5, 0, 1]) (bs := []) (ans := [Ans.br true, Ans.el [B b3], Ans.el [B b4], Ans.br false]) (by kernel_rfl) h

def laws_eqBoolS_X0v2 : St :=
  { env := envOf 26 [], boxes := [] }

theorem laws_eqBoolS_L0_x2 (l0 : List (List D)) (l1 : List (List D)) (n2 : Int)
    (h : Obs [decide (n2 < (↑l0.length : Int)) = false]) :
    Tr Tryz.prog (loopOf Tryz.f113 0) (laws_eqBoolS_L0 l0 l1 n2) (Ex.exit 0) laws_eqBoolS_X0v2 :=
  .of_loopc (ks := []) (bs := []) (ans := [Ans.br false]) (by kernel_rfl) h

theorem laws_eqBoolS_p1 (l0 : List (List D)) (l1 : List (List D)) (b2 : Bool)
    (h : Obs [((↑l0.length : Int) != (↑l1.length : Int)) = false, LoopOk Tryz.prog (loopOf Tryz.f113 0) (laws_eqBoolS_L0 l0 l1 0) Ex.ret (laws_eqBoolS_X0 b2)]) :
    Ret Tryz.prog 113 [AD.one (D.sl 1 l0), AD.one (D.sl 1 l1)] [AD.one (B b2)] :=
  .of [Ans.br false, Ans.loop [] [5, 0, 1] [] Ex.ret (laws_eqBoolS_X0 b2)] _ Tryz.func113 rfl (by kernel_rfl) h

theorem laws_eqBoolS_p2 (l0 : List (List D)) (l1 : List (List D))
    (h : Obs [((↑l0.length : Int) != (↑l1.length : Int)) = false, LoopOk Tryz.prog (loopOf Tryz.f113 0) (laws_eqBoolS_L0 l0 l1 0) (Ex.exit 0) laws_eqBoolS_X0v2]) :
    Ret Tryz.prog 113 [AD.one (D.sl 1 l0), AD.one (D.sl 1 l1)] [AD.one (B true)] :=
  .of [Ans.br false, Ans.loop [] [5, 0, 1] [] (Ex.exit 0) laws_eqBoolS_X0v2] _ Tryz.func113 rfl (by kernel_rfl) h

/- loop.example/g00973/laws.eqDone -/

theorem laws_eqDone_p0 (n0 : Int) (b1 : Bool) (n2 : Int) (b3 : Bool)
    (h : Obs [(n0 != n2) = true]) :
    Ret Tryz.prog 135 [AD.agg [I n0, B b1], AD.agg [I n2, B b3]] [AD.one (B false)] :=
  .of [Ans.br true] _ Tryz.func135 rfl (by kernel_rfl) h

theorem laws_eqDone_p1 (n0 : Int) (b1 : Bool) (n2 : Int) (b3 : Bool)
    (h : Obs [(n0 != n2) = false, (!b1 == b3) = true]) :
    Ret Tryz.prog 135 [AD.agg [I n0, B b1], AD.agg [I n2, B b3]] [AD.one (B false)] :=
  .of [Ans.br false, Ans.br true] _ Tryz.func135 rfl (by kernel_rfl) h

theorem laws_eqDone_p2 (n0 : Int) (b1 : Bool) (n2 : Int) (b3 : Bool)
    (h : Obs [(n0 != n2) = false, (!b1 == b3) = false]) :
    Ret Tryz.prog 135 [AD.agg [I n0, B b1], AD.agg [I n2, B b3]] [AD.one (B true)] :=
  .of [Ans.br false, Ans.br false] _ Tryz.func135 rfl (by kernel_rfl) h

/- loop.example/g00973/laws.eqDoneS -/

theorem laws_eqDoneS_p0 (l0 : List (List D)) (l1 : List (List D))
    (h : Obs [((↑l0.length : Int) != (↑l1.length : Int)) = true]) :
    Ret Tryz.prog 114 [AD.one (D.sl 2 l0), AD.one (D.sl 2 l1)] [AD.one (B false)] :=
  .of [Ans.br true] _ Tryz.func114 rfl (by kernel_rfl) h

def laws_eqDoneS_L0 (l0 : List (List D)) (l1 : List (List D)) (n2 : Int) : St :=
  { env := envOf 27 [(0, PV.al (AL.one (Leaf.sl Tag.free 2 l0))), (1, PV.al (AL.one (Leaf.sl Tag.free 2 l1))), (5, PV.al (AL.one (Leaf.v (Value.int IntKind.i64 n2))))], boxes := [] }

def laws_eqDoneS_X0 (b0 : Bool) : St :=
  { env := envOf 27 [(4, PV.al (AL.one (Leaf.sb b0)))], boxes := [] }

theorem laws_eqDoneS_L0_x0 (l0 : List (List D)) (l1 : List (List D)) (n2 : Int) (n3 : Int) (b4 : Bool) (n5 : Int) (b6 : Bool) (b7 : Bool)
    (h : Obs [decide (n2 < (↑l0.length : Int)) = true, 0 ≤ n2, n2 < (↑l0.length : Int), l0[n2.toNat]? = some [I n3, B b4], 0 ≤ n2, n2 < (↑l1.length : Int), l1[n2.toNat]? = some [I n5, B b6], Ret Tryz.prog 135 [AD.agg [I n3, B b4], AD.agg [I n5, B b6]] [AD.one (B b7)], (!b7) = true]) :
    Tr Tryz.prog (loopOf Tryz.f114 0) (laws_eqDoneS_L0 l0 l1 n2) Ex.ret (laws_eqDoneS_X0 false) :=
  .of_loopc (ks := [4]) (bs := []) (ans := [Ans.br true, Ans.el [I n3, B b4], Ans.el [I n5, B b6], Ans.res [AD.one (B b7)], Ans.br true]) (by kernel_rfl) h

theorem laws_eqDoneS_L0_s1 (l0 : List (List D)) (l1 : List (List D)) (n2 : Int) (n3 : Int) (b4 : Bool) (n5 : Int) (b6 : Bool) (b7 : Bool)
    (h : Obs [decide (n2 < (↑l0.length : Int)) = true, 0 ≤ n2, n2 < (↑l0.length : Int), l0[n2.toNat]? = some [I n3, B b4], 0 ≤ n2, n2 < (↑l1.length : Int), l1[n2.toNat]? = some [I n5, B b6], Ret Tryz.prog 135 [AD.agg [I n3, B b4], AD.agg [I n5, B b6]] [AD.one (B b7)], (!b7) = false, inInt IntKind.i64 (n2 + 1)]) :
    Tr Tryz.prog (loopOf Tryz.f114 0) (laws_eqDoneS_L0 l0 l1 n2) Ex.normal (laws_eqDoneS_L0 l0 l1 (n2 + 1)) :=
  .of_loopc (ks := [5, 0, 1]) (bs := []) (ans := [Ans.br true, Ans.el [I n3, B b4], Ans.el [I n5, B b6], Ans.res [AD.one (B b7)], Ans.br false]) (by kernel_rfl) h

def laws_eqDoneS_X0v2 : St :=
  { env := envOf 27 [], boxes := [] }

theorem laws_eqDoneS_L0_x2 (l0 : List (List D)) (l1 : List (List D)) (n2 : Int)
    (h : Obs [decide (n2 < (↑l0.length : Int)) = false]) :
    Tr Tryz.prog (loopOf Tryz.f114 0) (laws_eqDoneS_L0 l0 l1 n2) (Ex.exit 0) laws_eqDoneS_X0v2 :=
  .of_loopc (ks := []) (bs := []) (ans := [Ans.br false]) (by kernel_rfl) h

theorem laws_eqDoneS_p1 (l0 : List (List D)) (l1 : List (List D)) (b2 : Bool)
    (h : Obs [((↑l0.length : Int) != (↑l1.length : Int)) = false, LoopOk Tryz.prog (loopOf Tryz.f114 0) (laws_eqDoneS_L0 l0 l1 0) Ex.ret (laws_eqDoneS_X0 b2)]) :
    Ret Tryz.prog 114 [AD.one (D.sl 2 l0), AD.one (D.sl 2 l1)] [AD.one (B b2)] :=
  .of [Ans.br false, Ans.loop [] [5, 0, 1] [] Ex.ret (laws_eqDoneS_X0 b2)] _ Tryz.func114 rfl (by kernel_rfl) h

theorem laws_eqDoneS_p2 (l0 : List (List D)) (l1 : List (List D))
    (h : Obs [((↑l0.length : Int) != (↑l1.length : Int)) = false, LoopOk Tryz.prog (loopOf Tryz.f114 0) (laws_eqDoneS_L0 l0 l1 0) (Ex.exit 0) laws_eqDoneS_X0v2]) :
    Ret Tryz.prog 114 [AD.one (D.sl 2 l0), AD.one (D.sl 2 l1)] [AD.one (B true)] :=
  .of [Ans.br false, Ans.loop [] [5, 0, 1] [] (Ex.exit 0) laws_eqDoneS_X0v2] _ Tryz.func114 rfl (by kernel_rfl) h

/- loop.example/g00973/laws.eqToken -/

theorem laws_eqToken_p0 (b0 : Bool) (n1 : Int) (n2 : Int) (b3 : Bool) (b4 : Bool) (b5 : Bool) (n6 : Int) (n7 : Int) (b8 : Bool) (b9 : Bool)
    (h : Obs [(!b0 == b5) = true]) :
    Ret Tryz.prog 76 [AD.agg [B b0, I n1, I n2, B b3, B b4], AD.agg [B b5, I n6, I n7, B b8, B b9]] [AD.one (B false)] :=
  .of [Ans.br true] _ Tryz.func76 rfl (by kernel_rfl) h

theorem laws_eqToken_p1 (b0 : Bool) (n1 : Int) (n2 : Int) (b3 : Bool) (b4 : Bool) (b5 : Bool) (n6 : Int) (n7 : Int) (b8 : Bool) (b9 : Bool)
    (h : Obs [(!b0 == b5) = false, (n1 != n6) = true]) :
    Ret Tryz.prog 76 [AD.agg [B b0, I n1, I n2, B b3, B b4], AD.agg [B b5, I n6, I n7, B b8, B b9]] [AD.one (B false)] :=
  .of [Ans.br false, Ans.br true] _ Tryz.func76 rfl (by kernel_rfl) h

theorem laws_eqToken_p2 (b0 : Bool) (n1 : Int) (n2 : Int) (b3 : Bool) (b4 : Bool) (b5 : Bool) (n6 : Int) (n7 : Int) (b8 : Bool) (b9 : Bool)
    (h : Obs [(!b0 == b5) = false, (n1 != n6) = false, (n2 != n7) = true]) :
    Ret Tryz.prog 76 [AD.agg [B b0, I n1, I n2, B b3, B b4], AD.agg [B b5, I n6, I n7, B b8, B b9]] [AD.one (B false)] :=
  .of [Ans.br false, Ans.br false, Ans.br true] _ Tryz.func76 rfl (by kernel_rfl) h

theorem laws_eqToken_p3 (b0 : Bool) (n1 : Int) (n2 : Int) (b3 : Bool) (b4 : Bool) (b5 : Bool) (n6 : Int) (n7 : Int) (b8 : Bool) (b9 : Bool)
    (h : Obs [(!b0 == b5) = false, (n1 != n6) = false, (n2 != n7) = false, (!b3 == b8) = true]) :
    Ret Tryz.prog 76 [AD.agg [B b0, I n1, I n2, B b3, B b4], AD.agg [B b5, I n6, I n7, B b8, B b9]] [AD.one (B false)] :=
  .of [Ans.br false, Ans.br false, Ans.br false, Ans.br true] _ Tryz.func76 rfl (by kernel_rfl) h

theorem laws_eqToken_p4 (b0 : Bool) (n1 : Int) (n2 : Int) (b3 : Bool) (b4 : Bool) (b5 : Bool) (n6 : Int) (n7 : Int) (b8 : Bool) (b9 : Bool)
    (h : Obs [(!b0 == b5) = false, (n1 != n6) = false, (n2 != n7) = false, (!b3 == b8) = false, (!b4 == b9) = true]) :
    Ret Tryz.prog 76 [AD.agg [B b0, I n1, I n2, B b3, B b4], AD.agg [B b5, I n6, I n7, B b8, B b9]] [AD.one (B false)] :=
  .of [Ans.br false, Ans.br false, Ans.br false, Ans.br false, Ans.br true] _ Tryz.func76 rfl (by kernel_rfl) h

theorem laws_eqToken_p5 (b0 : Bool) (n1 : Int) (n2 : Int) (b3 : Bool) (b4 : Bool) (b5 : Bool) (n6 : Int) (n7 : Int) (b8 : Bool) (b9 : Bool)
    (h : Obs [(!b0 == b5) = false, (n1 != n6) = false, (n2 != n7) = false, (!b3 == b8) = false, (!b4 == b9) = false]) :
    Ret Tryz.prog 76 [AD.agg [B b0, I n1, I n2, B b3, B b4], AD.agg [B b5, I n6, I n7, B b8, B b9]] [AD.one (B true)] :=
  .of [Ans.br false, Ans.br false, Ans.br false, Ans.br false, Ans.br false] _ Tryz.func76 rfl (by kernel_rfl) h

/- loop.example/g00973/laws.eqTokenS -/

theorem laws_eqTokenS_p0 (l0 : List (List D)) (l1 : List (List D))
    (h : Obs [((↑l0.length : Int) != (↑l1.length : Int)) = true]) :
    Ret Tryz.prog 41 [AD.one (D.sl 5 l0), AD.one (D.sl 5 l1)] [AD.one (B false)] :=
  .of [Ans.br true] _ Tryz.func41 rfl (by kernel_rfl) h

def laws_eqTokenS_L0 (l0 : List (List D)) (l1 : List (List D)) (n2 : Int) : St :=
  { env := envOf 27 [(0, PV.al (AL.one (Leaf.sl Tag.free 5 l0))), (1, PV.al (AL.one (Leaf.sl Tag.free 5 l1))), (5, PV.al (AL.one (Leaf.v (Value.int IntKind.i64 n2))))], boxes := [] }

def laws_eqTokenS_X0 (b0 : Bool) : St :=
  { env := envOf 27 [(4, PV.al (AL.one (Leaf.sb b0)))], boxes := [] }

theorem laws_eqTokenS_L0_x0 (l0 : List (List D)) (l1 : List (List D)) (n2 : Int) (b3 : Bool) (n4 : Int) (n5 : Int) (b6 : Bool) (b7 : Bool) (b8 : Bool) (n9 : Int) (n10 : Int) (b11 : Bool) (b12 : Bool) (b13 : Bool)
    (h : Obs [decide (n2 < (↑l0.length : Int)) = true, 0 ≤ n2, n2 < (↑l0.length : Int), l0[n2.toNat]? = some [B b3, I n4, I n5, B b6, B b7], 0 ≤ n2, n2 < (↑l1.length : Int), l1[n2.toNat]? = some [B b8, I n9, I n10, B b11, B b12], Ret Tryz.prog 76 [AD.agg [B b3, I n4, I n5, B b6, B b7], AD.agg [B b8, I n9, I n10, B b11, B b12]] [AD.one (B b13)], (!b13) = true]) :
    Tr Tryz.prog (loopOf Tryz.f41 0) (laws_eqTokenS_L0 l0 l1 n2) Ex.ret (laws_eqTokenS_X0 false) :=
  .of_loopc (ks := [4]) (bs := []) (ans := [Ans.br true, Ans.el [B b3, I n4, I n5, B b6, B b7], Ans.el [B b8, I n9, I n10, B b11, B b12], Ans.res [AD.one (B b13)], Ans.br true]) (by kernel_rfl) h

theorem laws_eqTokenS_L0_s1 (l0 : List (List D)) (l1 : List (List D)) (n2 : Int) (b3 : Bool) (n4 : Int) (n5 : Int) (b6 : Bool) (b7 : Bool) (b8 : Bool) (n9 : Int) (n10 : Int) (b11 : Bool) (b12 : Bool) (b13 : Bool)
    (h : Obs [decide (n2 < (↑l0.length : Int)) = true, 0 ≤ n2, n2 < (↑l0.length : Int), l0[n2.toNat]? = some [B b3, I n4, I n5, B b6, B b7], 0 ≤ n2, n2 < (↑l1.length : Int), l1[n2.toNat]? = some [B b8, I n9, I n10, B b11, B b12], Ret Tryz.prog 76 [AD.agg [B b3, I n4, I n5, B b6, B b7], AD.agg [B b8, I n9, I n10, B b11, B b12]] [AD.one (B b13)], (!b13) = false, inInt IntKind.i64 (n2 + 1)]) :
    Tr Tryz.prog (loopOf Tryz.f41 0) (laws_eqTokenS_L0 l0 l1 n2) Ex.normal (laws_eqTokenS_L0 l0 l1 (n2 + 1)) :=
  .of_loopc (ks := [5, 0, 1]) (bs := []) (ans := [Ans.br true, Ans.el [B b3, I n4, I n5, B b6, B b7], Ans.el [B b8, I n9, I n10, B b11, B b12], Ans.res [AD.one (B b13)], Ans.br false]) (by kernel_rfl) h

def laws_eqTokenS_X0v2 : St :=
  { env := envOf 27 [], boxes := [] }

theorem laws_eqTokenS_L0_x2 (l0 : List (List D)) (l1 : List (List D)) (n2 : Int)
    (h : Obs [decide (n2 < (↑l0.length : Int)) = false]) :
    Tr Tryz.prog (loopOf Tryz.f41 0) (laws_eqTokenS_L0 l0 l1 n2) (Ex.exit 0) laws_eqTokenS_X0v2 :=
  .of_loopc (ks := []) (bs := []) (ans := [Ans.br false]) (by kernel_rfl) h

theorem laws_eqTokenS_p1 (l0 : List (List D)) (l1 : List (List D)) (b2 : Bool)
    (h : Obs [((↑l0.length : Int) != (↑l1.length : Int)) = false, LoopOk Tryz.prog (loopOf Tryz.f41 0) (laws_eqTokenS_L0 l0 l1 0) Ex.ret (laws_eqTokenS_X0 b2)]) :
    Ret Tryz.prog 41 [AD.one (D.sl 5 l0), AD.one (D.sl 5 l1)] [AD.one (B b2)] :=
  .of [Ans.br false, Ans.loop [] [5, 0, 1] [] Ex.ret (laws_eqTokenS_X0 b2)] _ Tryz.func41 rfl (by kernel_rfl) h

theorem laws_eqTokenS_p2 (l0 : List (List D)) (l1 : List (List D))
    (h : Obs [((↑l0.length : Int) != (↑l1.length : Int)) = false, LoopOk Tryz.prog (loopOf Tryz.f41 0) (laws_eqTokenS_L0 l0 l1 0) (Ex.exit 0) laws_eqTokenS_X0v2]) :
    Ret Tryz.prog 41 [AD.one (D.sl 5 l0), AD.one (D.sl 5 l1)] [AD.one (B true)] :=
  .of [Ans.br false, Ans.loop [] [5, 0, 1] [] (Ex.exit 0) laws_eqTokenS_X0v2] _ Tryz.func41 rfl (by kernel_rfl) h

/- loop.example/g00973/laws.eqNews -/

theorem laws_eqNews_p0 (n0 : Int) (n1 : Int) (b2 : Bool) (n3 : Int) (n4 : Int) (b5 : Bool)
    (h : Obs [(n0 != n3) = true]) :
    Ret Tryz.prog 77 [AD.agg [I n0, I n1, B b2], AD.agg [I n3, I n4, B b5]] [AD.one (B false)] :=
  .of [Ans.br true] _ Tryz.func77 rfl (by kernel_rfl) h

theorem laws_eqNews_p1 (n0 : Int) (n1 : Int) (b2 : Bool) (n3 : Int) (n4 : Int) (b5 : Bool)
    (h : Obs [(n0 != n3) = false, (n1 != n4) = true]) :
    Ret Tryz.prog 77 [AD.agg [I n0, I n1, B b2], AD.agg [I n3, I n4, B b5]] [AD.one (B false)] :=
  .of [Ans.br false, Ans.br true] _ Tryz.func77 rfl (by kernel_rfl) h

theorem laws_eqNews_p2 (n0 : Int) (n1 : Int) (b2 : Bool) (n3 : Int) (n4 : Int) (b5 : Bool)
    (h : Obs [(n0 != n3) = false, (n1 != n4) = false, (!b2 == b5) = true]) :
    Ret Tryz.prog 77 [AD.agg [I n0, I n1, B b2], AD.agg [I n3, I n4, B b5]] [AD.one (B false)] :=
  .of [Ans.br false, Ans.br false, Ans.br true] _ Tryz.func77 rfl (by kernel_rfl) h

theorem laws_eqNews_p3 (n0 : Int) (n1 : Int) (b2 : Bool) (n3 : Int) (n4 : Int) (b5 : Bool)
    (h : Obs [(n0 != n3) = false, (n1 != n4) = false, (!b2 == b5) = false]) :
    Ret Tryz.prog 77 [AD.agg [I n0, I n1, B b2], AD.agg [I n3, I n4, B b5]] [AD.one (B true)] :=
  .of [Ans.br false, Ans.br false, Ans.br false] _ Tryz.func77 rfl (by kernel_rfl) h

/- loop.example/g00973/laws.eqNewsS -/

theorem laws_eqNewsS_p0 (l0 : List (List D)) (l1 : List (List D))
    (h : Obs [((↑l0.length : Int) != (↑l1.length : Int)) = true]) :
    Ret Tryz.prog 42 [AD.one (D.sl 3 l0), AD.one (D.sl 3 l1)] [AD.one (B false)] :=
  .of [Ans.br true] _ Tryz.func42 rfl (by kernel_rfl) h

def laws_eqNewsS_L0 (l0 : List (List D)) (l1 : List (List D)) (n2 : Int) : St :=
  { env := envOf 27 [(0, PV.al (AL.one (Leaf.sl Tag.free 3 l0))), (1, PV.al (AL.one (Leaf.sl Tag.free 3 l1))), (5, PV.al (AL.one (Leaf.v (Value.int IntKind.i64 n2))))], boxes := [] }

def laws_eqNewsS_X0 (b0 : Bool) : St :=
  { env := envOf 27 [(4, PV.al (AL.one (Leaf.sb b0)))], boxes := [] }

theorem laws_eqNewsS_L0_x0 (l0 : List (List D)) (l1 : List (List D)) (n2 : Int) (n3 : Int) (n4 : Int) (b5 : Bool) (n6 : Int) (n7 : Int) (b8 : Bool) (b9 : Bool)
    (h : Obs [decide (n2 < (↑l0.length : Int)) = true, 0 ≤ n2, n2 < (↑l0.length : Int), l0[n2.toNat]? = some [I n3, I n4, B b5], 0 ≤ n2, n2 < (↑l1.length : Int), l1[n2.toNat]? = some [I n6, I n7, B b8], Ret Tryz.prog 77 [AD.agg [I n3, I n4, B b5], AD.agg [I n6, I n7, B b8]] [AD.one (B b9)], (!b9) = true]) :
    Tr Tryz.prog (loopOf Tryz.f42 0) (laws_eqNewsS_L0 l0 l1 n2) Ex.ret (laws_eqNewsS_X0 false) :=
  .of_loopc (ks := [4]) (bs := []) (ans := [Ans.br true, Ans.el [I n3, I n4, B b5], Ans.el [I n6, I n7, B b8], Ans.res [AD.one (B b9)], Ans.br true]) (by kernel_rfl) h

theorem laws_eqNewsS_L0_s1 (l0 : List (List D)) (l1 : List (List D)) (n2 : Int) (n3 : Int) (n4 : Int) (b5 : Bool) (n6 : Int) (n7 : Int) (b8 : Bool) (b9 : Bool)
    (h : Obs [decide (n2 < (↑l0.length : Int)) = true, 0 ≤ n2, n2 < (↑l0.length : Int), l0[n2.toNat]? = some [I n3, I n4, B b5], 0 ≤ n2, n2 < (↑l1.length : Int), l1[n2.toNat]? = some [I n6, I n7, B b8], Ret Tryz.prog 77 [AD.agg [I n3, I n4, B b5], AD.agg [I n6, I n7, B b8]] [AD.one (B b9)], (!b9) = false, inInt IntKind.i64 (n2 + 1)]) :
    Tr Tryz.prog (loopOf Tryz.f42 0) (laws_eqNewsS_L0 l0 l1 n2) Ex.normal (laws_eqNewsS_L0 l0 l1 (n2 + 1)) :=
  .of_loopc (ks := [5, 0, 1]) (bs := []) (ans := [Ans.br true, Ans.el [I n3, I n4, B b5], Ans.el [I n6, I n7, B b8], Ans.res [AD.one (B b9)], Ans.br false]) (by kernel_rfl) h

def laws_eqNewsS_X0v2 : St :=
  { env := envOf 27 [], boxes := [] }

theorem laws_eqNewsS_L0_x2 (l0 : List (List D)) (l1 : List (List D)) (n2 : Int)
    (h : Obs [decide (n2 < (↑l0.length : Int)) = false]) :
    Tr Tryz.prog (loopOf Tryz.f42 0) (laws_eqNewsS_L0 l0 l1 n2) (Ex.exit 0) laws_eqNewsS_X0v2 :=
  .of_loopc (ks := []) (bs := []) (ans := [Ans.br false]) (by kernel_rfl) h

theorem laws_eqNewsS_p1 (l0 : List (List D)) (l1 : List (List D)) (b2 : Bool)
    (h : Obs [((↑l0.length : Int) != (↑l1.length : Int)) = false, LoopOk Tryz.prog (loopOf Tryz.f42 0) (laws_eqNewsS_L0 l0 l1 0) Ex.ret (laws_eqNewsS_X0 b2)]) :
    Ret Tryz.prog 42 [AD.one (D.sl 3 l0), AD.one (D.sl 3 l1)] [AD.one (B b2)] :=
  .of [Ans.br false, Ans.loop [] [5, 0, 1] [] Ex.ret (laws_eqNewsS_X0 b2)] _ Tryz.func42 rfl (by kernel_rfl) h

theorem laws_eqNewsS_p2 (l0 : List (List D)) (l1 : List (List D))
    (h : Obs [((↑l0.length : Int) != (↑l1.length : Int)) = false, LoopOk Tryz.prog (loopOf Tryz.f42 0) (laws_eqNewsS_L0 l0 l1 0) (Ex.exit 0) laws_eqNewsS_X0v2]) :
    Ret Tryz.prog 42 [AD.one (D.sl 3 l0), AD.one (D.sl 3 l1)] [AD.one (B true)] :=
  .of [Ans.br false, Ans.loop [] [5, 0, 1] [] (Ex.exit 0) laws_eqNewsS_X0v2] _ Tryz.func42 rfl (by kernel_rfl) h

/- loop.example/g00973/laws.eqNode -/

theorem laws_eqNode_p0 (n0 : Int) (n1 : Int) (n2 : Int) (l3 : List (List D)) (n4 : Int) (n5 : Int) (n6 : Int) (l7 : List (List D))
    (h : Obs [(n0 != n4) = true]) :
    Ret Tryz.prog 110 [AD.agg [I n0, I n1, I n2, D.sl 1 l3], AD.agg [I n4, I n5, I n6, D.sl 1 l7]] [AD.one (B false)] :=
  .of [Ans.br true] _ Tryz.func110 rfl (by kernel_rfl) h

theorem laws_eqNode_p1 (n0 : Int) (n1 : Int) (n2 : Int) (l3 : List (List D)) (n4 : Int) (n5 : Int) (n6 : Int) (l7 : List (List D))
    (h : Obs [(n0 != n4) = false, (n1 != n5) = true]) :
    Ret Tryz.prog 110 [AD.agg [I n0, I n1, I n2, D.sl 1 l3], AD.agg [I n4, I n5, I n6, D.sl 1 l7]] [AD.one (B false)] :=
  .of [Ans.br false, Ans.br true] _ Tryz.func110 rfl (by kernel_rfl) h

theorem laws_eqNode_p2 (n0 : Int) (n1 : Int) (n2 : Int) (l3 : List (List D)) (n4 : Int) (n5 : Int) (n6 : Int) (l7 : List (List D))
    (h : Obs [(n0 != n4) = false, (n1 != n5) = false, (n2 != n6) = true]) :
    Ret Tryz.prog 110 [AD.agg [I n0, I n1, I n2, D.sl 1 l3], AD.agg [I n4, I n5, I n6, D.sl 1 l7]] [AD.one (B false)] :=
  .of [Ans.br false, Ans.br false, Ans.br true] _ Tryz.func110 rfl (by kernel_rfl) h

theorem laws_eqNode_p3 (n0 : Int) (n1 : Int) (n2 : Int) (l3 : List (List D)) (n4 : Int) (n5 : Int) (n6 : Int) (l7 : List (List D)) (b8 : Bool)
    (h : Obs [(n0 != n4) = false, (n1 != n5) = false, (n2 != n6) = false, Ret Tryz.prog 112 [AD.one (D.sl 1 l3), AD.one (D.sl 1 l7)] [AD.one (B b8)], (!b8) = true]) :
    Ret Tryz.prog 110 [AD.agg [I n0, I n1, I n2, D.sl 1 l3], AD.agg [I n4, I n5, I n6, D.sl 1 l7]] [AD.one (B false)] :=
  .of [Ans.br false, Ans.br false, Ans.br false, Ans.res [AD.one (B b8)], Ans.br true] _ Tryz.func110 rfl (by kernel_rfl) h

theorem laws_eqNode_p4 (n0 : Int) (n1 : Int) (n2 : Int) (l3 : List (List D)) (n4 : Int) (n5 : Int) (n6 : Int) (l7 : List (List D)) (b8 : Bool)
    (h : Obs [(n0 != n4) = false, (n1 != n5) = false, (n2 != n6) = false, Ret Tryz.prog 112 [AD.one (D.sl 1 l3), AD.one (D.sl 1 l7)] [AD.one (B b8)], (!b8) = false]) :
    Ret Tryz.prog 110 [AD.agg [I n0, I n1, I n2, D.sl 1 l3], AD.agg [I n4, I n5, I n6, D.sl 1 l7]] [AD.one (B true)] :=
  .of [Ans.br false, Ans.br false, Ans.br false, Ans.res [AD.one (B b8)], Ans.br false] _ Tryz.func110 rfl (by kernel_rfl) h

/- loop.example/g00973/laws.eqNodeS -/

theorem laws_eqNodeS_p0 (l0 : List (List D)) (l1 : List (List D))
    (h : Obs [((↑l0.length : Int) != (↑l1.length : Int)) = true]) :
    Ret Tryz.prog 73 [AD.one (D.sl 4 l0), AD.one (D.sl 4 l1)] [AD.one (B false)] :=
  .of [Ans.br true] _ Tryz.func73 rfl (by kernel_rfl) h

def laws_eqNodeS_L0 (l0 : List (List D)) (l1 : List (List D)) (n2 : Int) : St :=
  { env := envOf 27 [(0, PV.al (AL.one (Leaf.sl Tag.free 4 l0))), (1, PV.al (AL.one (Leaf.sl Tag.free 4 l1))), (5, PV.al (AL.one (Leaf.v (Value.int IntKind.i64 n2))))], boxes := [] }

def laws_eqNodeS_X0 (b0 : Bool) : St :=
  { env := envOf 27 [(4, PV.al (AL.one (Leaf.sb b0)))], boxes := [] }

theorem laws_eqNodeS_L0_x0 (l0 : List (List D)) (l1 : List (List D)) (n2 : Int) (n3 : Int) (n4 : Int) (n5 : Int) (l6 : List (List D)) (n7 : Int) (n8 : Int) (n9 : Int) (l10 : List (List D)) (b11 : Bool)
    (h : Obs [decide (n2 < (↑l0.length : Int)) = true, 0 ≤ n2, n2 < (↑l0.length : Int), l0[n2.toNat]? = some [I n3, I n4, I n5, D.sl 1 l6], 0 ≤ n2, n2 < (↑l1.length : Int), l1[n2.toNat]? = some [I n7, I n8, I n9, D.sl 1 l10], Ret Tryz.prog 110 [AD.agg [I n3, I n4, I n5, D.sl 1 l6], AD.agg [I n7, I n8, I n9, D.sl 1 l10]] [AD.one (B b11)], (!b11) = true]) :
    Tr Tryz.prog (loopOf Tryz.f73 0) (laws_eqNodeS_L0 l0 l1 n2) Ex.ret (laws_eqNodeS_X0 false) :=
  .of_loopc (ks := [4]) (bs := []) (ans := [Ans.br true, Ans.el [I n3, I n4, I n5, D.sl 1 l6], Ans.el [I n7, I n8, I n9, D.sl 1 l10], Ans.res [AD.one (B b11)], Ans.br true]) (by kernel_rfl) h

theorem laws_eqNodeS_L0_s1 (l0 : List (List D)) (l1 : List (List D)) (n2 : Int) (n3 : Int) (n4 : Int) (n5 : Int) (l6 : List (List D)) (n7 : Int) (n8 : Int) (n9 : Int) (l10 : List (List D)) (b11 : Bool)
    (h : Obs [decide (n2 < (↑l0.length : Int)) = true, 0 ≤ n2, n2 < (↑l0.length : Int), l0[n2.toNat]? = some [I n3, I n4, I n5, D.sl 1 l6], 0 ≤ n2, n2 < (↑l1.length : Int), l1[n2.toNat]? = some [I n7, I n8, I n9, D.sl 1 l10], Ret Tryz.prog 110 [AD.agg [I n3, I n4, I n5, D.sl 1 l6], AD.agg [I n7, I n8, I n9, D.sl 1 l10]] [AD.one (B b11)], (!b11) = false, inInt IntKind.i64 (n2 + 1)]) :
    Tr Tryz.prog (loopOf Tryz.f73 0) (laws_eqNodeS_L0 l0 l1 n2) Ex.normal (laws_eqNodeS_L0 l0 l1 (n2 + 1)) :=
  .of_loopc (ks := [5, 0, 1]) (bs := []) (ans := [Ans.br true, Ans.el [I n3, I n4, I n5, D.sl 1 l6], Ans.el [I n7, I n8, I n9, D.sl 1 l10], Ans.res [AD.one (B b11)], Ans.br false]) (by kernel_rfl) h

def laws_eqNodeS_X0v2 : St :=
  { env := envOf 27 [], boxes := [] }

theorem laws_eqNodeS_L0_x2 (l0 : List (List D)) (l1 : List (List D)) (n2 : Int)
    (h : Obs [decide (n2 < (↑l0.length : Int)) = false]) :
    Tr Tryz.prog (loopOf Tryz.f73 0) (laws_eqNodeS_L0 l0 l1 n2) (Ex.exit 0) laws_eqNodeS_X0v2 :=
  .of_loopc (ks := []) (bs := []) (ans := [Ans.br false]) (by kernel_rfl) h

theorem laws_eqNodeS_p1 (l0 : List (List D)) (l1 : List (List D)) (b2 : Bool)
    (h : Obs [((↑l0.length : Int) != (↑l1.length : Int)) = false, LoopOk Tryz.prog (loopOf Tryz.f73 0) (laws_eqNodeS_L0 l0 l1 0) Ex.ret (laws_eqNodeS_X0 b2)]) :
    Ret Tryz.prog 73 [AD.one (D.sl 4 l0), AD.one (D.sl 4 l1)] [AD.one (B b2)] :=
  .of [Ans.br false, Ans.loop [] [5, 0, 1] [] Ex.ret (laws_eqNodeS_X0 b2)] _ Tryz.func73 rfl (by kernel_rfl) h

theorem laws_eqNodeS_p2 (l0 : List (List D)) (l1 : List (List D))
    (h : Obs [((↑l0.length : Int) != (↑l1.length : Int)) = false, LoopOk Tryz.prog (loopOf Tryz.f73 0) (laws_eqNodeS_L0 l0 l1 0) (Ex.exit 0) laws_eqNodeS_X0v2]) :
    Ret Tryz.prog 73 [AD.one (D.sl 4 l0), AD.one (D.sl 4 l1)] [AD.one (B true)] :=
  .of [Ans.br false, Ans.loop [] [5, 0, 1] [] (Ex.exit 0) laws_eqNodeS_X0v2] _ Tryz.func73 rfl (by kernel_rfl) h

/- loop.example/g00973/laws.eqLink -/

theorem laws_eqLink_p0 (n0 : Int) (l1 : List (List D)) (n2 : Int) (n3 : Int) (n4 : Int) (n5 : Int) (n6 : Int) (l7 : List (List D)) (n8 : Int) (n9 : Int) (n10 : Int) (n11 : Int)
    (h : Obs [(n0 != n6) = true]) :
    Ret Tryz.prog 75 [AD.agg [I n0, D.sl 5 l1, I n2, I n3, I n4, I n5], AD.agg [I n6, D.sl 5 l7, I n8, I n9, I n10, I n11]] [AD.one (B false)] :=
  .of [Ans.br true] _ Tryz.func75 rfl (by kernel_rfl) h

theorem laws_eqLink_p1 (n0 : Int) (l1 : List (List D)) (n2 : Int) (n3 : Int) (n4 : Int) (n5 : Int) (n6 : Int) (l7 : List (List D)) (n8 : Int) (n9 : Int) (n10 : Int) (n11 : Int) (b12 : Bool)
    (h : Obs [(n0 != n6) = false, Ret Tryz.prog 11 [AD.one (D.sl 5 l1), AD.one (D.sl 5 l7)] [AD.one (B b12)], (!b12) = true]) :
    Ret Tryz.prog 75 [AD.agg [I n0, D.sl 5 l1, I n2, I n3, I n4, I n5], AD.agg [I n6, D.sl 5 l7, I n8, I n9, I n10, I n11]] [AD.one (B false)] :=
  .of [Ans.br false, Ans.res [AD.one (B b12)], Ans.br true] _ Tryz.func75 rfl (by kernel_rfl) h

theorem laws_eqLink_p2 (n0 : Int) (l1 : List (List D)) (n2 : Int) (n3 : Int) (n4 : Int) (n5 : Int) (n6 : Int) (l7 : List (List D)) (n8 : Int) (n9 : Int) (n10 : Int) (n11 : Int) (b12 : Bool)
    (h : Obs [(n0 != n6) = false, Ret Tryz.prog 11 [AD.one (D.sl 5 l1), AD.one (D.sl 5 l7)] [AD.one (B b12)], (!b12) = false, (n2 != n8) = true]) :
    Ret Tryz.prog 75 [AD.agg [I n0, D.sl 5 l1, I n2, I n3, I n4, I n5], AD.agg [I n6, D.sl 5 l7, I n8, I n9, I n10, I n11]] [AD.one (B false)] :=
  .of [Ans.br false, Ans.res [AD.one (B b12)], Ans.br false, Ans.br true] _ Tryz.func75 rfl (by kernel_rfl) h

theorem laws_eqLink_p3 (n0 : Int) (l1 : List (List D)) (n2 : Int) (n3 : Int) (n4 : Int) (n5 : Int) (n6 : Int) (l7 : List (List D)) (n8 : Int) (n9 : Int) (n10 : Int) (n11 : Int) (b12 : Bool)
    (h : Obs [(n0 != n6) = false, Ret Tryz.prog 11 [AD.one (D.sl 5 l1), AD.one (D.sl 5 l7)] [AD.one (B b12)], (!b12) = false, (n2 != n8) = false, (n3 != n9) = true]) :
    Ret Tryz.prog 75 [AD.agg [I n0, D.sl 5 l1, I n2, I n3, I n4, I n5], AD.agg [I n6, D.sl 5 l7, I n8, I n9, I n10, I n11]] [AD.one (B false)] :=
  .of [Ans.br false, Ans.res [AD.one (B b12)], Ans.br false, Ans.br false, Ans.br true] _ Tryz.func75 rfl (by kernel_rfl) h

theorem laws_eqLink_p4 (n0 : Int) (l1 : List (List D)) (n2 : Int) (n3 : Int) (n4 : Int) (n5 : Int) (n6 : Int) (l7 : List (List D)) (n8 : Int) (n9 : Int) (n10 : Int) (n11 : Int) (b12 : Bool)
    (h : Obs [(n0 != n6) = false, Ret Tryz.prog 11 [AD.one (D.sl 5 l1), AD.one (D.sl 5 l7)] [AD.one (B b12)], (!b12) = false, (n2 != n8) = false, (n3 != n9) = false, (n4 != n10) = true]) :
    Ret Tryz.prog 75 [AD.agg [I n0, D.sl 5 l1, I n2, I n3, I n4, I n5], AD.agg [I n6, D.sl 5 l7, I n8, I n9, I n10, I n11]] [AD.one (B false)] :=
  .of [Ans.br false, Ans.res [AD.one (B b12)], Ans.br false, Ans.br false, Ans.br false, Ans.br true] _ Tryz.func75 rfl (by kernel_rfl) h

theorem laws_eqLink_p5 (n0 : Int) (l1 : List (List D)) (n2 : Int) (n3 : Int) (n4 : Int) (n5 : Int) (n6 : Int) (l7 : List (List D)) (n8 : Int) (n9 : Int) (n10 : Int) (n11 : Int) (b12 : Bool)
    (h : Obs [(n0 != n6) = false, Ret Tryz.prog 11 [AD.one (D.sl 5 l1), AD.one (D.sl 5 l7)] [AD.one (B b12)], (!b12) = false, (n2 != n8) = false, (n3 != n9) = false, (n4 != n10) = false, (n5 != n11) = true]) :
    Ret Tryz.prog 75 [AD.agg [I n0, D.sl 5 l1, I n2, I n3, I n4, I n5], AD.agg [I n6, D.sl 5 l7, I n8, I n9, I n10, I n11]] [AD.one (B false)] :=
  .of [Ans.br false, Ans.res [AD.one (B b12)], Ans.br false, Ans.br false, Ans.br false, Ans.br false, Ans.br true] _ Tryz.func75 rfl (by kernel_rfl) h

theorem laws_eqLink_p6 (n0 : Int) (l1 : List (List D)) (n2 : Int) (n3 : Int) (n4 : Int) (n5 : Int) (n6 : Int) (l7 : List (List D)) (n8 : Int) (n9 : Int) (n10 : Int) (n11 : Int) (b12 : Bool)
    (h : Obs [(n0 != n6) = false, Ret Tryz.prog 11 [AD.one (D.sl 5 l1), AD.one (D.sl 5 l7)] [AD.one (B b12)], (!b12) = false, (n2 != n8) = false, (n3 != n9) = false, (n4 != n10) = false, (n5 != n11) = false]) :
    Ret Tryz.prog 75 [AD.agg [I n0, D.sl 5 l1, I n2, I n3, I n4, I n5], AD.agg [I n6, D.sl 5 l7, I n8, I n9, I n10, I n11]] [AD.one (B true)] :=
  .of [Ans.br false, Ans.res [AD.one (B b12)], Ans.br false, Ans.br false, Ans.br false, Ans.br false, Ans.br false] _ Tryz.func75 rfl (by kernel_rfl) h

/- loop.example/g00973/laws.eqLinkS -/

theorem laws_eqLinkS_p0 (l0 : List (List D)) (l1 : List (List D))
    (h : Obs [((↑l0.length : Int) != (↑l1.length : Int)) = true]) :
    Ret Tryz.prog 40 [AD.one (D.sl 6 l0), AD.one (D.sl 6 l1)] [AD.one (B false)] :=
  .of [Ans.br true] _ Tryz.func40 rfl (by kernel_rfl) h

def laws_eqLinkS_L0 (l0 : List (List D)) (l1 : List (List D)) (n2 : Int) : St :=
  { env := envOf 27 [(0, PV.al (AL.one (Leaf.sl Tag.free 6 l0))), (1, PV.al (AL.one (Leaf.sl Tag.free 6 l1))), (5, PV.al (AL.one (Leaf.v (Value.int IntKind.i64 n2))))], boxes := [] }

def laws_eqLinkS_X0 (b0 : Bool) : St :=
  { env := envOf 27 [(4, PV.al (AL.one (Leaf.sb b0)))], boxes := [] }

theorem laws_eqLinkS_L0_x0 (l0 : List (List D)) (l1 : List (List D)) (n2 : Int) (n3 : Int) (l4 : List (List D)) (n5 : Int) (n6 : Int) (n7 : Int) (n8 : Int) (n9 : Int) (l10 : List (List D)) (n11 : Int) (n12 : Int) (n13 : Int) (n14 : Int) (b15 : Bool)
    (h : Obs [decide (n2 < (↑l0.length : Int)) = true, 0 ≤ n2, n2 < (↑l0.length : Int), l0[n2.toNat]? = some [I n3, D.sl 5 l4, I n5, I n6, I n7, I n8], 0 ≤ n2, n2 < (↑l1.length : Int), l1[n2.toNat]? = some [I n9, D.sl 5 l10, I n11, I n12, I n13, I n14], Ret Tryz.prog 75 [AD.agg [I n3, D.sl 5 l4, I n5, I n6, I n7, I n8], AD.agg [I n9, D.sl 5 l10, I n11, I n12, I n13, I n14]] [AD.one (B b15)], (!b15) = true]) :
    Tr Tryz.prog (loopOf Tryz.f40 0) (laws_eqLinkS_L0 l0 l1 n2) Ex.ret (laws_eqLinkS_X0 false) :=
  .of_loopc (ks := [4]) (bs := []) (ans := [Ans.br true, Ans.el [I n3, D.sl 5 l4, I n5, I n6, I n7, I n8], Ans.el [I n9, D.sl 5 l10, I n11, I n12, I n13, I n14], Ans.res [AD.one (B b15)], Ans.br true]) (by kernel_rfl) h

theorem laws_eqLinkS_L0_s1 (l0 : List (List D)) (l1 : List (List D)) (n2 : Int) (n3 : Int) (l4 : List (List D)) (n5 : Int) (n6 : Int) (n7 : Int) (n8 : Int) (n9 : Int) (l10 : List (List D)) (n11 : Int) (n12 : Int) (n13 : Int) (n14 : Int) (b15 : Bool)
    (h : Obs [decide (n2 < (↑l0.length : Int)) = true, 0 ≤ n2, n2 < (↑l0.length : Int), l0[n2.toNat]? = some [I n3, D.sl 5 l4, I n5, I n6, I n7, I n8], 0 ≤ n2, n2 < (↑l1.length : Int), l1[n2.toNat]? = some [I n9, D.sl 5 l10, I n11, I n12, I n13, I n14], Ret Tryz.prog 75 [AD.agg [I n3, D.sl 5 l4, I n5, I n6, I n7, I n8], AD.agg [I n9, D.sl 5 l10, I n11, I n12, I n13, I n14]] [AD.one (B b15)], (!b15) = false, inInt IntKind.i64 (n2 + 1)]) :
    Tr Tryz.prog (loopOf Tryz.f40 0) (laws_eqLinkS_L0 l0 l1 n2) Ex.normal (laws_eqLinkS_L0 l0 l1 (n2 + 1)) :=
  .of_loopc (ks := [5, 0, 1]) (bs := []) (ans := [Ans.br true, Ans.el [I n3, D.sl 5 l4, I n5, I n6, I n7, I n8], Ans.el [I n9, D.sl 5 l10, I n11, I n12, I n13, I n14], Ans.res [AD.one (B b15)], Ans.br false]) (by kernel_rfl) h

def laws_eqLinkS_X0v2 : St :=
  { env := envOf 27 [], boxes := [] }

theorem laws_eqLinkS_L0_x2 (l0 : List (List D)) (l1 : List (List D)) (n2 : Int)
    (h : Obs [decide (n2 < (↑l0.length : Int)) = false]) :
    Tr Tryz.prog (loopOf Tryz.f40 0) (laws_eqLinkS_L0 l0 l1 n2) (Ex.exit 0) laws_eqLinkS_X0v2 :=
  .of_loopc (ks := []) (bs := []) (ans := [Ans.br false]) (by kernel_rfl) h

theorem laws_eqLinkS_p1 (l0 : List (List D)) (l1 : List (List D)) (b2 : Bool)
    (h : Obs [((↑l0.length : Int) != (↑l1.length : Int)) = false, LoopOk Tryz.prog (loopOf Tryz.f40 0) (laws_eqLinkS_L0 l0 l1 0) Ex.ret (laws_eqLinkS_X0 b2)]) :
    Ret Tryz.prog 40 [AD.one (D.sl 6 l0), AD.one (D.sl 6 l1)] [AD.one (B b2)] :=
  .of [Ans.br false, Ans.loop [] [5, 0, 1] [] Ex.ret (laws_eqLinkS_X0 b2)] _ Tryz.func40 rfl (by kernel_rfl) h

theorem laws_eqLinkS_p2 (l0 : List (List D)) (l1 : List (List D))
    (h : Obs [((↑l0.length : Int) != (↑l1.length : Int)) = false, LoopOk Tryz.prog (loopOf Tryz.f40 0) (laws_eqLinkS_L0 l0 l1 0) (Ex.exit 0) laws_eqLinkS_X0v2]) :
    Ret Tryz.prog 40 [AD.one (D.sl 6 l0), AD.one (D.sl 6 l1)] [AD.one (B true)] :=
  .of [Ans.br false, Ans.loop [] [5, 0, 1] [] (Ex.exit 0) laws_eqLinkS_X0v2] _ Tryz.func40 rfl (by kernel_rfl) h

/- loop.example/g00973/laws.eqGraph -/

theorem laws_eqGraph_p0 (l0 : List (List D)) (n1 : Int) (n2 : Int) (l3 : List (List D)) (n4 : Int) (n5 : Int) (b6 : Bool)
    (h : Obs [Ret Tryz.prog 73 [AD.one (D.sl 4 l0), AD.one (D.sl 4 l3)] [AD.one (B b6)], (!b6) = true]) :
    Ret Tryz.prog 38 [AD.agg [D.sl 4 l0, I n1, I n2], AD.agg [D.sl 4 l3, I n4, I n5]] [AD.one (B false)] :=
  .of [Ans.res [AD.one (B b6)], Ans.br true] _ Tryz.func38 rfl (by kernel_rfl) h

theorem laws_eqGraph_p1 (l0 : List (List D)) (n1 : Int) (n2 : Int) (l3 : List (List D)) (n4 : Int) (n5 : Int) (b6 : Bool)
    (h : Obs [Ret Tryz.prog 73 [AD.one (D.sl 4 l0), AD.one (D.sl 4 l3)] [AD.one (B b6)], (!b6) = false, (n1 != n4) = true]) :
    Ret Tryz.prog 38 [AD.agg [D.sl 4 l0, I n1, I n2], AD.agg [D.sl 4 l3, I n4, I n5]] [AD.one (B false)] :=
  .of [Ans.res [AD.one (B b6)], Ans.br false, Ans.br true] _ Tryz.func38 rfl (by kernel_rfl) h

theorem laws_eqGraph_p2 (l0 : List (List D)) (n1 : Int) (n2 : Int) (l3 : List (List D)) (n4 : Int) (n5 : Int) (b6 : Bool)
    (h : Obs [Ret Tryz.prog 73 [AD.one (D.sl 4 l0), AD.one (D.sl 4 l3)] [AD.one (B b6)], (!b6) = false, (n1 != n4) = false, (n2 != n5) = true]) :
    Ret Tryz.prog 38 [AD.agg [D.sl 4 l0, I n1, I n2], AD.agg [D.sl 4 l3, I n4, I n5]] [AD.one (B false)] :=
  .of [Ans.res [AD.one (B b6)], Ans.br false, Ans.br false, Ans.br true] _ Tryz.func38 rfl (by kernel_rfl) h

theorem laws_eqGraph_p3 (l0 : List (List D)) (n1 : Int) (n2 : Int) (l3 : List (List D)) (n4 : Int) (n5 : Int) (b6 : Bool)
    (h : Obs [Ret Tryz.prog 73 [AD.one (D.sl 4 l0), AD.one (D.sl 4 l3)] [AD.one (B b6)], (!b6) = false, (n1 != n4) = false, (n2 != n5) = false]) :
    Ret Tryz.prog 38 [AD.agg [D.sl 4 l0, I n1, I n2], AD.agg [D.sl 4 l3, I n4, I n5]] [AD.one (B true)] :=
  .of [Ans.res [AD.one (B b6)], Ans.br false, Ans.br false, Ans.br false] _ Tryz.func38 rfl (by kernel_rfl) h

/- loop.example/g00973/laws.eqWorker -/

theorem laws_eqWorker_p0 (l0 : List (List D)) (l1 : List (List D)) (l2 : List (List D)) (l3 : List (List D)) (l4 : List (List D)) (l5 : List (List D)) (l6 : List (List D)) (l7 : List (List D)) (l8 : List (List D)) (l9 : List (List D)) (l10 : List (List D)) (l11 : List (List D)) (l12 : List (List D)) (l13 : List (List D)) (l14 : List (List D)) (l15 : List (List D)) (b16 : Bool)
    (h : Obs [Ret Tryz.prog 11 [AD.one (D.sl 5 l0), AD.one (D.sl 5 l8)] [AD.one (B b16)], (!b16) = true]) :
    Ret Tryz.prog 74 [AD.agg [D.sl 5 l0, D.sl 5 l1, D.sl 5 l2, D.sl 4 l3, D.sl 1 l4, D.sl 1 l5, D.sl 1 l6, D.sl 2 l7], AD.agg [D.sl 5 l8, D.sl 5 l9, D.sl 5 l10, D.sl 4 l11, D.sl 1 l12, D.sl 1 l13, D.sl 1 l14, D.sl 2 l15]] [AD.one (B false)] :=
  .of [Ans.res [AD.one (B b16)], Ans.br true] _ Tryz.func74 rfl (by kernel_rfl) h

theorem laws_eqWorker_p1 (l0 : List (List D)) (l1 : List (List D)) (l2 : List (List D)) (l3 : List (List D)) (l4 : List (List D)) (l5 : List (List D)) (l6 : List (List D)) (l7 : List (List D)) (l8 : List (List D)) (l9 : List (List D)) (l10 : List (List D)) (l11 : List (List D)) (l12 : List (List D)) (l13 : List (List D)) (l14 : List (List D)) (l15 : List (List D)) (b16 : Bool) (b17 : Bool)
    (h : Obs [Ret Tryz.prog 11 [AD.one (D.sl 5 l0), AD.one (D.sl 5 l8)] [AD.one (B b16)], (!b16) = false, Ret Tryz.prog 11 [AD.one (D.sl 5 l1), AD.one (D.sl 5 l9)] [AD.one (B b17)], (!b17) = true]) :
    Ret Tryz.prog 74 [AD.agg [D.sl 5 l0, D.sl 5 l1, D.sl 5 l2, D.sl 4 l3, D.sl 1 l4, D.sl 1 l5, D.sl 1 l6, D.sl 2 l7], AD.agg [D.sl 5 l8, D.sl 5 l9, D.sl 5 l10, D.sl 4 l11, D.sl 1 l12, D.sl 1 l13, D.sl 1 l14, D.sl 2 l15]] [AD.one (B false)] :=
  .of [Ans.res [AD.one (B b16)], Ans.br false, Ans.res [AD.one (B b17)], Ans.br true] _ Tryz.func74 rfl (by kernel_rfl) h

theorem laws_eqWorker_p2 (l0 : List (List D)) (l1 : List (List D)) (l2 : List (List D)) (l3 : List (List D)) (l4 : List (List D)) (l5 : List (List D)) (l6 : List (List D)) (l7 : List (List D)) (l8 : List (List D)) (l9 : List (List D)) (l10 : List (List D)) (l11 : List (List D)) (l12 : List (List D)) (l13 : List (List D)) (l14 : List (List D)) (l15 : List (List D)) (b16 : Bool) (b17 : Bool) (b18 : Bool)
    (h : Obs [Ret Tryz.prog 11 [AD.one (D.sl 5 l0), AD.one (D.sl 5 l8)] [AD.one (B b16)], (!b16) = false, Ret Tryz.prog 11 [AD.one (D.sl 5 l1), AD.one (D.sl 5 l9)] [AD.one (B b17)], (!b17) = false, Ret Tryz.prog 11 [AD.one (D.sl 5 l2), AD.one (D.sl 5 l10)] [AD.one (B b18)], (!b18) = true]) :
    Ret Tryz.prog 74 [AD.agg [D.sl 5 l0, D.sl 5 l1, D.sl 5 l2, D.sl 4 l3, D.sl 1 l4, D.sl 1 l5, D.sl 1 l6, D.sl 2 l7], AD.agg [D.sl 5 l8, D.sl 5 l9, D.sl 5 l10, D.sl 4 l11, D.sl 1 l12, D.sl 1 l13, D.sl 1 l14, D.sl 2 l15]] [AD.one (B false)] :=
  .of [Ans.res [AD.one (B b16)], Ans.br false, Ans.res [AD.one (B b17)], Ans.br false, Ans.res [AD.one (B b18)], Ans.br true] _ Tryz.func74 rfl (by kernel_rfl) h

theorem laws_eqWorker_p3 (l0 : List (List D)) (l1 : List (List D)) (l2 : List (List D)) (l3 : List (List D)) (l4 : List (List D)) (l5 : List (List D)) (l6 : List (List D)) (l7 : List (List D)) (l8 : List (List D)) (l9 : List (List D)) (l10 : List (List D)) (l11 : List (List D)) (l12 : List (List D)) (l13 : List (List D)) (l14 : List (List D)) (l15 : List (List D)) (b16 : Bool) (b17 : Bool) (b18 : Bool) (b19 : Bool)
    (h : Obs [Ret Tryz.prog 11 [AD.one (D.sl 5 l0), AD.one (D.sl 5 l8)] [AD.one (B b16)], (!b16) = false, Ret Tryz.prog 11 [AD.one (D.sl 5 l1), AD.one (D.sl 5 l9)] [AD.one (B b17)], (!b17) = false, Ret Tryz.prog 11 [AD.one (D.sl 5 l2), AD.one (D.sl 5 l10)] [AD.one (B b18)], (!b18) = false, Ret Tryz.prog 111 [AD.one (D.sl 4 l3), AD.one (D.sl 4 l11)] [AD.one (B b19)], (!b19) = true]) :
    Ret Tryz.prog 74 [AD.agg [D.sl 5 l0, D.sl 5 l1, D.sl 5 l2, D.sl 4 l3, D.sl 1 l4, D.sl 1 l5, D.sl 1 l6, D.sl 2 l7], AD.agg [D.sl 5 l8, D.sl 5 l9, D.sl 5 l10, D.sl 4 l11, D.sl 1 l12, D.sl 1 l13, D.sl 1 l14, D.sl 2 l15]] [AD.one (B false)] :=
  .of [Ans.res [AD.one (B b16)], Ans.br false, Ans.res [AD.one (B b17)], Ans.br false, Ans.res [AD.one (B b18)], Ans.br false, Ans.res [AD.one (B b19)], Ans.br true] _ Tryz.func74 rfl (by kernel_rfl) h

theorem laws_eqWorker_p4 (l0 : List (List D)) (l1 : List (List D)) (l2 : List (List D)) (l3 : List (List D)) (l4 : List (List D)) (l5 : List (List D)) (l6 : List (List D)) (l7 : List (List D)) (l8 : List (List D)) (l9 : List (List D)) (l10 : List (List D)) (l11 : List (List D)) (l12 : List (List D)) (l13 : List (List D)) (l14 : List (List D)) (l15 : List (List D)) (b16 : Bool) (b17 : Bool) (b18 : Bool) (b19 : Bool) (b20 : Bool)
    (h : Obs [Ret Tryz.prog 11 [AD.one (D.sl 5 l0), AD.one (D.sl 5 l8)] [AD.one (B b16)], (!b16) = false, Ret Tryz.prog 11 [AD.one (D.sl 5 l1), AD.one (D.sl 5 l9)] [AD.one (B b17)], (!b17) = false, Ret Tryz.prog 11 [AD.one (D.sl 5 l2), AD.one (D.sl 5 l10)] [AD.one (B b18)], (!b18) = false, Ret Tryz.prog 111 [AD.one (D.sl 4 l3), AD.one (D.sl 4 l11)] [AD.one (B b19)], (!b19) = false, Ret Tryz.prog 112 [AD.one (D.sl 1 l4), AD.one (D.sl 1 l12)] [AD.one (B b20)], (!b20) = true]) :
    Ret Tryz.prog 74 [AD.agg [D.sl 5 l0, D.sl 5 l1, D.sl 5 l2, D.sl 4 l3, D.sl 1 l4, D.sl 1 l5, D.sl 1 l6, D.sl 2 l7], AD.agg [D.sl 5 l8, D.sl 5 l9, D.sl 5 l10, D.sl 4 l11, D.sl 1 l12, D.sl 1 l13, D.sl 1 l14, D.sl 2 l15]] [AD.one (B false)] :=
  .of [Ans.res [AD.one (B b16)], Ans.br false, Ans.res [AD.one (B b17)], Ans.br false, Ans.res [AD.one (B b18)], Ans.br false, Ans.res [AD.one (B b19)], Ans.br false, Ans.res [AD.one (B b20)], Ans.br true] _ Tryz.func74 rfl (by kernel_rfl) h

theorem laws_eqWorker_p5 (l0 : List (List D)) (l1 : List (List D)) (l2 : List (List D)) (l3 : List (List D)) (l4 : List (List D)) (l5 : List (List D)) (l6 : List (List D)) (l7 : List (List D)) (l8 : List (List D)) (l9 : List (List D)) (l10 : List (List D)) (l11 : List (List D)) (l12 : List (List D)) (l13 : List (List D)) (l14 : List (List D)) (l15 : List (List D)) (b16 : Bool) (b17 : Bool) (b18 : Bool) (b19 : Bool) (b20 : Bool) (b21 : Bool)
    (h : Obs [Ret Tryz.prog 11 [AD.one (D.sl 5 l0), AD.one (D.sl 5 l8)] [AD.one (B b16)], (!b16) = false, Ret Tryz.prog 11 [AD.one (D.sl 5 l1), AD.one (D.sl 5 l9)] [AD.one (B b17)], (!b17) = false, Ret Tryz.prog 11 [AD.one (D.sl 5 l2), AD.one (D.sl 5 l10)] [AD.one (B b18)], (!b18) = false, Ret Tryz.prog 111 [AD.one (D.sl 4 l3), AD.one (D.sl 4 l11)] [AD.one (B b19)], (!b19) = false, Ret Tryz.prog 112 [AD.one (D.sl 1 l4), AD.one (D.sl 1 l12)] [AD.one (B b20)], (!b20) = false, Ret Tryz.prog 113 [AD.one (D.sl 1 l5), AD.one (D.sl 1 l13)] [AD.one (B b21)], (!b21) = true]) :
    Ret Tryz.prog 74 [AD.agg [D.sl 5 l0, D.sl 5 l1, D.sl 5 l2, D.sl 4 l3, D.sl 1 l4, D.sl 1 l5, D.sl 1 l6, D.sl 2 l7], AD.agg [D.sl 5 l8, D.sl 5 l9, D.sl 5 l10, D.sl 4 l11, D.sl 1 l12, D.sl 1 l13, D.sl 1 l14, D.sl 2 l15]] [AD.one (B false)] :=
  .of [Ans.res [AD.one (B b16)], Ans.br false, Ans.res [AD.one (B b17)], Ans.br false, Ans.res [AD.one (B b18)], Ans.br false, Ans.res [AD.one (B b19)], Ans.br false, Ans.res [AD.one (B b20)], Ans.br false, Ans.res [AD.one (B b21)], Ans.br true] _ Tryz.func74 rfl (by kernel_rfl) h

theorem laws_eqWorker_p6 (l0 : List (List D)) (l1 : List (List D)) (l2 : List (List D)) (l3 : List (List D)) (l4 : List (List D)) (l5 : List (List D)) (l6 : List (List D)) (l7 : List (List D)) (l8 : List (List D)) (l9 : List (List D)) (l10 : List (List D)) (l11 : List (List D)) (l12 : List (List D)) (l13 : List (List D)) (l14 : List (List D)) (l15 : List (List D)) (b16 : Bool) (b17 : Bool) (b18 : Bool) (b19 : Bool) (b20 : Bool) (b21 : Bool) (b22 : Bool)
    (h : Obs [Ret Tryz.prog 11 [AD.one (D.sl 5 l0), AD.one (D.sl 5 l8)] [AD.one (B b16)], (!b16) = false, Ret Tryz.prog 11 [AD.one (D.sl 5 l1), AD.one (D.sl 5 l9)] [AD.one (B b17)], (!b17) = false, Ret Tryz.prog 11 [AD.one (D.sl 5 l2), AD.one (D.sl 5 l10)] [AD.one (B b18)], (!b18) = false, Ret Tryz.prog 111 [AD.one (D.sl 4 l3), AD.one (D.sl 4 l11)] [AD.one (B b19)], (!b19) = false, Ret Tryz.prog 112 [AD.one (D.sl 1 l4), AD.one (D.sl 1 l12)] [AD.one (B b20)], (!b20) = false, Ret Tryz.prog 113 [AD.one (D.sl 1 l5), AD.one (D.sl 1 l13)] [AD.one (B b21)], (!b21) = false, Ret Tryz.prog 113 [AD.one (D.sl 1 l6), AD.one (D.sl 1 l14)] [AD.one (B b22)], (!b22) = true]) :
    Ret Tryz.prog 74 [AD.agg [D.sl 5 l0, D.sl 5 l1, D.sl 5 l2, D.sl 4 l3, D.sl 1 l4, D.sl 1 l5, D.sl 1 l6, D.sl 2 l7], AD.agg [D.sl 5 l8, D.sl 5 l9, D.sl 5 l10, D.sl 4 l11, D.sl 1 l12, D.sl 1 l13, D.sl 1 l14, D.sl 2 l15]] [AD.one (B false)] :=
  .of [Ans.res [AD.one (B b16)], Ans.br false, Ans.res [AD.one (B b17)], Ans.br false, Ans.res [AD.one (B b18)], Ans.br false, Ans.res [AD.one (B b19)], Ans.br false, Ans.res [AD.one (B b20)], Ans.br false, Ans.res [AD.one (B b21)], Ans.br false, Ans.res [AD.one (B b22)], Ans.br true] _ Tryz.func74 rfl (by kernel_rfl) h

theorem laws_eqWorker_p7 (l0 : List (List D)) (l1 : List (List D)) (l2 : List (List D)) (l3 : List (List D)) (l4 : List (List D)) (l5 : List (List D)) (l6 : List (List D)) (l7 : List (List D)) (l8 : List (List D)) (l9 : List (List D)) (l10 : List (List D)) (l11 : List (List D)) (l12 : List (List D)) (l13 : List (List D)) (l14 : List (List D)) (l15 : List (List D)) (b16 : Bool) (b17 : Bool) (b18 : Bool) (b19 : Bool) (b20 : Bool) (b21 : Bool) (b22 : Bool) (b23 : Bool)
    (h : Obs [Ret Tryz.prog 11 [AD.one (D.sl 5 l0), AD.one (D.sl 5 l8)] [AD.one (B b16)], (!b16) = false, Ret Tryz.prog 11 [AD.one (D.sl 5 l1), AD.one (D.sl 5 l9)] [AD.one (B b17)], (!b17) = false, Ret Tryz.prog 11 [AD.one (D.sl 5 l2), AD.one (D.sl 5 l10)] [AD.one (B b18)], (!b18) = false, Ret Tryz.prog 111 [AD.one (D.sl 4 l3), AD.one (D.sl 4 l11)] [AD.one (B b19)], (!b19) = false, Ret Tryz.prog 112 [AD.one (D.sl 1 l4), AD.one (D.sl 1 l12)] [AD.one (B b20)], (!b20) = false, Ret Tryz.prog 113 [AD.one (D.sl 1 l5), AD.one (D.sl 1 l13)] [AD.one (B b21)], (!b21) = false, Ret Tryz.prog 113 [AD.one (D.sl 1 l6), AD.one (D.sl 1 l14)] [AD.one (B b22)], (!b22) = false, Ret Tryz.prog 114 [AD.one (D.sl 2 l7), AD.one (D.sl 2 l15)] [AD.one (B b23)], (!b23) = true]) :
    Ret Tryz.prog 74 [AD.agg [D.sl 5 l0, D.sl 5 l1, D.sl 5 l2, D.sl 4 l3, D.sl 1 l4, D.sl 1 l5, D.sl 1 l6, D.sl 2 l7], AD.agg [D.sl 5 l8, D.sl 5 l9, D.sl 5 l10, D.sl 4 l11, D.sl 1 l12, D.sl 1 l13, D.sl 1 l14, D.sl 2 l15]] [AD.one (B false)] :=
  .of [Ans.res [AD.one (B b16)], Ans.br false, Ans.res [AD.one (B b17)], Ans.br false, Ans.res [AD.one (B b18)], Ans.br false, Ans.res [AD.one (B b19)], Ans.br false, Ans.res [AD.one (B b20)], Ans.br false, Ans.res [AD.one (B b21)], Ans.br false, Ans.res [AD.one (B b22)], Ans.br false, Ans.res [AD.one (B b23)], Ans.br true] _ Tryz.func74 rfl (by kernel_rfl) h

theorem laws_eqWorker_p8 (l0 : List (List D)) (l1 : List (List D)) (l2 : List (List D)) (l3 : List (List D)) (l4 : List (List D)) (l5 : List (List D)) (l6 : List (List D)) (l7 : List (List D)) (l8 : List (List D)) (l9 : List (List D)) (l10 : List (List D)) (l11 : List (List D)) (l12 : List (List D)) (l13 : List (List D)) (l14 : List (List D)) (l15 : List (List D)) (b16 : Bool) (b17 : Bool) (b18 : Bool) (b19 : Bool) (b20 : Bool) (b21 : Bool) (b22 : Bool) (b23 : Bool)
    (h : Obs [Ret Tryz.prog 11 [AD.one (D.sl 5 l0), AD.one (D.sl 5 l8)] [AD.one (B b16)], (!b16) = false, Ret Tryz.prog 11 [AD.one (D.sl 5 l1), AD.one (D.sl 5 l9)] [AD.one (B b17)], (!b17) = false, Ret Tryz.prog 11 [AD.one (D.sl 5 l2), AD.one (D.sl 5 l10)] [AD.one (B b18)], (!b18) = false, Ret Tryz.prog 111 [AD.one (D.sl 4 l3), AD.one (D.sl 4 l11)] [AD.one (B b19)], (!b19) = false, Ret Tryz.prog 112 [AD.one (D.sl 1 l4), AD.one (D.sl 1 l12)] [AD.one (B b20)], (!b20) = false, Ret Tryz.prog 113 [AD.one (D.sl 1 l5), AD.one (D.sl 1 l13)] [AD.one (B b21)], (!b21) = false, Ret Tryz.prog 113 [AD.one (D.sl 1 l6), AD.one (D.sl 1 l14)] [AD.one (B b22)], (!b22) = false, Ret Tryz.prog 114 [AD.one (D.sl 2 l7), AD.one (D.sl 2 l15)] [AD.one (B b23)], (!b23) = false]) :
    Ret Tryz.prog 74 [AD.agg [D.sl 5 l0, D.sl 5 l1, D.sl 5 l2, D.sl 4 l3, D.sl 1 l4, D.sl 1 l5, D.sl 1 l6, D.sl 2 l7], AD.agg [D.sl 5 l8, D.sl 5 l9, D.sl 5 l10, D.sl 4 l11, D.sl 1 l12, D.sl 1 l13, D.sl 1 l14, D.sl 2 l15]] [AD.one (B true)] :=
  .of [Ans.res [AD.one (B b16)], Ans.br false, Ans.res [AD.one (B b17)], Ans.br false, Ans.res [AD.one (B b18)], Ans.br false, Ans.res [AD.one (B b19)], Ans.br false, Ans.res [AD.one (B b20)], Ans.br false, Ans.res [AD.one (B b21)], Ans.br false, Ans.res [AD.one (B b22)], Ans.br false, Ans.res [AD.one (B b23)], Ans.br false] _ Tryz.func74 rfl (by kernel_rfl) h

/- loop.example/g00973/laws.eqWorkerS -/

theorem laws_eqWorkerS_p0 (l0 : List (List D)) (l1 : List (List D))
    (h : Obs [((↑l0.length : Int) != (↑l1.length : Int)) = true]) :
    Ret Tryz.prog 39 [AD.one (D.sl 8 l0), AD.one (D.sl 8 l1)] [AD.one (B false)] :=
  .of [Ans.br true] _ Tryz.func39 rfl (by kernel_rfl) h

def laws_eqWorkerS_L0 (l0 : List (List D)) (l1 : List (List D)) (n2 : Int) : St :=
  { env := envOf 27 [(0, PV.al (AL.one (Leaf.sl Tag.free 8 l0))), (1, PV.al (AL.one (Leaf.sl Tag.free 8 l1))), (5, PV.al (AL.one (Leaf.v (Value.int IntKind.i64 n2))))], boxes := [] }

def laws_eqWorkerS_X0 (b0 : Bool) : St :=
  { env := envOf 27 [(4, PV.al (AL.one (Leaf.sb b0)))], boxes := [] }

theorem laws_eqWorkerS_L0_x0 (l0 : List (List D)) (l1 : List (List D)) (n2 : Int) (l3 : List (List D)) (l4 : List (List D)) (l5 : List (List D)) (l6 : List (List D)) (l7 : List (List D)) (l8 : List (List D)) (l9 : List (List D)) (l10 : List (List D)) (l11 : List (List D)) (l12 : List (List D)) (l13 : List (List D)) (l14 : List (List D)) (l15 : List (List D)) (l16 : List (List D)) (l17 : List (List D)) (l18 : List (List D)) (b19 : Bool)
    (h : Obs [decide (n2 < (↑l0.length : Int)) = true, 0 ≤ n2, n2 < (↑l0.length : Int), l0[n2.toNat]? = some [D.sl 5 l3, D.sl 5 l4, D.sl 5 l5, D.sl 4 l6, D.sl 1 l7, D.sl 1 l8, D.sl 1 l9, D.sl 2 l10], 0 ≤ n2, n2 < (↑l1.length : Int), l1[n2.toNat]? = some [D.sl 5 l11, D.sl 5 l12, D.sl 5 l13, D.sl 4 l14, D.sl 1 l15, D.sl 1 l16, D.sl 1 l17, D.sl 2 l18], Ret Tryz.prog 74 [AD.agg [D.sl 5 l3, D.sl 5 l4, D.sl 5 l5, D.sl 4 l6, D.sl 1 l7, D.sl 1 l8, D.sl 1 l9, D.sl 2 l10], AD.agg [D.sl 5 l11, D.sl 5 l12, D.sl 5 l13, D.sl 4 l14, D.sl 1 l15, D.sl 1 l16, D.sl 1 l17, D.sl 2 l18]] [AD.one (B b19)], (!b19) = true]) :
    Tr Tryz.prog (loopOf Tryz.f39 0) (laws_eqWorkerS_L0 l0 l1 n2) Ex.ret (laws_eqWorkerS_X0 false) :=
  .of_loopc (ks := [4]) (bs := []) (ans := [Ans.br true, Ans.el [D.sl 5 l3, D.sl 5 l4, D.sl 5 l5, D.sl 4 l6, D.sl 1 l7, D.sl 1 l8, D.sl 1 l9, D.sl 2 l10], Ans.el [D.sl 5 l11, D.sl 5 l12, D.sl 5 l13, D.sl 4 l14, D.sl 1 l15, D.sl 1 l16, D.sl 1 l17, D.sl 2 l18], Ans.res [AD.one (B b19)], Ans.br true]) (by kernel_rfl) h

theorem laws_eqWorkerS_L0_s1 (l0 : List (List D)) (l1 : List (List D)) (n2 : Int) (l3 : List (List D)) (l4 : List (List D)) (l5 : List (List D)) (l6 : List (List D)) (l7 : List (List D)) (l8 : List (List D)) (l9 : List (List D)) (l10 : List (List D)) (l11 : List (List D)) (l12 : List (List D)) (l13 : List (List D)) (l14 : List (List D)) (l15 : List (List D)) (l16 : List (List D)) (l17 : List (List D)) (l18 : List (List D)) (b19 : Bool)
    (h : Obs [decide (n2 < (↑l0.length : Int)) = true, 0 ≤ n2, n2 < (↑l0.length : Int), l0[n2.toNat]? = some [D.sl 5 l3, D.sl 5 l4, D.sl 5 l5, D.sl 4 l6, D.sl 1 l7, D.sl 1 l8, D.sl 1 l9, D.sl 2 l10], 0 ≤ n2, n2 < (↑l1.length : Int), l1[n2.toNat]? = some [D.sl 5 l11, D.sl 5 l12, D.sl 5 l13, D.sl 4 l14, D.sl 1 l15, D.sl 1 l16, D.sl 1 l17, D.sl 2 l18], Ret Tryz.prog 74 [AD.agg [D.sl 5 l3, D.sl 5 l4, D.sl 5 l5, D.sl 4 l6, D.sl 1 l7, D.sl 1 l8, D.sl 1 l9, D.sl 2 l10], AD.agg [D.sl 5 l11, D.sl 5 l12, D.sl 5 l13, D.sl 4 l14, D.sl 1 l15, D.sl 1 l16, D.sl 1 l17, D.sl 2 l18]] [AD.one (B b19)], (!b19) = false, inInt IntKind.i64 (n2 + 1)]) :
    Tr Tryz.prog (loopOf Tryz.f39 0) (laws_eqWorkerS_L0 l0 l1 n2) Ex.normal (laws_eqWorkerS_L0 l0 l1 (n2 + 1)) :=
  .of_loopc (ks := [5, 0, 1]) (bs := []) (ans := [Ans.br true, Ans.el [D.sl 5 l3, D.sl 5 l4, D.sl 5 l5, D.sl 4 l6, D.sl 1 l7, D.sl 1 l8, D.sl 1 l9, D.sl 2 l10], Ans.el [D.sl 5 l11, D.sl 5 l12, D.sl 5 l13, D.sl 4 l14, D.sl 1 l15, D.sl 1 l16, D.sl 1 l17, D.sl 2 l18], Ans.res [AD.one (B b19)], Ans.br false]) (by kernel_rfl) h

def laws_eqWorkerS_X0v2 : St :=
  { env := envOf 27 [], boxes := [] }

theorem laws_eqWorkerS_L0_x2 (l0 : List (List D)) (l1 : List (List D)) (n2 : Int)
    (h : Obs [decide (n2 < (↑l0.length : Int)) = false]) :
    Tr Tryz.prog (loopOf Tryz.f39 0) (laws_eqWorkerS_L0 l0 l1 n2) (Ex.exit 0) laws_eqWorkerS_X0v2 :=
  .of_loopc (ks := []) (bs := []) (ans := [Ans.br false]) (by kernel_rfl) h

theorem laws_eqWorkerS_p1 (l0 : List (List D)) (l1 : List (List D)) (b2 : Bool)
    (h : Obs [((↑l0.length : Int) != (↑l1.length : Int)) = false, LoopOk Tryz.prog (loopOf Tryz.f39 0) (laws_eqWorkerS_L0 l0 l1 0) Ex.ret (laws_eqWorkerS_X0 b2)]) :
    Ret Tryz.prog 39 [AD.one (D.sl 8 l0), AD.one (D.sl 8 l1)] [AD.one (B b2)] :=
  .of [Ans.br false, Ans.loop [] [5, 0, 1] [] Ex.ret (laws_eqWorkerS_X0 b2)] _ Tryz.func39 rfl (by kernel_rfl) h

theorem laws_eqWorkerS_p2 (l0 : List (List D)) (l1 : List (List D))
    (h : Obs [((↑l0.length : Int) != (↑l1.length : Int)) = false, LoopOk Tryz.prog (loopOf Tryz.f39 0) (laws_eqWorkerS_L0 l0 l1 0) (Ex.exit 0) laws_eqWorkerS_X0v2]) :
    Ret Tryz.prog 39 [AD.one (D.sl 8 l0), AD.one (D.sl 8 l1)] [AD.one (B true)] :=
  .of [Ans.br false, Ans.loop [] [5, 0, 1] [] (Ex.exit 0) laws_eqWorkerS_X0v2] _ Tryz.func39 rfl (by kernel_rfl) h

/- loop.example/g00973/laws.eqCluster -/

theorem laws_eqCluster_p0 (l0 : List (List D)) (n1 : Int) (n2 : Int) (l3 : List (List D)) (l4 : List (List D)) (l5 : List (List D)) (l6 : List (List D)) (l7 : List (List D)) (n8 : Int) (n9 : Int) (l10 : List (List D)) (l11 : List (List D)) (l12 : List (List D)) (l13 : List (List D)) (b14 : Bool)
    (h : Obs [Ret Tryz.prog 38 [AD.agg [D.sl 4 l0, I n1, I n2], AD.agg [D.sl 4 l7, I n8, I n9]] [AD.one (B b14)], (!b14) = true]) :
    Ret Tryz.prog 12 [AD.agg [D.sl 4 l0, I n1, I n2, D.sl 8 l3, D.sl 6 l4, D.sl 5 l5, D.sl 3 l6], AD.agg [D.sl 4 l7, I n8, I n9, D.sl 8 l10, D.sl 6 l11, D.sl 5 l12, D.sl 3 l13]] [AD.one (B false)] :=
  .of [Ans.res [AD.one (B b14)], Ans.br true] _ Tryz.func12 rfl (by kernel_rfl) h

theorem laws_eqCluster_p1 (l0 : List (List D)) (n1 : Int) (n2 : Int) (l3 : List (List D)) (l4 : List (List D)) (l5 : List (List D)) (l6 : List (List D)) (l7 : List (List D)) (n8 : Int) (n9 : Int) (l10 : List (List D)) (l11 : List (List D)) (l12 : List (List D)) (l13 : List (List D)) (b14 : Bool) (b15 : Bool)
    (h : Obs [Ret Tryz.prog 38 [AD.agg [D.sl 4 l0, I n1, I n2], AD.agg [D.sl 4 l7, I n8, I n9]] [AD.one (B b14)], (!b14) = false, Ret Tryz.prog 39 [AD.one (D.sl 8 l3), AD.one (D.sl 8 l10)] [AD.one (B b15)], (!b15) = true]) :
    Ret Tryz.prog 12 [AD.agg [D.sl 4 l0, I n1, I n2, D.sl 8 l3, D.sl 6 l4, D.sl 5 l5, D.sl 3 l6], AD.agg [D.sl 4 l7, I n8, I n9, D.sl 8 l10, D.sl 6 l11, D.sl 5 l12, D.sl 3 l13]] [AD.one (B false)] :=
  .of [Ans.res [AD.one (B b14)], Ans.br false, Ans.res [AD.one (B b15)], Ans.br true] _ Tryz.func12 rfl (by kernel_rfl) h

theorem laws_eqCluster_p2 (l0 : List (List D)) (n1 : Int) (n2 : Int) (l3 : List (List D)) (l4 : List (List D)) (l5 : List (List D)) (l6 : List (List D)) (l7 : List (List D)) (n8 : Int) (n9 : Int) (l10 : List (List D)) (l11 : List (List D)) (l12 : List (List D)) (l13 : List (List D)) (b14 : Bool) (b15 : Bool) (b16 : Bool)
    (h : Obs [Ret Tryz.prog 38 [AD.agg [D.sl 4 l0, I n1, I n2], AD.agg [D.sl 4 l7, I n8, I n9]] [AD.one (B b14)], (!b14) = false, Ret Tryz.prog 39 [AD.one (D.sl 8 l3), AD.one (D.sl 8 l10)] [AD.one (B b15)], (!b15) = false, Ret Tryz.prog 40 [AD.one (D.sl 6 l4), AD.one (D.sl 6 l11)] [AD.one (B b16)], (!b16) = true]) :
    Ret Tryz.prog 12 [AD.agg [D.sl 4 l0, I n1, I n2, D.sl 8 l3, D.sl 6 l4, D.sl 5 l5, D.sl 3 l6], AD.agg [D.sl 4 l7, I n8, I n9, D.sl 8 l10, D.sl 6 l11, D.sl 5 l12, D.sl 3 l13]] [AD.one (B false)] :=
  .of [Ans.res [AD.one (B b14)], Ans.br false, Ans.res [AD.one (B b15)], Ans.br false, Ans.res [AD.one (B b16)], Ans.br true] _ Tryz.func12 rfl (by kernel_rfl) h

theorem laws_eqCluster_p3 (l0 : List (List D)) (n1 : Int) (n2 : Int) (l3 : List (List D)) (l4 : List (List D)) (l5 : List (List D)) (l6 : List (List D)) (l7 : List (List D)) (n8 : Int) (n9 : Int) (l10 : List (List D)) (l11 : List (List D)) (l12 : List (List D)) (l13 : List (List D)) (b14 : Bool) (b15 : Bool) (b16 : Bool) (b17 : Bool)
    (h : Obs [Ret Tryz.prog 38 [AD.agg [D.sl 4 l0, I n1, I n2], AD.agg [D.sl 4 l7, I n8, I n9]] [AD.one (B b14)], (!b14) = false, Ret Tryz.prog 39 [AD.one (D.sl 8 l3), AD.one (D.sl 8 l10)] [AD.one (B b15)], (!b15) = false, Ret Tryz.prog 40 [AD.one (D.sl 6 l4), AD.one (D.sl 6 l11)] [AD.one (B b16)], (!b16) = false, Ret Tryz.prog 41 [AD.one (D.sl 5 l5), AD.one (D.sl 5 l12)] [AD.one (B b17)], (!b17) = true]) :
    Ret Tryz.prog 12 [AD.agg [D.sl 4 l0, I n1, I n2, D.sl 8 l3, D.sl 6 l4, D.sl 5 l5, D.sl 3 l6], AD.agg [D.sl 4 l7, I n8, I n9, D.sl 8 l10, D.sl 6 l11, D.sl 5 l12, D.sl 3 l13]] [AD.one (B false)] :=
  .of [Ans.res [AD.one (B b14)], Ans.br false, Ans.res [AD.one (B b15)], Ans.br false, Ans.res [AD.one (B b16)], Ans.br false, Ans.res [AD.one (B b17)], Ans.br true] _ Tryz.func12 rfl (by kernel_rfl) h

theorem laws_eqCluster_p4 (l0 : List (List D)) (n1 : Int) (n2 : Int) (l3 : List (List D)) (l4 : List (List D)) (l5 : List (List D)) (l6 : List (List D)) (l7 : List (List D)) (n8 : Int) (n9 : Int) (l10 : List (List D)) (l11 : List (List D)) (l12 : List (List D)) (l13 : List (List D)) (b14 : Bool) (b15 : Bool) (b16 : Bool) (b17 : Bool) (b18 : Bool)
    (h : Obs [Ret Tryz.prog 38 [AD.agg [D.sl 4 l0, I n1, I n2], AD.agg [D.sl 4 l7, I n8, I n9]] [AD.one (B b14)], (!b14) = false, Ret Tryz.prog 39 [AD.one (D.sl 8 l3), AD.one (D.sl 8 l10)] [AD.one (B b15)], (!b15) = false, Ret Tryz.prog 40 [AD.one (D.sl 6 l4), AD.one (D.sl 6 l11)] [AD.one (B b16)], (!b16) = false, Ret Tryz.prog 41 [AD.one (D.sl 5 l5), AD.one (D.sl 5 l12)] [AD.one (B b17)], (!b17) = false, Ret Tryz.prog 42 [AD.one (D.sl 3 l6), AD.one (D.sl 3 l13)] [AD.one (B b18)], (!b18) = true]) :
    Ret Tryz.prog 12 [AD.agg [D.sl 4 l0, I n1, I n2, D.sl 8 l3, D.sl 6 l4, D.sl 5 l5, D.sl 3 l6], AD.agg [D.sl 4 l7, I n8, I n9, D.sl 8 l10, D.sl 6 l11, D.sl 5 l12, D.sl 3 l13]] [AD.one (B false)] :=
  .of [Ans.res [AD.one (B b14)], Ans.br false, Ans.res [AD.one (B b15)], Ans.br false, Ans.res [AD.one (B b16)], Ans.br false, Ans.res [AD.one (B b17)], Ans.br false, Ans.res [AD.one (B b18)], Ans.br true] _ Tryz.func12 rfl (by kernel_rfl) h

theorem laws_eqCluster_p5 (l0 : List (List D)) (n1 : Int) (n2 : Int) (l3 : List (List D)) (l4 : List (List D)) (l5 : List (List D)) (l6 : List (List D)) (l7 : List (List D)) (n8 : Int) (n9 : Int) (l10 : List (List D)) (l11 : List (List D)) (l12 : List (List D)) (l13 : List (List D)) (b14 : Bool) (b15 : Bool) (b16 : Bool) (b17 : Bool) (b18 : Bool)
    (h : Obs [Ret Tryz.prog 38 [AD.agg [D.sl 4 l0, I n1, I n2], AD.agg [D.sl 4 l7, I n8, I n9]] [AD.one (B b14)], (!b14) = false, Ret Tryz.prog 39 [AD.one (D.sl 8 l3), AD.one (D.sl 8 l10)] [AD.one (B b15)], (!b15) = false, Ret Tryz.prog 40 [AD.one (D.sl 6 l4), AD.one (D.sl 6 l11)] [AD.one (B b16)], (!b16) = false, Ret Tryz.prog 41 [AD.one (D.sl 5 l5), AD.one (D.sl 5 l12)] [AD.one (B b17)], (!b17) = false, Ret Tryz.prog 42 [AD.one (D.sl 3 l6), AD.one (D.sl 3 l13)] [AD.one (B b18)], (!b18) = false]) :
    Ret Tryz.prog 12 [AD.agg [D.sl 4 l0, I n1, I n2, D.sl 8 l3, D.sl 6 l4, D.sl 5 l5, D.sl 3 l6], AD.agg [D.sl 4 l7, I n8, I n9, D.sl 8 l10, D.sl 6 l11, D.sl 5 l12, D.sl 3 l13]] [AD.one (B true)] :=
  .of [Ans.res [AD.one (B b14)], Ans.br false, Ans.res [AD.one (B b15)], Ans.br false, Ans.res [AD.one (B b16)], Ans.br false, Ans.res [AD.one (B b17)], Ans.br false, Ans.res [AD.one (B b18)], Ans.br false] _ Tryz.func12 rfl (by kernel_rfl) h


end Go.Proofs.YtbbjajmimckabaaGreat
