import Derived.Test.YtenekpkjlgddnaaRows
import Derived.Test.YtenekpkjlgddnaaR22
import Derived.Test.YtenekpkjlgddnaaR33
set_option linter.unusedVariables false
set_option linter.unusedSimpArgs false
namespace Go.Proofs.Ytenekpkjlgddnaa
open Go.Sx Go.RowKit

/- loop.example/g00973/laws.szRecordS -/

theorem laws_szRecordS_p0 (l0 : List (List D)) (n1 : Int)
    (h : Obs [inInt IntKind.i64 (n1 - (↑l0.length : Int)), decide (n1 - (↑l0.length : Int) < 0) = true]) :
    Ret Try.prog 7 [AD.one (D.sl 5 l0), AD.one (I n1)] [AD.one (I (-1))] :=
  .of [Ans.br true] _ Try.func7 rfl (by kernel_rfl) h

theorem laws_szRecordS_p1 (l0 : List (List D)) (n1 : Int)
    (h : Obs [inInt IntKind.i64 (n1 - (↑l0.length : Int)), decide (n1 - (↑l0.length : Int) < 0) = false]) :
    Ret Try.prog 7 [AD.one (D.sl 5 l0), AD.one (I n1)] [AD.one (I (n1 - (↑l0.length : Int)))] :=
  .of [Ans.br false] _ Try.func7 rfl (by kernel_rfl) h

/- loop.example/g00973/laws.szIntS -/

theorem laws_szIntS_p0 (l0 : List (List D)) (n1 : Int)
    (h : Obs [inInt IntKind.i64 (n1 - (↑l0.length : Int)), decide (n1 - (↑l0.length : Int) < 0) = true]) :
    Ret Try.prog 70 [AD.one (D.sl 1 l0), AD.one (I n1)] [AD.one (I (-1))] :=
  .of [Ans.br true] _ Try.func70 rfl (by kernel_rfl) h

theorem laws_szIntS_p1 (l0 : List (List D)) (n1 : Int)
    (h : Obs [inInt IntKind.i64 (n1 - (↑l0.length : Int)), decide (n1 - (↑l0.length : Int) < 0) = false]) :
    Ret Try.prog 70 [AD.one (D.sl 1 l0), AD.one (I n1)] [AD.one (I (n1 - (↑l0.length : Int)))] :=
  .of [Ans.br false] _ Try.func70 rfl (by kernel_rfl) h

/- loop.example/g00973/laws.szNode -/

theorem laws_szNode_p0 (n0 : Int) (n1 : Int) (n2 : Int) (l3 : List (List D)) (n4 : Int) (n5 : Int)
    (h : Obs [Ret Try.prog 70 [AD.one (D.sl 1 l3), AD.one (I n4)] [AD.one (I n5)], decide (n5 < 0) = true]) :
    Ret Try.prog 47 [AD.agg [I n0, I n1, I n2, D.sl 1 l3], AD.one (I n4)] [AD.one (I (-1))] :=
  .of [Ans.res [AD.one (I n5)], Ans.br true] _ Try.func47 rfl (by kernel_rfl) h

theorem laws_szNode_p1 (n0 : Int) (n1 : Int) (n2 : Int) (l3 : List (List D)) (n4 : Int) (n5 : Int)
    (h : Obs [Ret Try.prog 70 [AD.one (D.sl 1 l3), AD.one (I n4)] [AD.one (I n5)], decide (n5 < 0) = false]) :
    Ret Try.prog 47 [AD.agg [I n0, I n1, I n2, D.sl 1 l3], AD.one (I n4)] [AD.one (I n5)] :=
  .of [Ans.res [AD.one (I n5)], Ans.br false] _ Try.func47 rfl (by kernel_rfl) h

/- loop.example/g00973/laws.szNodeS -/

theorem laws_szNodeS_p0 (l0 : List (List D)) (n1 : Int)
    (h : Obs [inInt IntKind.i64 (n1 - (↑l0.length : Int)), decide (n1 - (↑l0.length : Int) < 0) = true]) :
    Ret Try.prog 22 [AD.one (D.sl 4 l0), AD.one (I n1)] [AD.one (I (-1))] :=
  .of [Ans.br true] _ Try.func22 rfl (by kernel_rfl) h

def laws_szNodeS_L0 (l0 : List (List D)) (n1 : Int) (n2 : Int) : St :=
  { env := envOf 27 [(0, PV.al (AL.one (Leaf.sl Tag.free 4 l0))), (1, PV.al (AL.one (Leaf.v (Value.int IntKind.i64 n2)))), (5, PV.al (AL.one (Leaf.v (Value.int IntKind.i64 n1))))], boxes := [] }

def laws_szNodeS_X0 (n0 : Int) : St :=
  { env := envOf 27 [(4, PV.al (AL.one (Leaf.v (Value.int IntKind.i64 n0))))], boxes := [] }

theorem laws_szNodeS_L0_x0 (l0 : List (List D)) (n2 : Int) (n3 : Int) (n4 : Int) (n5 : Int) (n6 : Int) (l7 : List (List D)) (n8 : Int)
    (h : Obs [decide (n2 < (↑l0.length : Int)) = true, 0 ≤ n2, n2 < (↑l0.length : Int), l0[n2.toNat]? = some [I n4, I n5, I n6, D.sl 1 l7], Ret Try.prog 47 [AD.agg [I n4, I n5, I n6, D.sl 1 l7], AD.one (I n3)] [AD.one (I n8)], decide (n8 < 0) = true]) :
    Tr Try.prog (loopOf Try.f22 0) (laws_szNodeS_L0 l0 n2 n3) Ex.ret (laws_szNodeS_X0 (-1)) :=
  .of_loopc (ks := [4]) (bs := []) (ans := [Ans.br true, Ans.el [I n4, I n5, I n6, D.sl 1 l7], Ans.res [AD.one (I n8)], Ans.br true]) (by kernel_rfl) h

theorem laws_szNodeS_L0_s1 (l0 : List (List D)) (n2 : Int) (n3 : Int) (n4 : Int) (n5 : Int) (n6 : Int) (l7 : List (List D)) (n8 : Int)
    (h : Obs [decide (n2 < (↑l0.length : Int)) = true, 0 ≤ n2, n2 < (↑l0.length : Int), l0[n2.toNat]? = some [I n4, I n5, I n6, D.sl 1 l7], Ret Try.prog 47 [AD.agg [I n4, I n5, I n6, D.sl 1 l7], AD.one (I n3)] [AD.one (I n8)], decide (n8 < 0) = false, inInt IntKind.i64 (n2 + 1)]) :
    Tr Try.prog (loopOf Try.f22 0) (laws_szNodeS_L0 l0 n2 n3) Ex.normal (laws_szNodeS_L0 l0 (n2 + 1) n8) :=
  .of_loopc (ks := [5, 0, 1]) (bs := []) (ans := [Ans.br true, Ans.el [I n4, I n5, I n6, D.sl 1 l7], Ans.res [AD.one (I n8)], Ans.br false]) (by kernel_rfl) h

def laws_szNodeS_X0v2 (n0 : Int) : St :=
  { env := envOf 27 [(1, PV.al (AL.one (Leaf.v (Value.int IntKind.i64 n0))))], boxes := [] }

theorem laws_szNodeS_L0_x2 (l0 : List (List D)) (n2 : Int) (n3 : Int)
    (h : Obs [decide (n2 < (↑l0.length : Int)) = false]) :
    Tr Try.prog (loopOf Try.f22 0) (laws_szNodeS_L0 l0 n2 n3) (Ex.exit 0) (laws_szNodeS_X0v2 n3) :=
  .of_loopc (ks := [1]) (bs := []) (ans := [Ans.br false]) (by kernel_rfl) h

theorem laws_szNodeS_p1 (l0 : List (List D)) (n1 : Int) (n2 : Int)
    (h : Obs [inInt IntKind.i64 (n1 - (↑l0.length : Int)), decide (n1 - (↑l0.length : Int) < 0) = false, LoopOk Try.prog (loopOf Try.f22 0) (laws_szNodeS_L0 l0 0 (n1 - (↑l0.length : Int))) Ex.ret (laws_szNodeS_X0 n2)]) :
    Ret Try.prog 22 [AD.one (D.sl 4 l0), AD.one (I n1)] [AD.one (I n2)] :=
  .of [Ans.br false, Ans.loop [] [5, 0, 1] [] Ex.ret (laws_szNodeS_X0 n2)] _ Try.func22 rfl (by kernel_rfl) h

theorem laws_szNodeS_p2 (l0 : List (List D)) (n1 : Int) (n2 : Int)
    (h : Obs [inInt IntKind.i64 (n1 - (↑l0.length : Int)), decide (n1 - (↑l0.length : Int) < 0) = false, LoopOk Try.prog (loopOf Try.f22 0) (laws_szNodeS_L0 l0 0 (n1 - (↑l0.length : Int))) (Ex.exit 0) (laws_szNodeS_X0v2 n2)]) :
    Ret Try.prog 22 [AD.one (D.sl 4 l0), AD.one (I n1)] [AD.one (I n2)] :=
  .of [Ans.br false, Ans.loop [] [5, 0, 1] [] (Ex.exit 0) (laws_szNodeS_X0v2 n2)] _ Try.func22 rfl (by kernel_rfl) h

/- loop.example/g00973/laws.szGraph -/

theorem laws_szGraph_p0 (l0 : List (List D)) (n1 : Int) (n2 : Int) (n3 : Int) (n4 : Int)
    (h : Obs [Ret Try.prog 22 [AD.one (D.sl 4 l0), AD.one (I n3)] [AD.one (I n4)], decide (n4 < 0) = true]) :
    Ret Try.prog 6 [AD.agg [D.sl 4 l0, I n1, I n2], AD.one (I n3)] [AD.one (I (-1))] :=
  .of [Ans.res [AD.one (I n4)], Ans.br true] _ Try.func6 rfl (by kernel_rfl) h

theorem laws_szGraph_p1 (l0 : List (List D)) (n1 : Int) (n2 : Int) (n3 : Int) (n4 : Int)
    (h : Obs [Ret Try.prog 22 [AD.one (D.sl 4 l0), AD.one (I n3)] [AD.one (I n4)], decide (n4 < 0) = false]) :
    Ret Try.prog 6 [AD.agg [D.sl 4 l0, I n1, I n2], AD.one (I n3)] [AD.one (I n4)] :=
  .of [Ans.res [AD.one (I n4)], Ans.br false] _ Try.func6 rfl (by kernel_rfl) h

end Go.Proofs.Ytenekpkjlgddnaa

namespace Go.Proofs.Ytenekpkjlgddnaa
open Go.Sx Go.RowKit

/- loop.example/g00973/laws.toStamp -/

theorem laws_toStamp_p0 (n0 : Int) (n1 : Int)
    (h : Obs []) :
    Ret Try.prog 53 [AD.agg [I n0, I n1]] [AD.agg [I n0, I n1]] :=
  .of [] _ Try.func53 rfl (by kernel_rfl) h

/- loop.example/g00973/laws.toRecord -/

theorem laws_toRecord_p0 (n0 : Int) (n1 : Int) (n2 : Int) (n3 : Int) (n4 : Int) (n5 : Int) (n6 : Int)
    (h : Obs [Ret Try.prog 53 [AD.agg [I n1, I n2]] [AD.agg [I n5, I n6]]]) :
    Ret Try.prog 25 [AD.agg [I n0, I n1, I n2, I n3, I n4]] [AD.agg [I n0, I n5, I n6, I n3, I n4]] :=
  .of [Ans.res [AD.agg [I n5, I n6]]] _ Try.func25 rfl (by kernel_rfl) h

/- loop.example/g00973/laws.toRecordS -/

def laws_toRecordS_L0 (l0 : List (List D)) (n1 : Int) (l2 : List (List D)) : St :=
  { env := envOf 23 [(0, PV.al (AL.one (Leaf.sl Tag.free 5 l0))), (3, PV.al (AL.one (Leaf.sl (Tag.own 7) 5 l2))), (4, PV.al (AL.one (Leaf.v (Value.int IntKind.i64 n1))))], boxes := [] }

theorem laws_toRecordS_L0_s0 (l0 : List (List D)) (n1 : Int) (l2 : List (List D)) (n3 : Int) (n4 : Int) (n5 : Int) (n6 : Int) (n7 : Int) (n8 : Int) (n9 : Int) (n10 : Int) (n11 : Int) (n12 : Int) (d13 : D) (d14 : D) (d15 : D) (d16 : D) (d17 : D)
    (h : Obs [decide (n1 < (↑l0.length : Int)) = true, 0 ≤ n1, n1 < (↑l0.length : Int), l0[n1.toNat]? = some [I n3, I n4, I n5, I n6, I n7], Ret Try.prog 25 [AD.agg [I n3, I n4, I n5, I n6, I n7]] [AD.agg [I n8, I n9, I n10, I n11, I n12]], 0 ≤ n1, n1 < (↑l2.length : Int), l2[n1.toNat]? = some [d13, d14, d15, d16, d17], inInt IntKind.i64 (n1 + 1)]) :
    Tr Try.prog (loopOf Try.f10 0) (laws_toRecordS_L0 l0 n1 l2) Ex.normal (laws_toRecordS_L0 l0 (n1 + 1) (l2.set n1.toNat [I n8, I n9, I n10, I n11, I n12])) :=
  .of_loopc (ks := [4, 0, 3]) (bs := []) (ans := [Ans.br true, Ans.el [I n3, I n4, I n5, I n6, I n7], Ans.res [AD.agg [I n8, I n9, I n10, I n11, I n12]], Ans.el [d13, d14, d15, d16, d17]]) (by kernel_rfl) h

def laws_toRecordS_X0 (l0 : List (List D)) : St :=
  { env := envOf 23 [(3, PV.al (AL.one (Leaf.sl (Tag.own 7) 5 l0)))], boxes := [] }

theorem laws_toRecordS_L0_x1 (l0 : List (List D)) (n1 : Int) (l2 : List (List D))
    (h : Obs [decide (n1 < (↑l0.length : Int)) = false]) :
    Tr Try.prog (loopOf Try.f10 0) (laws_toRecordS_L0 l0 n1 l2) (Ex.exit 0) (laws_toRecordS_X0 l2) :=
  .of_loopc (ks := [3]) (bs := []) (ans := [Ans.br false]) (by kernel_rfl) h

theorem laws_toRecordS_p0 (l0 : List (List D)) (l1 : List (List D))
    (h : Obs [0 ≤ (↑l0.length : Int), (↑l0.length : Int) ≤ (↑l0.length : Int), (↑40 : Int) * (↑l0.length : Int) ≤ 281474976710656, (↑l0.length : Int) ≤ 9223372036854775807, LoopOk Try.prog (loopOf Try.f10 0) (laws_toRecordS_L0 l0 0 (List.replicate l0.length [I 0, I 0, I 0, I 0, I 0])) (Ex.exit 0) (laws_toRecordS_X0 l1)]) :
    Ret Try.prog 10 [AD.one (D.sl 5 l0)] [AD.one (D.sl 5 l1)] :=
  .of [Ans.loop [] [4, 0, 3] [] (Ex.exit 0) (laws_toRecordS_X0 l1)] _ Try.func10 rfl (by kernel_rfl) h

/- loop.example/g00973/laws.toIntS -/

def laws_toIntS_L0 (l0 : List (List D)) (n1 : Int) (l2 : List (List D)) : St :=
  { env := envOf 22 [(0, PV.al (AL.one (Leaf.sl Tag.free 1 l0))), (3, PV.al (AL.one (Leaf.sl (Tag.own 7) 1 l2))), (4, PV.al (AL.one (Leaf.v (Value.int IntKind.i64 n1))))], boxes := [] }

theorem laws_toIntS_L0_s0 (l0 : List (List D)) (n1 : Int) (l2 : List (List D)) (n3 : Int) (d4 : D)
    (h : Obs [decide (n1 < (↑l0.length : Int)) = true, 0 ≤ n1, n1 < (↑l0.length : Int), l0[n1.toNat]? = some [I n3], 0 ≤ n1, n1 < (↑l2.length : Int), l2[n1.toNat]? = some [d4], inInt IntKind.i64 (n1 + 1)]) :
    Tr Try.prog (loopOf Try.f79 0) (laws_toIntS_L0 l0 n1 l2) Ex.normal (laws_toIntS_L0 l0 (n1 + 1) (l2.set n1.toNat [I n3])) :=
  .of_loopc (ks := [4, 0, 3]) (bs := []) (ans := [Ans.br true, Ans.el [I n3], Ans.el [d4]]) (by kernel_rfl) h

def laws_toIntS_X0 (l0 : List (List D)) : St :=
  { env := envOf 22 [(3, PV.al (AL.one (Leaf.sl (Tag.own 7) 1 l0)))], boxes := [] }

theorem laws_toIntS_L0_x1 (l0 : List (List D)) (n1 : Int) (l2 : List (List D))
    (h : Obs [decide (n1 < (↑l0.length : Int)) = false]) :
    Tr Try.prog (loopOf Try.f79 0) (laws_toIntS_L0 l0 n1 l2) (Ex.exit 0) (laws_toIntS_X0 l2) :=
  .of_loopc (ks := [3]) (bs := []) (ans := [Ans.br false]) (by kernel_rfl) h

theorem laws_toIntS_p0 (l0 : List (List D)) (l1 : List (List D))
    (h : Obs [0 ≤ (↑l0.length : Int), (↑l0.length : Int) ≤ (↑l0.length : Int), (↑8 : Int) * (↑l0.length : Int) ≤ 281474976710656, (↑l0.length : Int) ≤ 9223372036854775807, LoopOk Try.prog (loopOf Try.f79 0) (laws_toIntS_L0 l0 0 (List.replicate l0.length [I 0])) (Ex.exit 0) (laws_toIntS_X0 l1)]) :
    Ret Try.prog 79 [AD.one (D.sl 1 l0)] [AD.one (D.sl 1 l1)] :=
  .of [Ans.loop [] [4, 0, 3] [] (Ex.exit 0) (laws_toIntS_X0 l1)] _ Try.func79 rfl (by kernel_rfl) h

/- loop.example/g00973/laws.toNode -/

theorem laws_toNode_p0 (n0 : Int) (n1 : Int) (n2 : Int) (l3 : List (List D)) (l4 : List (List D))
    (h : Obs [Ret Try.prog 79 [AD.one (D.sl 1 l3)] [AD.one (D.sl 1 l4)]]) :
    Ret Try.prog 52 [AD.agg [I n0, I n1, I n2, D.sl 1 l3]] [AD.agg [I n0, I n1, I n2, D.sl 1 l4]] :=
  .of [Ans.res [AD.one (D.sl 1 l4)]] _ Try.func52 rfl (by kernel_rfl) h

/- loop.example/g00973/laws.toNodeS -/

def laws_toNodeS_L0 (l0 : List (List D)) (n1 : Int) (l2 : List (List D)) : St :=
  { env := envOf 23 [(0, PV.al (AL.one (Leaf.sl Tag.free 4 l0))), (3, PV.al (AL.one (Leaf.sl (Tag.own 7) 4 l2))), (4, PV.al (AL.one (Leaf.v (Value.int IntKind.i64 n1))))], boxes := [] }

theorem laws_toNodeS_L0_s0 (l0 : List (List D)) (n1 : Int) (l2 : List (List D)) (n3 : Int) (n4 : Int) (n5 : Int) (l6 : List (List D)) (n7 : Int) (n8 : Int) (n9 : Int) (l10 : List (List D)) (d11 : D) (d12 : D) (d13 : D) (d14 : D)
    (h : Obs [decide (n1 < (↑l0.length : Int)) = true, 0 ≤ n1, n1 < (↑l0.length : Int), l0[n1.toNat]? = some [I n3, I n4, I n5, D.sl 1 l6], Ret Try.prog 52 [AD.agg [I n3, I n4, I n5, D.sl 1 l6]] [AD.agg [I n7, I n8, I n9, D.sl 1 l10]], 0 ≤ n1, n1 < (↑l2.length : Int), l2[n1.toNat]? = some [d11, d12, d13, d14], inInt IntKind.i64 (n1 + 1)]) :
    Tr Try.prog (loopOf Try.f24 0) (laws_toNodeS_L0 l0 n1 l2) Ex.normal (laws_toNodeS_L0 l0 (n1 + 1) (l2.set n1.toNat [I n7, I n8, I n9, D.sl 1 l10])) :=
  .of_loopc (ks := [4, 0, 3]) (bs := []) (ans := [Ans.br true, Ans.el [I n3, I n4, I n5, D.sl 1 l6], Ans.res [AD.agg [I n7, I n8, I n9, D.sl 1 l10]], Ans.el [d11, d12, d13, d14]]) (by kernel_rfl) h

def laws_toNodeS_X0 (l0 : List (List D)) : St :=
  { env := envOf 23 [(3, PV.al (AL.one (Leaf.sl (Tag.own 7) 4 l0)))], boxes := [] }

theorem laws_toNodeS_L0_x1 (l0 : List (List D)) (n1 : Int) (l2 : List (List D))
    (h : Obs [decide (n1 < (↑l0.length : Int)) = false]) :
    Tr Try.prog (loopOf Try.f24 0) (laws_toNodeS_L0 l0 n1 l2) (Ex.exit 0) (laws_toNodeS_X0 l2) :=
  .of_loopc (ks := [3]) (bs := []) (ans := [Ans.br false]) (by kernel_rfl) h

theorem laws_toNodeS_p0 (l0 : List (List D)) (l1 : List (List D))
    (h : Obs [0 ≤ (↑l0.length : Int), (↑l0.length : Int) ≤ (↑l0.length : Int), (↑48 : Int) * (↑l0.length : Int) ≤ 281474976710656, (↑l0.length : Int) ≤ 9223372036854775807, LoopOk Try.prog (loopOf Try.f24 0) (laws_toNodeS_L0 l0 0 (List.replicate l0.length [I 0, I 0, I 0, D.v (Value.slice none 0 0)])) (Ex.exit 0) (laws_toNodeS_X0 l1)]) :
    Ret Try.prog 24 [AD.one (D.sl 4 l0)] [AD.one (D.sl 4 l1)] :=
  .of [Ans.loop [] [4, 0, 3] [] (Ex.exit 0) (laws_toNodeS_X0 l1)] _ Try.func24 rfl (by kernel_rfl) h

/- loop.example/g00973/laws.toGraph -/

theorem laws_toGraph_p0 (l0 : List (List D)) (n1 : Int) (n2 : Int) (l3 : List (List D))
    (h : Obs [Ret Try.prog 24 [AD.one (D.sl 4 l0)] [AD.one (D.sl 4 l3)]]) :
    Ret Try.prog 9 [AD.agg [D.sl 4 l0, I n1, I n2]] [AD.agg [D.sl 4 l3, I n1, I n2]] :=
  .of [Ans.res [AD.one (D.sl 4 l3)]] _ Try.func9 rfl (by kernel_rfl) h

end Go.Proofs.Ytenekpkjlgddnaa

namespace Go.Proofs.Ytenekpkjlgddnaa
open Go.Sx Go.RowKit

/- loop.example/g00973/laws.eqStamp -/

theorem laws_eqStamp_p0 (n0 : Int) (n1 : Int) (n2 : Int) (n3 : Int)
    (h : Obs [(n0 != n2) = true]) :
    Ret Try.prog 56 [AD.agg [I n0, I n1], AD.agg [I n2, I n3]] [AD.one (B false)] :=
  .of [Ans.br true] _ Try.func56 rfl (by kernel_rfl) h

theorem laws_eqStamp_p1 (n0 : Int) (n1 : Int) (n2 : Int) (n3 : Int)
    (h : Obs [(n0 != n2) = false, (n1 != n3) = true]) :
    Ret Try.prog 56 [AD.agg [I n0, I n1], AD.agg [I n2, I n3]] [AD.one (B false)] :=
  .of [Ans.br false, Ans.br true] _ Try.func56 rfl (by kernel_rfl) h

theorem laws_eqStamp_p2 (n0 : Int) (n1 : Int) (n2 : Int) (n3 : Int)
    (h : Obs [(n0 != n2) = false, (n1 != n3) = false]) :
    Ret Try.prog 56 [AD.agg [I n0, I n1], AD.agg [I n2, I n3]] [AD.one (B true)] :=
  .of [Ans.br false, Ans.br false] _ Try.func56 rfl (by kernel_rfl) h

/- loop.example/g00973/laws.eqRecord -/

theorem laws_eqRecord_p0 (n0 : Int) (n1 : Int) (n2 : Int) (n3 : Int) (n4 : Int) (n5 : Int) (n6 : Int) (n7 : Int) (n8 : Int) (n9 : Int)
    (h : Obs [(n0 != n5) = true]) :
    Ret Try.prog 29 [AD.agg [I n0, I n1, I n2, I n3, I n4], AD.agg [I n5, I n6, I n7, I n8, I n9]] [AD.one (B false)] :=
  .of [Ans.br true] _ Try.func29 rfl (by kernel_rfl) h

theorem laws_eqRecord_p1 (n0 : Int) (n1 : Int) (n2 : Int) (n3 : Int) (n4 : Int) (n5 : Int) (n6 : Int) (n7 : Int) (n8 : Int) (n9 : Int) (b10 : Bool)
    (h : Obs [(n0 != n5) = false, Ret Try.prog 56 [AD.agg [I n1, I n2], AD.agg [I n6, I n7]] [AD.one (B b10)], (!b10) = true]) :
    Ret Try.prog 29 [AD.agg [I n0, I n1, I n2, I n3, I n4], AD.agg [I n5, I n6, I n7, I n8, I n9]] [AD.one (B false)] :=
  .of [Ans.br false, Ans.res [AD.one (B b10)], Ans.br true] _ Try.func29 rfl (by kernel_rfl) h

theorem laws_eqRecord_p2 (n0 : Int) (n1 : Int) (n2 : Int) (n3 : Int) (n4 : Int) (n5 : Int) (n6 : Int) (n7 : Int) (n8 : Int) (n9 : Int) (b10 : Bool)
    (h : Obs [(n0 != n5) = false, Ret Try.prog 56 [AD.agg [I n1, I n2], AD.agg [I n6, I n7]] [AD.one (B b10)], (!b10) = false, (n3 != n8) = true]) :
    Ret Try.prog 29 [AD.agg [I n0, I n1, I n2, I n3, I n4], AD.agg [I n5, I n6, I n7, I n8, I n9]] [AD.one (B false)] :=
  .of [Ans.br false, Ans.res [AD.one (B b10)], Ans.br false, Ans.br true] _ Try.func29 rfl (by kernel_rfl) h

theorem laws_eqRecord_p3 (n0 : Int) (n1 : Int) (n2 : Int) (n3 : Int) (n4 : Int) (n5 : Int) (n6 : Int) (n7 : Int) (n8 : Int) (n9 : Int) (b10 : Bool)
    (h : Obs [(n0 != n5) = false, Ret Try.prog 56 [AD.agg [I n1, I n2], AD.agg [I n6, I n7]] [AD.one (B b10)], (!b10) = false, (n3 != n8) = false, (n4 != n9) = true]) :
    Ret Try.prog 29 [AD.agg [I n0, I n1, I n2, I n3, I n4], AD.agg [I n5, I n6, I n7, I n8, I n9]] [AD.one (B false)] :=
  .of [Ans.br false, Ans.res [AD.one (B b10)], Ans.br false, Ans.br false, Ans.br true] _ Try.func29 rfl (by kernel_rfl) h

theorem laws_eqRecord_p4 (n0 : Int) (n1 : Int) (n2 : Int) (n3 : Int) (n4 : Int) (n5 : Int) (n6 : Int) (n7 : Int) (n8 : Int) (n9 : Int) (b10 : Bool)
    (h : Obs [(n0 != n5) = false, Ret Try.prog 56 [AD.agg [I n1, I n2], AD.agg [I n6, I n7]] [AD.one (B b10)], (!b10) = false, (n3 != n8) = false, (n4 != n9) = false]) :
    Ret Try.prog 29 [AD.agg [I n0, I n1, I n2, I n3, I n4], AD.agg [I n5, I n6, I n7, I n8, I n9]] [AD.one (B true)] :=
  .of [Ans.br false, Ans.res [AD.one (B b10)], Ans.br false, Ans.br false, Ans.br false] _ Try.func29 rfl (by kernel_rfl) h

/- loop.example/g00973/laws.eqRecordS -/

theorem laws_eqRecordS_p0 (l0 : List (List D)) (l1 : List (List D))
    (h : Obs [((↑l0.length : Int) != (↑l1.length : Int)) = true]) :
    Ret Try.prog 13 [AD.one (D.sl 5 l0), AD.one (D.sl 5 l1)] [AD.one (B false)] :=
  .of [Ans.br true] _ Try.func13 rfl (by kernel_rfl) h

def laws_eqRecordS_L0 (l0 : List (List D)) (l1 : List (List D)) (n2 : Int) : St :=
  { env := envOf 27 [(0, PV.al (AL.one (Leaf.sl Tag.free 5 l0))), (1, PV.al (AL.one (Leaf.sl Tag.free 5 l1))), (5, PV.al (AL.one (Leaf.v (Value.int IntKind.i64 n2))))], boxes := [] }

def laws_eqRecordS_X0 (b0 : Bool) : St :=
  { env := envOf 27 [(4, PV.al (AL.one (Leaf.sb b0)))], boxes := [] }

theorem laws_eqRecordS_L0_x0 (l0 : List (List D)) (l1 : List (List D)) (n2 : Int) (n3 : Int) (n4 : Int) (n5 : Int) (n6 : Int) (n7 : Int) (n8 : Int) (n9 : Int) (n10 : Int) (n11 : Int) (n12 : Int) (b13 : Bool)
    (h : Obs [decide (n2 < (↑l0.length : Int)) = true, 0 ≤ n2, n2 < (↑l0.length : Int), l0[n2.toNat]? = some [I n3, I n4, I n5, I n6, I n7], 0 ≤ n2, n2 < (↑l1.length : Int), l1[n2.toNat]? = some [I n8, I n9, I n10, I n11, I n12], Ret Try.prog 29 [AD.agg [I n3, I n4, I n5, I n6, I n7], AD.agg [I n8, I n9, I n10, I n11, I n12]] [AD.one (B b13)], (!b13) = true]) :
    Tr Try.prog (loopOf Try.f13 0) (laws_eqRecordS_L0 l0 l1 n2) Ex.ret (laws_eqRecordS_X0 false) :=
  .of_loopc (ks := [4]) (bs := []) (ans := [Ans.br true, Ans.el [I n3, I n4, I n5, I n6, I n7], Ans.el [I n8, I n9, I n10, I n11, I n12], Ans.res [AD.one (B b13)], Ans.br true]) (by kernel_rfl) h

theorem laws_eqRecordS_L0_s1 (l0 : List (List D)) (l1 : List (List D)) (n2 : Int) (n3 : Int) (n4 : Int) (n5 : Int) (n6 : Int) (n7 : Int) (n8 : Int) (n9 : Int) (n10 : Int) (n11 : Int) (n12 : Int) (b13 : Bool)
    (h : Obs [decide (n2 < (↑l0.length : Int)) = true, 0 ≤ n2, n2 < (↑l0.length : Int), l0[n2.toNat]? = some [I n3, I n4, I n5, I n6, I n7], 0 ≤ n2, n2 < (↑l1.length : Int), l1[n2.toNat]? = some [I n8, I n9, I n10, I n11, I n12], Ret Try.prog 29 [AD.agg [I n3, I n4, I n5, I n6, I n7], AD.agg [I n8, I n9, I n10, I n11, I n12]] [AD.one (B b13)], (!b13) = false, inInt IntKind.i64 (n2 + 1)]) :
    Tr Try.prog (loopOf Try.f13 0) (laws_eqRecordS_L0 l0 l1 n2) Ex.normal (laws_eqRecordS_L0 l0 l1 (n2 + 1)) :=
  .of_loopc (ks := [5, 0, 1]) (bs := []) (ans := [Ans.br true, Ans.el [I n3, I n4, I n5, I n6, I n7], Ans.el [I n8, I n9, I n10, I n11, I n12], Ans.res [AD.one (B b13)], Ans.br false]) (by kernel_rfl) h

def laws_eqRecordS_X0v2 : St :=
  { env := envOf 27 [], boxes := [] }

theorem laws_eqRecordS_L0_x2 (l0 : List (List D)) (l1 : List (List D)) (n2 : Int)
    (h : Obs [decide (n2 < (↑l0.length : Int)) = false]) :
    Tr Try.prog (loopOf Try.f13 0) (laws_eqRecordS_L0 l0 l1 n2) (Ex.exit 0) laws_eqRecordS_X0v2 :=
  .of_loopc (ks := []) (bs := []) (ans := [Ans.br false]) (by kernel_rfl) h

theorem laws_eqRecordS_p1 (l0 : List (List D)) (l1 : List (List D)) (b2 : Bool)
    (h : Obs [((↑l0.length : Int) != (↑l1.length : Int)) = false, LoopOk Try.prog (loopOf Try.f13 0) (laws_eqRecordS_L0 l0 l1 0) Ex.ret (laws_eqRecordS_X0 b2)]) :
    Ret Try.prog 13 [AD.one (D.sl 5 l0), AD.one (D.sl 5 l1)] [AD.one (B b2)] :=
  .of [Ans.br false, Ans.loop [] [5, 0, 1] [] Ex.ret (laws_eqRecordS_X0 b2)] _ Try.func13 rfl (by kernel_rfl) h

theorem laws_eqRecordS_p2 (l0 : List (List D)) (l1 : List (List D))
    (h : Obs [((↑l0.length : Int) != (↑l1.length : Int)) = false, LoopOk Try.prog (loopOf Try.f13 0) (laws_eqRecordS_L0 l0 l1 0) (Ex.exit 0) laws_eqRecordS_X0v2]) :
    Ret Try.prog 13 [AD.one (D.sl 5 l0), AD.one (D.sl 5 l1)] [AD.one (B true)] :=
  .of [Ans.br false, Ans.loop [] [5, 0, 1] [] (Ex.exit 0) laws_eqRecordS_X0v2] _ Try.func13 rfl (by kernel_rfl) h

/- loop.example/g00973/laws.eqIntS -/

theorem laws_eqIntS_p0 (l0 : List (List D)) (l1 : List (List D))
    (h : Obs [((↑l0.length : Int) != (↑l1.length : Int)) = true]) :
    Ret Try.prog 80 [AD.one (D.sl 1 l0), AD.one (D.sl 1 l1)] [AD.one (B false)] :=
  .of [Ans.br true] _ Try.func80 rfl (by kernel_rfl) h

def laws_eqIntS_L0 (l0 : List (List D)) (l1 : List (List D)) (n2 : Int) : St :=
  { env := envOf 26 [(0, PV.al (AL.one (Leaf.sl Tag.free 1 l0))), (1, PV.al (AL.one (Leaf.sl Tag.free 1 l1))), (5, PV.al (AL.one (Leaf.v (Value.int IntKind.i64 n2))))], boxes := [] }

def laws_eqIntS_X0 (b0 : Bool) : St :=
  { env := envOf 26 [(4, PV.al (AL.one (Leaf.sb b0)))], boxes := [] }

theorem laws_eqIntS_L0_x0 (l0 : List (List D)) (l1 : List (List D)) (n2 : Int) (n3 : Int) (n4 : Int)
    (h : Obs [decide (n2 < (↑l0.length : Int)) = true, 0 ≤ n2, n2 < (↑l0.length : Int), l0[n2.toNat]? = some [I n3], 0 ≤ n2, n2 < (↑l1.length : Int), l1[n2.toNat]? = some [I n4], (n3 != n4) = true]) :
    Tr Try.prog (loopOf Try.f80 0) (laws_eqIntS_L0 l0 l1 n2) Ex.ret (laws_eqIntS_X0 false) :=
  .of_loopc (ks := [4]) (bs := []) (ans := [Ans.br true, Ans.el [I n3], Ans.el [I n4], Ans.br true]) (by kernel_rfl) h

theorem laws_eqIntS_L0_s1 (l0 : List (List D)) (l1 : List (List D)) (n2 : Int) (n3 : Int) (n4 : Int)
    (h : Obs [decide (n2 < (↑l0.length : Int)) = true, 0 ≤ n2, n2 < (↑l0.length : Int), l0[n2.toNat]? = some [I n3], 0 ≤ n2, n2 < (↑l1.length : Int), l1[n2.toNat]? = some [I n4], (n3 != n4) = false, inInt IntKind.i64 (n2 + 1)]) :
    Tr Try.prog (loopOf Try.f80 0) (laws_eqIntS_L0 l0 l1 n2) Ex.normal (laws_eqIntS_L0 l0 l1 (n2 + 1)) :=
  .of_loopc (ks := [5, 0, 1]) (bs := []) (ans := [Ans.br true, Ans.el [I n3], Ans.el [I n4], Ans.br false]) (by kernel_rfl) h

def laws_eqIntS_X0v2 : St :=
  { env := envOf 26 [], boxes := [] }

theorem laws_eqIntS_L0_x2 (l0 : List (List D)) (l1 : List (List D)) (n2 : Int)
    (h : Obs [decide (n2 < (↑l0.length : Int)) = false]) :
    Tr Try.prog (loopOf Try.f80 0) (laws_eqIntS_L0 l0 l1 n2) (Ex.exit 0) laws_eqIntS_X0v2 :=
  .of_loopc (ks := []) (bs := []) (ans := [Ans.br false]) (by kernel_rfl) h

theorem laws_eqIntS_p1 (l0 : List (List D)) (l1 : List (List D)) (b2 : Bool)
    (h : Obs [((↑l0.length : Int) != (↑l1.length : Int)) = false, LoopOk Try.prog (loopOf Try.f80 0) (laws_eqIntS_L0 l0 l1 0) Ex.ret (laws_eqIntS_X0 b2)]) :
    Ret Try.prog 80 [AD.one (D.sl 1 l0), AD.one (D.sl 1 l1)] [AD.one (B b2)] :=
  .of [Ans.br false, Ans.loop [] [5, 0, 1] [] Ex.ret (laws_eqIntS_X0 b2)] _ Try.func80 rfl (by kernel_rfl) h

theorem laws_eqIntS_p2 (l0 : List (List D)) (l1 : List (List D))
    (h : Obs [((↑l0.length : Int) != (↑l1.length : Int)) = false, LoopOk Try.prog (loopOf Try.f80 0) (laws_eqIntS_L0 l0 l1 0) (Ex.exit 0) laws_eqIntS_X0v2]) :
    Ret Try.prog 80 [AD.one (D.sl 1 l0), AD.one (D.sl 1 l1)] [AD.one (B true)] :=
  .of [Ans.br false, Ans.loop [] [5, 0, 1] [] (Ex.exit 0) laws_eqIntS_X0v2] _ Try.func80 rfl (by kernel_rfl) h

/- loop.example/g00973/laws.eqNode -/

theorem laws_eqNode_p0 (n0 : Int) (n1 : Int) (n2 : Int) (l3 : List (List D)) (n4 : Int) (n5 : Int) (n6 : Int) (l7 : List (List D))
    (h : Obs [(n0 != n4) = true]) :
    Ret Try.prog 55 [AD.agg [I n0, I n1, I n2, D.sl 1 l3], AD.agg [I n4, I n5, I n6, D.sl 1 l7]] [AD.one (B false)] :=
  .of [Ans.br true] _ Try.func55 rfl (by kernel_rfl) h

theorem laws_eqNode_p1 (n0 : Int) (n1 : Int) (n2 : Int) (l3 : List (List D)) (n4 : Int) (n5 : Int) (n6 : Int) (l7 : List (List D))
    (h : Obs [(n0 != n4) = false, (n1 != n5) = true]) :
    Ret Try.prog 55 [AD.agg [I n0, I n1, I n2, D.sl 1 l3], AD.agg [I n4, I n5, I n6, D.sl 1 l7]] [AD.one (B false)] :=
  .of [Ans.br false, Ans.br true] _ Try.func55 rfl (by kernel_rfl) h

theorem laws_eqNode_p2 (n0 : Int) (n1 : Int) (n2 : Int) (l3 : List (List D)) (n4 : Int) (n5 : Int) (n6 : Int) (l7 : List (List D))
    (h : Obs [(n0 != n4) = false, (n1 != n5) = false, (n2 != n6) = true]) :
    Ret Try.prog 55 [AD.agg [I n0, I n1, I n2, D.sl 1 l3], AD.agg [I n4, I n5, I n6, D.sl 1 l7]] [AD.one (B false)] :=
  .of [Ans.br false, Ans.br false, Ans.br true] _ Try.func55 rfl (by kernel_rfl) h

theorem laws_eqNode_p3 (n0 : Int) (n1 : Int) (n2 : Int) (l3 : List (List D)) (n4 : Int) (n5 : Int) (n6 : Int) (l7 : List (List D)) (b8 : Bool)
    (h : Obs [(n0 != n4) = false, (n1 != n5) = false, (n2 != n6) = false, Ret Try.prog 80 [AD.one (D.sl 1 l3), AD.one (D.sl 1 l7)] [AD.one (B b8)], (!b8) = true]) :
    Ret Try.prog 55 [AD.agg [I n0, I n1, I n2, D.sl 1 l3], AD.agg [I n4, I n5, I n6, D.sl 1 l7]] [AD.one (B false)] :=
  .of [Ans.br false, Ans.br false, Ans.br false, Ans.res [AD.one (B b8)], Ans.br true] _ Try.func55 rfl (by kernel_rfl) h

theorem laws_eqNode_p4 (n0 : Int) (n1 : Int) (n2 : Int) (l3 : List (List D)) (n4 : Int) (n5 : Int) (n6 : Int) (l7 : List (List D)) (b8 : Bool)
    (h : Obs [(n0 != n4) = false, (n1 != n5) = false, (n2 != n6) = false, Ret Try.prog 80 [AD.one (D.sl 1 l3), AD.one (D.sl 1 l7)] [AD.one (B b8)], (!b8) = false]) :
    Ret Try.prog 55 [AD.agg [I n0, I n1, I n2, D.sl 1 l3], AD.agg [I n4, I n5, I n6, D.sl 1 l7]] [AD.one (B true)] :=
  .of [Ans.br false, Ans.br false, Ans.br false, Ans.res [AD.one (B b8)], Ans.br false] _ Try.func55 rfl (by kernel_rfl) h

/- loop.example/g00973/laws.eqNodeS -/

theorem laws_eqNodeS_p0 (l0 : List (List D)) (l1 : List (List D))
    (h : Obs [((↑l0.length : Int) != (↑l1.length : Int)) = true]) :
    Ret Try.prog 28 [AD.one (D.sl 4 l0), AD.one (D.sl 4 l1)] [AD.one (B false)] :=
  .of [Ans.br true] _ Try.func28 rfl (by kernel_rfl) h

def laws_eqNodeS_L0 (l0 : List (List D)) (l1 : List (List D)) (n2 : Int) : St :=
  { env := envOf 27 [(0, PV.al (AL.one (Leaf.sl Tag.free 4 l0))), (1, PV.al (AL.one (Leaf.sl Tag.free 4 l1))), (5, PV.al (AL.one (Leaf.v (Value.int IntKind.i64 n2))))], boxes := [] }

def laws_eqNodeS_X0 (b0 : Bool) : St :=
  { env := envOf 27 [(4, PV.al (AL.one (Leaf.sb b0)))], boxes := [] }

theorem laws_eqNodeS_L0_x0 (l0 : List (List D)) (l1 : List (List D)) (n2 : Int) (n3 : Int) (n4 : Int) (n5 : Int) (l6 : List (List D)) (n7 : Int) (n8 : Int) (n9 : Int) (l10 : List (List D)) (b11 : Bool)
    (h : Obs [decide (n2 < (↑l0.length : Int)) = true, 0 ≤ n2, n2 < (↑l0.length : Int), l0[n2.toNat]? = some [I n3, I n4, I n5, D.sl 1 l6], 0 ≤ n2, n2 < (↑l1.length : Int), l1[n2.toNat]? = some [I n7, I n8, I n9, D.sl 1 l10], Ret Try.prog 55 [AD.agg [I n3, I n4, I n5, D.sl 1 l6], AD.agg [I n7, I n8, I n9, D.sl 1 l10]] [AD.one (B b11)], (!b11) = true]) :
    Tr Try.prog (loopOf Try.f28 0) (laws_eqNodeS_L0 l0 l1 n2) Ex.ret (laws_eqNodeS_X0 false) :=
  .of_loopc (ks := [4]) (bs := []) (ans := [Ans.br true, Ans.el [I n3, I n4, I n5, D.sl 1 l6], Ans.el [I n7, I n8, I n9, D.sl 1 l10], Ans.res [AD.one (B b11)], Ans.br true]) (by kernel_rfl) h

theorem laws_eqNodeS_L0_s1 (l0 : List (List D)) (l1 : List (List D)) (n2 : Int) (n3 : Int) (n4 : Int) (n5 : Int) (l6 : List (List D)) (n7 : Int) (n8 : Int) (n9 : Int) (l10 : List (List D)) (b11 : Bool)
    (h : Obs [decide (n2 < (↑l0.length : Int)) = true, 0 ≤ n2, n2 < (↑l0.length : Int), l0[n2.toNat]? = some [I n3, I n4, I n5, D.sl 1 l6], 0 ≤ n2, n2 < (↑l1.length : Int), l1[n2.toNat]? = some [I n7, I n8, I n9, D.sl 1 l10], Ret Try.prog 55 [AD.agg [I n3, I n4, I n5, D.sl 1 l6], AD.agg [I n7, I n8, I n9, D.sl 1 l10]] [AD.one (B b11)], (!b11) = false, inInt IntKind.i64 (n2 + 1)]) :
    Tr Try.prog (loopOf Try.f28 0) (laws_eqNodeS_L0 l0 l1 n2) Ex.normal (laws_eqNodeS_L0 l0 l1 (n2 + 1)) :=
  .of_loopc (ks := [5, 0, 1]) (bs := []) (ans := [Ans.br true, Ans.el [I n3, I n4, I n5, D.sl 1 l6], Ans.el [I n7, I n8, I n9, D.sl 1 l10], Ans.res [AD.one (B b11)], Ans.br false]) (by kernel_rfl) h

def laws_eqNodeS_X0v2 : St :=
  { env := envOf 27 [], boxes := [] }

theorem laws_eqNodeS_L0_x2 (l0 : List (List D)) (l1 : List (List D)) (n2 : Int)
    (h : Obs [decide (n2 < (↑l0.length : Int)) = false]) :
    Tr Try.prog (loopOf Try.f28 0) (laws_eqNodeS_L0 l0 l1 n2) (Ex.exit 0) laws_eqNodeS_X0v2 :=
  .of_loopc (ks := []) (bs := []) (ans := [Ans.br false]) (by kernel_rfl) h

theorem laws_eqNodeS_p1 (l0 : List (List D)) (l1 : List (List D)) (b2 : Bool)
    (h : Obs [((↑l0.length : Int) != (↑l1.length : Int)) = false, LoopOk Try.prog (loopOf Try.f28 0) (laws_eqNodeS_L0 l0 l1 0) Ex.ret (laws_eqNodeS_X0 b2)]) :
    Ret Try.prog 28 [AD.one (D.sl 4 l0), AD.one (D.sl 4 l1)] [AD.one (B b2)] :=
  .of [Ans.br false, Ans.loop [] [5, 0, 1] [] Ex.ret (laws_eqNodeS_X0 b2)] _ Try.func28 rfl (by kernel_rfl) h

theorem laws_eqNodeS_p2 (l0 : List (List D)) (l1 : List (List D))
    (h : Obs [((↑l0.length : Int) != (↑l1.length : Int)) = false, LoopOk Try.prog (loopOf Try.f28 0) (laws_eqNodeS_L0 l0 l1 0) (Ex.exit 0) laws_eqNodeS_X0v2]) :
    Ret Try.prog 28 [AD.one (D.sl 4 l0), AD.one (D.sl 4 l1)] [AD.one (B true)] :=
  .of [Ans.br false, Ans.loop [] [5, 0, 1] [] (Ex.exit 0) laws_eqNodeS_X0v2] _ Try.func28 rfl (by kernel_rfl) h

/- loop.example/g00973/laws.eqGraph -/

theorem laws_eqGraph_p0 (l0 : List (List D)) (n1 : Int) (n2 : Int) (l3 : List (List D)) (n4 : Int) (n5 : Int) (b6 : Bool)
    (h : Obs [Ret Try.prog 28 [AD.one (D.sl 4 l0), AD.one (D.sl 4 l3)] [AD.one (B b6)], (!b6) = true]) :
    Ret Try.prog 12 [AD.agg [D.sl 4 l0, I n1, I n2], AD.agg [D.sl 4 l3, I n4, I n5]] [AD.one (B false)] :=
  .of [Ans.res [AD.one (B b6)], Ans.br true] _ Try.func12 rfl (by kernel_rfl) h

theorem laws_eqGraph_p1 (l0 : List (List D)) (n1 : Int) (n2 : Int) (l3 : List (List D)) (n4 : Int) (n5 : Int) (b6 : Bool)
    (h : Obs [Ret Try.prog 28 [AD.one (D.sl 4 l0), AD.one (D.sl 4 l3)] [AD.one (B b6)], (!b6) = false, (n1 != n4) = true]) :
    Ret Try.prog 12 [AD.agg [D.sl 4 l0, I n1, I n2], AD.agg [D.sl 4 l3, I n4, I n5]] [AD.one (B false)] :=
  .of [Ans.res [AD.one (B b6)], Ans.br false, Ans.br true] _ Try.func12 rfl (by kernel_rfl) h

theorem laws_eqGraph_p2 (l0 : List (List D)) (n1 : Int) (n2 : Int) (l3 : List (List D)) (n4 : Int) (n5 : Int) (b6 : Bool)
    (h : Obs [Ret Try.prog 28 [AD.one (D.sl 4 l0), AD.one (D.sl 4 l3)] [AD.one (B b6)], (!b6) = false, (n1 != n4) = false, (n2 != n5) = true]) :
    Ret Try.prog 12 [AD.agg [D.sl 4 l0, I n1, I n2], AD.agg [D.sl 4 l3, I n4, I n5]] [AD.one (B false)] :=
  .of [Ans.res [AD.one (B b6)], Ans.br false, Ans.br false, Ans.br true] _ Try.func12 rfl (by kernel_rfl) h

theorem laws_eqGraph_p3 (l0 : List (List D)) (n1 : Int) (n2 : Int) (l3 : List (List D)) (n4 : Int) (n5 : Int) (b6 : Bool)
    (h : Obs [Ret Try.prog 28 [AD.one (D.sl 4 l0), AD.one (D.sl 4 l3)] [AD.one (B b6)], (!b6) = false, (n1 != n4) = false, (n2 != n5) = false]) :
    Ret Try.prog 12 [AD.agg [D.sl 4 l0, I n1, I n2], AD.agg [D.sl 4 l3, I n4, I n5]] [AD.one (B true)] :=
  .of [Ans.res [AD.one (B b6)], Ans.br false, Ans.br false, Ans.br false] _ Try.func12 rfl (by kernel_rfl) h

end Go.Proofs.Ytenekpkjlgddnaa
