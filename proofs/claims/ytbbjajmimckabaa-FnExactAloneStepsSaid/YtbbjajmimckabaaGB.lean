import Derived.Test.YtbbjajmimckabaaRows
import Derived.Test.YtbbjajmimckabaaR23
set_option linter.unusedVariables false
set_option linter.unusedSimpArgs false
namespace Go.Proofs.Ytbbjajmimckabaa
open Go.Sx Go.RowKit

/- loop.example/g00973/laws.toStamp -/

theorem laws_toStamp_p0 (n0 : Int) (n1 : Int)
    (h : Obs []) :
    Ret Try.prog 49 [AD.agg [I n0, I n1]] [AD.agg [I n0, I n1]] :=
  .of [] _ Try.func49 rfl (by kernel_rfl) h

/- loop.example/g00973/laws.toRecord -/

theorem laws_toRecord_p0 (n0 : Int) (n1 : Int) (n2 : Int) (n3 : Int) (n4 : Int) (n5 : Int) (n6 : Int)
    (h : Obs [Ret Try.prog 49 [AD.agg [I n1, I n2]] [AD.agg [I n5, I n6]]]) :
    Ret Try.prog 14 [AD.agg [I n0, I n1, I n2, I n3, I n4]] [AD.agg [I n0, I n5, I n6, I n3, I n4]] :=
  .of [Ans.res [AD.agg [I n5, I n6]]] _ Try.func14 rfl (by kernel_rfl) h

/- loop.example/g00973/laws.toRecordS -/

def laws_toRecordS_L0 (l0 : List (List D)) (n1 : Int) (l2 : List (List D)) : St :=
  { env := envOf 23 [(0, PV.al (AL.one (Leaf.sl Tag.free 5 l0))), (3, PV.al (AL.one (Leaf.sl (Tag.own 7) 5 l2))), (4, PV.al (AL.one (Leaf.v (Value.int IntKind.i64 n1))))], boxes := [] }

theorem laws_toRecordS_L0_s0 (l0 : List (List D)) (n1 : Int) (l2 : List (List D)) (n3 : Int) (n4 : Int) (n5 : Int) (n6 : Int) (n7 : Int) (n8 : Int) (n9 : Int) (n10 : Int) (n11 : Int) (n12 : Int) (d13 : D) (d14 : D) (d15 : D) (d16 : D) (d17 : D)
    (h : Obs [decide (n1 < (↑l0.length : Int)) = true, 0 ≤ n1, n1 < (↑l0.length : Int), l0[n1.toNat]? = some [I n3, I n4, I n5, I n6, I n7], Ret Try.prog 14 [AD.agg [I n3, I n4, I n5, I n6, I n7]] [AD.agg [I n8, I n9, I n10, I n11, I n12]], 0 ≤ n1, n1 < (↑l2.length : Int), l2[n1.toNat]? = some [d13, d14, d15, d16, d17], inInt IntKind.i64 (n1 + 1)]) :
    Tr Try.prog (loopOf Try.f13 0) (laws_toRecordS_L0 l0 n1 l2) Ex.normal (laws_toRecordS_L0 l0 (n1 + 1) (l2.set n1.toNat [I n8, I n9, I n10, I n11, I n12])) :=
  .of_loopc (ks := [4, 0, 3]) (bs := []) (ans := [Ans.br true, Ans.el [I n3, I n4, I n5, I n6, I n7], Ans.res [AD.agg [I n8, I n9, I n10, I n11, I n12]], Ans.el [d13, d14, d15, d16, d17]]) (by kernel_rfl) h

def laws_toRecordS_X0 (l0 : List (List D)) : St :=
  { env := envOf 23 [(3, PV.al (AL.one (Leaf.sl (Tag.own 7) 5 l0)))], boxes := [] }

theorem laws_toRecordS_L0_x1 (l0 : List (List D)) (n1 : Int) (l2 : List (List D))
    (h : Obs [decide (n1 < (↑l0.length : Int)) = false]) :
    Tr Try.prog (loopOf Try.f13 0) (laws_toRecordS_L0 l0 n1 l2) (Ex.exit 0) (laws_toRecordS_X0 l2) :=
  .of_loopc (ks := [3]) (bs := []) (ans := [Ans.br false]) (by kernel_rfl) h

theorem laws_toRecordS_p0 (l0 : List (List D)) (l1 : List (List D))
    (h : Obs [0 ≤ (↑l0.length : Int), (↑l0.length : Int) ≤ (↑l0.length : Int), (↑40 : Int) * (↑l0.length : Int) ≤ 281474976710656, (↑l0.length : Int) ≤ 9223372036854775807, LoopOk Try.prog (loopOf Try.f13 0) (laws_toRecordS_L0 l0 0 (List.replicate l0.length [I 0, I 0, I 0, I 0, I 0])) (Ex.exit 0) (laws_toRecordS_X0 l1)]) :
    Ret Try.prog 13 [AD.one (D.sl 5 l0)] [AD.one (D.sl 5 l1)] :=
  .of [Ans.loop [] [4, 0, 3] [] (Ex.exit 0) (laws_toRecordS_X0 l1)] _ Try.func13 rfl (by kernel_rfl) h

/- loop.example/g00973/laws.toCell -/

/- loop.example/g00973/laws.toCellS -/

/- loop.example/g00973/laws.toIntS -/

def laws_toIntS_L0 (l0 : List (List D)) (n1 : Int) (l2 : List (List D)) : St :=
  { env := envOf 22 [(0, PV.al (AL.one (Leaf.sl Tag.free 1 l0))), (3, PV.al (AL.one (Leaf.sl (Tag.own 7) 1 l2))), (4, PV.al (AL.one (Leaf.v (Value.int IntKind.i64 n1))))], boxes := [] }

theorem laws_toIntS_L0_s0 (l0 : List (List D)) (n1 : Int) (l2 : List (List D)) (n3 : Int) (d4 : D)
    (h : Obs [decide (n1 < (↑l0.length : Int)) = true, 0 ≤ n1, n1 < (↑l0.length : Int), l0[n1.toNat]? = some [I n3], 0 ≤ n1, n1 < (↑l2.length : Int), l2[n1.toNat]? = some [d4], inInt IntKind.i64 (n1 + 1)]) :
    Tr Try.prog (loopOf Try.f124 0) (laws_toIntS_L0 l0 n1 l2) Ex.normal (laws_toIntS_L0 l0 (n1 + 1) (l2.set n1.toNat [I n3])) :=
  .of_loopc (ks := [4, 0, 3]) (bs := []) (ans := [Ans.br true, Ans.el [I n3], Ans.el [d4]]) (by kernel_rfl) h

def laws_toIntS_X0 (l0 : List (List D)) : St :=
  { env := envOf 22 [(3, PV.al (AL.one (Leaf.sl (Tag.own 7) 1 l0)))], boxes := [] }

theorem laws_toIntS_L0_x1 (l0 : List (List D)) (n1 : Int) (l2 : List (List D))
    (h : Obs [decide (n1 < (↑l0.length : Int)) = false]) :
    Tr Try.prog (loopOf Try.f124 0) (laws_toIntS_L0 l0 n1 l2) (Ex.exit 0) (laws_toIntS_X0 l2) :=
  .of_loopc (ks := [3]) (bs := []) (ans := [Ans.br false]) (by kernel_rfl) h

theorem laws_toIntS_p0 (l0 : List (List D)) (l1 : List (List D))
    (h : Obs [0 ≤ (↑l0.length : Int), (↑l0.length : Int) ≤ (↑l0.length : Int), (↑8 : Int) * (↑l0.length : Int) ≤ 281474976710656, (↑l0.length : Int) ≤ 9223372036854775807, LoopOk Try.prog (loopOf Try.f124 0) (laws_toIntS_L0 l0 0 (List.replicate l0.length [I 0])) (Ex.exit 0) (laws_toIntS_X0 l1)]) :
    Ret Try.prog 124 [AD.one (D.sl 1 l0)] [AD.one (D.sl 1 l1)] :=
  .of [Ans.loop [] [4, 0, 3] [] (Ex.exit 0) (laws_toIntS_X0 l1)] _ Try.func124 rfl (by kernel_rfl) h

/- loop.example/g00973/laws.toBoolS -/

/- loop.example/g00973/laws.toDone -/

/- loop.example/g00973/laws.toDoneS -/

/- loop.example/g00973/laws.toToken -/

/- loop.example/g00973/laws.toTokenS -/

/- loop.example/g00973/laws.toNews -/

/- loop.example/g00973/laws.toNewsS -/

/- loop.example/g00973/laws.toNode -/

theorem laws_toNode_p0 (n0 : Int) (n1 : Int) (n2 : Int) (l3 : List (List D)) (l4 : List (List D))
    (h : Obs [Ret Try.prog 124 [AD.one (D.sl 1 l3)] [AD.one (D.sl 1 l4)]]) :
    Ret Try.prog 113 [AD.agg [I n0, I n1, I n2, D.sl 1 l3]] [AD.agg [I n0, I n1, I n2, D.sl 1 l4]] :=
  .of [Ans.res [AD.one (D.sl 1 l4)]] _ Try.func113 rfl (by kernel_rfl) h

/- loop.example/g00973/laws.toNodeS -/

def laws_toNodeS_L0 (l0 : List (List D)) (n1 : Int) (l2 : List (List D)) : St :=
  { env := envOf 23 [(0, PV.al (AL.one (Leaf.sl Tag.free 4 l0))), (3, PV.al (AL.one (Leaf.sl (Tag.own 7) 4 l2))), (4, PV.al (AL.one (Leaf.v (Value.int IntKind.i64 n1))))], boxes := [] }

theorem laws_toNodeS_L0_s0 (l0 : List (List D)) (n1 : Int) (l2 : List (List D)) (n3 : Int) (n4 : Int) (n5 : Int) (l6 : List (List D)) (n7 : Int) (n8 : Int) (n9 : Int) (l10 : List (List D)) (d11 : D) (d12 : D) (d13 : D) (d14 : D)
    (h : Obs [decide (n1 < (↑l0.length : Int)) = true, 0 ≤ n1, n1 < (↑l0.length : Int), l0[n1.toNat]? = some [I n3, I n4, I n5, D.sl 1 l6], Ret Try.prog 113 [AD.agg [I n3, I n4, I n5, D.sl 1 l6]] [AD.agg [I n7, I n8, I n9, D.sl 1 l10]], 0 ≤ n1, n1 < (↑l2.length : Int), l2[n1.toNat]? = some [d11, d12, d13, d14], inInt IntKind.i64 (n1 + 1)]) :
    Tr Try.prog (loopOf Try.f82 0) (laws_toNodeS_L0 l0 n1 l2) Ex.normal (laws_toNodeS_L0 l0 (n1 + 1) (l2.set n1.toNat [I n7, I n8, I n9, D.sl 1 l10])) :=
  .of_loopc (ks := [4, 0, 3]) (bs := []) (ans := [Ans.br true, Ans.el [I n3, I n4, I n5, D.sl 1 l6], Ans.res [AD.agg [I n7, I n8, I n9, D.sl 1 l10]], Ans.el [d11, d12, d13, d14]]) (by kernel_rfl) h

def laws_toNodeS_X0 (l0 : List (List D)) : St :=
  { env := envOf 23 [(3, PV.al (AL.one (Leaf.sl (Tag.own 7) 4 l0)))], boxes := [] }

theorem laws_toNodeS_L0_x1 (l0 : List (List D)) (n1 : Int) (l2 : List (List D))
    (h : Obs [decide (n1 < (↑l0.length : Int)) = false]) :
    Tr Try.prog (loopOf Try.f82 0) (laws_toNodeS_L0 l0 n1 l2) (Ex.exit 0) (laws_toNodeS_X0 l2) :=
  .of_loopc (ks := [3]) (bs := []) (ans := [Ans.br false]) (by kernel_rfl) h

theorem laws_toNodeS_p0 (l0 : List (List D)) (l1 : List (List D))
    (h : Obs [0 ≤ (↑l0.length : Int), (↑l0.length : Int) ≤ (↑l0.length : Int), (↑48 : Int) * (↑l0.length : Int) ≤ 281474976710656, (↑l0.length : Int) ≤ 9223372036854775807, LoopOk Try.prog (loopOf Try.f82 0) (laws_toNodeS_L0 l0 0 (List.replicate l0.length [I 0, I 0, I 0, D.v (Value.slice none 0 0)])) (Ex.exit 0) (laws_toNodeS_X0 l1)]) :
    Ret Try.prog 82 [AD.one (D.sl 4 l0)] [AD.one (D.sl 4 l1)] :=
  .of [Ans.loop [] [4, 0, 3] [] (Ex.exit 0) (laws_toNodeS_X0 l1)] _ Try.func82 rfl (by kernel_rfl) h

/- loop.example/g00973/laws.toLink -/

/- loop.example/g00973/laws.toLinkS -/

/- loop.example/g00973/laws.toGraph -/

theorem laws_toGraph_p0 (l0 : List (List D)) (n1 : Int) (n2 : Int) (l3 : List (List D))
    (h : Obs [Ret Try.prog 82 [AD.one (D.sl 4 l0)] [AD.one (D.sl 4 l3)]]) :
    Ret Try.prog 41 [AD.agg [D.sl 4 l0, I n1, I n2]] [AD.agg [D.sl 4 l3, I n1, I n2]] :=
  .of [Ans.res [AD.one (D.sl 4 l3)]] _ Try.func41 rfl (by kernel_rfl) h

/- loop.example/g00973/laws.toWorker -/

/- loop.example/g00973/laws.toWorkerS -/

/- loop.example/g00973/laws.toCluster -/

/- loop.example/g00973/laws.toPick -/

end Go.Proofs.Ytbbjajmimckabaa
