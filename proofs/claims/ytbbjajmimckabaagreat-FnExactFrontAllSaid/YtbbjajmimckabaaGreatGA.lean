import Derived.Test.YtbbjajmimckabaaGreatRows
import Derived.Test.YtbbjajmimckabaaGreatR23
set_option linter.unusedVariables false
set_option linter.unusedSimpArgs false
namespace Go.Proofs.YtbbjajmimckabaaGreat
open Go.Sx Go.RowKit

/- loop.example/g00973/laws.szRecordS -/

theorem laws_szRecordS_p0 (l0 : List (List D)) (n1 : Int)
    (h : Obs [inInt IntKind.i64 (n1 - (↑l0.length : Int)), decide (n1 - (↑l0.length : Int) < 0) = true]) :
    Ret Tryz.prog 95 [AD.one (D.sl 5 l0), AD.one (I n1)] [AD.one (I (-1))] :=
  .of [Ans.br true] _ Tryz.func95 rfl (by kernel_rfl) h

theorem laws_szRecordS_p1 (l0 : List (List D)) (n1 : Int)
    (h : Obs [inInt IntKind.i64 (n1 - (↑l0.length : Int)), decide (n1 - (↑l0.length : Int) < 0) = false]) :
    Ret Tryz.prog 95 [AD.one (D.sl 5 l0), AD.one (I n1)] [AD.one (I (n1 - (↑l0.length : Int)))] :=
  .of [Ans.br false] _ Tryz.func95 rfl (by kernel_rfl) h

/- loop.example/g00973/laws.szCellS -/

theorem laws_szCellS_p0 (l0 : List (List D)) (n1 : Int)
    (h : Obs [inInt IntKind.i64 (n1 - (↑l0.length : Int)), decide (n1 - (↑l0.length : Int) < 0) = true]) :
    Ret Tryz.prog 96 [AD.one (D.sl 4 l0), AD.one (I n1)] [AD.one (I (-1))] :=
  .of [Ans.br true] _ Tryz.func96 rfl (by kernel_rfl) h

theorem laws_szCellS_p1 (l0 : List (List D)) (n1 : Int)
    (h : Obs [inInt IntKind.i64 (n1 - (↑l0.length : Int)), decide (n1 - (↑l0.length : Int) < 0) = false]) :
    Ret Tryz.prog 96 [AD.one (D.sl 4 l0), AD.one (I n1)] [AD.one (I (n1 - (↑l0.length : Int)))] :=
  .of [Ans.br false] _ Tryz.func96 rfl (by kernel_rfl) h

/- loop.example/g00973/laws.szIntS -/

theorem laws_szIntS_p0 (l0 : List (List D)) (n1 : Int)
    (h : Obs [inInt IntKind.i64 (n1 - (↑l0.length : Int)), decide (n1 - (↑l0.length : Int) < 0) = true]) :
    Ret Tryz.prog 97 [AD.one (D.sl 1 l0), AD.one (I n1)] [AD.one (I (-1))] :=
  .of [Ans.br true] _ Tryz.func97 rfl (by kernel_rfl) h

theorem laws_szIntS_p1 (l0 : List (List D)) (n1 : Int)
    (h : Obs [inInt IntKind.i64 (n1 - (↑l0.length : Int)), decide (n1 - (↑l0.length : Int) < 0) = false]) :
    Ret Tryz.prog 97 [AD.one (D.sl 1 l0), AD.one (I n1)] [AD.one (I (n1 - (↑l0.length : Int)))] :=
  .of [Ans.br false] _ Tryz.func97 rfl (by kernel_rfl) h

/- loop.example/g00973/laws.szBoolS -/

theorem laws_szBoolS_p0 (l0 : List (List D)) (n1 : Int)
    (h : Obs [inInt IntKind.i64 (n1 - (↑l0.length : Int)), decide (n1 - (↑l0.length : Int) < 0) = true]) :
    Ret Tryz.prog 98 [AD.one (D.sl 1 l0), AD.one (I n1)] [AD.one (I (-1))] :=
  .of [Ans.br true] _ Tryz.func98 rfl (by kernel_rfl) h

theorem laws_szBoolS_p1 (l0 : List (List D)) (n1 : Int)
    (h : Obs [inInt IntKind.i64 (n1 - (↑l0.length : Int)), decide (n1 - (↑l0.length : Int) < 0) = false]) :
    Ret Tryz.prog 98 [AD.one (D.sl 1 l0), AD.one (I n1)] [AD.one (I (n1 - (↑l0.length : Int)))] :=
  .of [Ans.br false] _ Tryz.func98 rfl (by kernel_rfl) h

/- loop.example/g00973/laws.szDoneS -/

theorem laws_szDoneS_p0 (l0 : List (List D)) (n1 : Int)
    (h : Obs [inInt IntKind.i64 (n1 - (↑l0.length : Int)), decide (n1 - (↑l0.length : Int) < 0) = true]) :
    Ret Tryz.prog 99 [AD.one (D.sl 2 l0), AD.one (I n1)] [AD.one (I (-1))] :=
  .of [Ans.br true] _ Tryz.func99 rfl (by kernel_rfl) h

theorem laws_szDoneS_p1 (l0 : List (List D)) (n1 : Int)
    (h : Obs [inInt IntKind.i64 (n1 - (↑l0.length : Int)), decide (n1 - (↑l0.length : Int) < 0) = false]) :
    Ret Tryz.prog 99 [AD.one (D.sl 2 l0), AD.one (I n1)] [AD.one (I (n1 - (↑l0.length : Int)))] :=
  .of [Ans.br false] _ Tryz.func99 rfl (by kernel_rfl) h

/- loop.example/g00973/laws.szTokenS -/

theorem laws_szTokenS_p0 (l0 : List (List D)) (n1 : Int)
    (h : Obs [inInt IntKind.i64 (n1 - (↑l0.length : Int)), decide (n1 - (↑l0.length : Int) < 0) = true]) :
    Ret Tryz.prog 28 [AD.one (D.sl 5 l0), AD.one (I n1)] [AD.one (I (-1))] :=
  .of [Ans.br true] _ Tryz.func28 rfl (by kernel_rfl) h

theorem laws_szTokenS_p1 (l0 : List (List D)) (n1 : Int)
    (h : Obs [inInt IntKind.i64 (n1 - (↑l0.length : Int)), decide (n1 - (↑l0.length : Int) < 0) = false]) :
    Ret Tryz.prog 28 [AD.one (D.sl 5 l0), AD.one (I n1)] [AD.one (I (n1 - (↑l0.length : Int)))] :=
  .of [Ans.br false] _ Tryz.func28 rfl (by kernel_rfl) h

/- loop.example/g00973/laws.szNewsS -/

theorem laws_szNewsS_p0 (l0 : List (List D)) (n1 : Int)
    (h : Obs [inInt IntKind.i64 (n1 - (↑l0.length : Int)), decide (n1 - (↑l0.length : Int) < 0) = true]) :
    Ret Tryz.prog 29 [AD.one (D.sl 3 l0), AD.one (I n1)] [AD.one (I (-1))] :=
  .of [Ans.br true] _ Tryz.func29 rfl (by kernel_rfl) h

theorem laws_szNewsS_p1 (l0 : List (List D)) (n1 : Int)
    (h : Obs [inInt IntKind.i64 (n1 - (↑l0.length : Int)), decide (n1 - (↑l0.length : Int) < 0) = false]) :
    Ret Tryz.prog 29 [AD.one (D.sl 3 l0), AD.one (I n1)] [AD.one (I (n1 - (↑l0.length : Int)))] :=
  .of [Ans.br false] _ Tryz.func29 rfl (by kernel_rfl) h

/- loop.example/g00973/laws.szNode -/

theorem laws_szNode_p0 (n0 : Int) (n1 : Int) (n2 : Int) (l3 : List (List D)) (n4 : Int) (n5 : Int)
    (h : Obs [Ret Tryz.prog 97 [AD.one (D.sl 1 l3), AD.one (I n4)] [AD.one (I n5)], decide (n5 < 0) = true]) :
    Ret Tryz.prog 94 [AD.agg [I n0, I n1, I n2, D.sl 1 l3], AD.one (I n4)] [AD.one (I (-1))] :=
  .of [Ans.res [AD.one (I n5)], Ans.br true] _ Tryz.func94 rfl (by kernel_rfl) h

theorem laws_szNode_p1 (n0 : Int) (n1 : Int) (n2 : Int) (l3 : List (List D)) (n4 : Int) (n5 : Int)
    (h : Obs [Ret Tryz.prog 97 [AD.one (D.sl 1 l3), AD.one (I n4)] [AD.one (I n5)], decide (n5 < 0) = false]) :
    Ret Tryz.prog 94 [AD.agg [I n0, I n1, I n2, D.sl 1 l3], AD.one (I n4)] [AD.one (I n5)] :=
  .of [Ans.res [AD.one (I n5)], Ans.br false] _ Tryz.func94 rfl (by kernel_rfl) h

/- loop.example/g00973/laws.szNodeS -/

theorem laws_szNodeS_p0 (l0 : List (List D)) (n1 : Int)
    (h : Obs [inInt IntKind.i64 (n1 - (↑l0.length : Int)), decide (n1 - (↑l0.length : Int) < 0) = true]) :
    Ret Tryz.prog 61 [AD.one (D.sl 4 l0), AD.one (I n1)] [AD.one (I (-1))] :=
  .of [Ans.br true] _ Tryz.func61 rfl (by kernel_rfl) h

def laws_szNodeS_L0 (l0 : List (List D)) (n1 : Int) (n2 : Int) : St :=
  { env := envOf 27 [(0, PV.al (AL.one (Leaf.sl Tag.free 4 l0))), (1, PV.al (AL.one (Leaf.v (Value.int IntKind.i64 n2)))), (5, PV.al (AL.one (Leaf.v (Value.int IntKind.i64 n1))))], boxes := [] }

def laws_szNodeS_X0 (n0 : Int) : St :=
  { env := envOf 27 [(4, PV.al (AL.one (Leaf.v (Value.int IntKind.i64 n0))))], boxes := [] }

theorem laws_szNodeS_L0_x0 (l0 : List (List D)) (n2 : Int) (n3 : Int) (n4 : Int) (n5 : Int) (n6 : Int) (l7 : List (List D)) (n8 : Int)
    (h : Obs [decide (n2 < (↑l0.length : Int)) = true, 0 ≤ n2, n2 < (↑l0.length : Int), l0[n2.toNat]? = some [I n4, I n5, I n6, D.sl 1 l7], Ret Tryz.prog 94 [AD.agg [I n4, I n5, I n6, D.sl 1 l7], AD.one (I n3)] [AD.one (I n8)], decide (n8 < 0) = true]) :
    Tr Tryz.prog (loopOf Tryz.f61 0) (laws_szNodeS_L0 l0 n2 n3) Ex.ret (laws_szNodeS_X0 (-1)) :=
  .of_loopc (ks := [4]) (bs := []) (ans := [Ans.br true, Ans.el [I n4, I n5, I n6, D.sl 1 l7], Ans.res [AD.one (I n8)], Ans.br true]) (by kernel_rfl) h

theorem laws_szNodeS_L0_s1 (l0 : List (List D)) (n2 : Int) (n3 : Int) (n4 : Int) (n5 : Int) (n6 : Int) (l7 : List (List D)) (n8 : Int)
    (h : Obs [decide (n2 < (↑l0.length : Int)) = true, 0 ≤ n2, n2 < (↑l0.length : Int), l0[n2.toNat]? = some [I n4, I n5, I n6, D.sl 1 l7], Ret Tryz.prog 94 [AD.agg [I n4, I n5, I n6, D.sl 1 l7], AD.one (I n3)] [AD.one (I n8)], decide (n8 < 0) = false, inInt IntKind.i64 (n2 + 1)]) :
    Tr Tryz.prog (loopOf Tryz.f61 0) (laws_szNodeS_L0 l0 n2 n3) Ex.normal (laws_szNodeS_L0 l0 (n2 + 1) n8) :=
  .of_loopc (ks := [5, 0, 1]) (bs := []) (ans := [Ans.br true, Ans.el [I n4, I n5, I n6, D.sl 1 l7], Ans.res [AD.one (I n8)], Ans.br false]) (by kernel_rfl) h

def laws_szNodeS_X0v2 (n0 : Int) : St :=
  { env := envOf 27 [(1, PV.al (AL.one (Leaf.v (Value.int IntKind.i64 n0))))], boxes := [] }

theorem laws_szNodeS_L0_x2 (l0 : List (List D)) (n2 : Int) (n3 : Int)
    (h : Obs [decide (n2 < (↑l0.length : Int)) = false]) :
    Tr Tryz.prog (loopOf Tryz.f61 0) (laws_szNodeS_L0 l0 n2 n3) (Ex.exit 0) (laws_szNodeS_X0v2 n3) :=
  .of_loopc (ks := [1]) (bs := []) (ans := [Ans.br false]) (by kernel_rfl) h

theorem laws_szNodeS_p1 (l0 : List (List D)) (n1 : Int) (n2 : Int)
    (h : Obs [inInt IntKind.i64 (n1 - (↑l0.length : Int)), decide (n1 - (↑l0.length : Int) < 0) = false, LoopOk Tryz.prog (loopOf Tryz.f61 0) (laws_szNodeS_L0 l0 0 (n1 - (↑l0.length : Int))) Ex.ret (laws_szNodeS_X0 n2)]) :
    Ret Tryz.prog 61 [AD.one (D.sl 4 l0), AD.one (I n1)] [AD.one (I n2)] :=
  .of [Ans.br false, Ans.loop [] [5, 0, 1] [] Ex.ret (laws_szNodeS_X0 n2)] _ Tryz.func61 rfl (by kernel_rfl) h

theorem laws_szNodeS_p2 (l0 : List (List D)) (n1 : Int) (n2 : Int)
    (h : Obs [inInt IntKind.i64 (n1 - (↑l0.length : Int)), decide (n1 - (↑l0.length : Int) < 0) = false, LoopOk Tryz.prog (loopOf Tryz.f61 0) (laws_szNodeS_L0 l0 0 (n1 - (↑l0.length : Int))) (Ex.exit 0) (laws_szNodeS_X0v2 n2)]) :
    Ret Tryz.prog 61 [AD.one (D.sl 4 l0), AD.one (I n1)] [AD.one (I n2)] :=
  .of [Ans.br false, Ans.loop [] [5, 0, 1] [] (Ex.exit 0) (laws_szNodeS_X0v2 n2)] _ Tryz.func61 rfl (by kernel_rfl) h

/- loop.example/g00973/laws.szLink -/

theorem laws_szLink_p0 (n0 : Int) (l1 : List (List D)) (n2 : Int) (n3 : Int) (n4 : Int) (n5 : Int) (n6 : Int) (n7 : Int)
    (h : Obs [Ret Tryz.prog 95 [AD.one (D.sl 5 l1), AD.one (I n6)] [AD.one (I n7)], decide (n7 < 0) = true]) :
    Ret Tryz.prog 63 [AD.agg [I n0, D.sl 5 l1, I n2, I n3, I n4, I n5], AD.one (I n6)] [AD.one (I (-1))] :=
  .of [Ans.res [AD.one (I n7)], Ans.br true] _ Tryz.func63 rfl (by kernel_rfl) h

theorem laws_szLink_p1 (n0 : Int) (l1 : List (List D)) (n2 : Int) (n3 : Int) (n4 : Int) (n5 : Int) (n6 : Int) (n7 : Int)
    (h : Obs [Ret Tryz.prog 95 [AD.one (D.sl 5 l1), AD.one (I n6)] [AD.one (I n7)], decide (n7 < 0) = false]) :
    Ret Tryz.prog 63 [AD.agg [I n0, D.sl 5 l1, I n2, I n3, I n4, I n5], AD.one (I n6)] [AD.one (I n7)] :=
  .of [Ans.res [AD.one (I n7)], Ans.br false] _ Tryz.func63 rfl (by kernel_rfl) h

/- loop.example/g00973/laws.szLinkS -/

theorem laws_szLinkS_p0 (l0 : List (List D)) (n1 : Int)
    (h : Obs [inInt IntKind.i64 (n1 - (↑l0.length : Int)), decide (n1 - (↑l0.length : Int) < 0) = true]) :
    Ret Tryz.prog 27 [AD.one (D.sl 6 l0), AD.one (I n1)] [AD.one (I (-1))] :=
  .of [Ans.br true] _ Tryz.func27 rfl (by kernel_rfl) h

def laws_szLinkS_L0 (l0 : List (List D)) (n1 : Int) (n2 : Int) : St :=
  { env := envOf 27 [(0, PV.al (AL.one (Leaf.sl Tag.free 6 l0))), (1, PV.al (AL.one (Leaf.v (Value.int IntKind.i64 n2)))), (5, PV.al (AL.one (Leaf.v (Value.int IntKind.i64 n1))))], boxes := [] }

def laws_szLinkS_X0 (n0 : Int) : St :=
  { env := envOf 27 [(4, PV.al (AL.one (Leaf.v (Value.int IntKind.i64 n0))))], boxes := [] }

theorem laws_szLinkS_L0_x0 (l0 : List (List D)) (n2 : Int) (n3 : Int) (n4 : Int) (l5 : List (List D)) (n6 : Int) (n7 : Int) (n8 : Int) (n9 : Int) (n10 : Int)
    (h : Obs [decide (n2 < (↑l0.length : Int)) = true, 0 ≤ n2, n2 < (↑l0.length : Int), l0[n2.toNat]? = some [I n4, D.sl 5 l5, I n6, I n7, I n8, I n9], Ret Tryz.prog 63 [AD.agg [I n4, D.sl 5 l5, I n6, I n7, I n8, I n9], AD.one (I n3)] [AD.one (I n10)], decide (n10 < 0) = true]) :
    Tr Tryz.prog (loopOf Tryz.f27 0) (laws_szLinkS_L0 l0 n2 n3) Ex.ret (laws_szLinkS_X0 (-1)) :=
  .of_loopc (ks := [4]) (bs := []) (ans := [Ans.br true, Ans.el [I n4, D.sl 5 l5, I n6, I n7, I n8, I n9], Ans.res [AD.one (I n10)], Ans.br true]) (by kernel_rfl) h

theorem laws_szLinkS_L0_s1 (l0 : List (List D)) (n2 : Int) (n3 : Int) (n4 : Int) (l5 : List (List D)) (n6 : Int) (n7 : Int) (n8 : Int) (n9 : Int) (n10 : Int)
    (h : Obs [decide (n2 < (↑l0.length : Int)) = true, 0 ≤ n2, n2 < (↑l0.length : Int), l0[n2.toNat]? = some [I n4, D.sl 5 l5, I n6, I n7, I n8, I n9], Ret Tryz.prog 63 [AD.agg [I n4, D.sl 5 l5, I n6, I n7, I n8, I n9], AD.one (I n3)] [AD.one (I n10)], decide (n10 < 0) = false, inInt IntKind.i64 (n2 + 1)]) :
    Tr Tryz.prog (loopOf Tryz.f27 0) (laws_szLinkS_L0 l0 n2 n3) Ex.normal (laws_szLinkS_L0 l0 (n2 + 1) n10) :=
  .of_loopc (ks := [5, 0, 1]) (bs := []) (ans := [Ans.br true, Ans.el [I n4, D.sl 5 l5, I n6, I n7, I n8, I n9], Ans.res [AD.one (I n10)], Ans.br false]) (by kernel_rfl) h

def laws_szLinkS_X0v2 (n0 : Int) : St :=
  { env := envOf 27 [(1, PV.al (AL.one (Leaf.v (Value.int IntKind.i64 n0))))], boxes := [] }

theorem laws_szLinkS_L0_x2 (l0 : List (List D)) (n2 : Int) (n3 : Int)
    (h : Obs [decide (n2 < (↑l0.length : Int)) = false]) :
    Tr Tryz.prog (loopOf Tryz.f27 0) (laws_szLinkS_L0 l0 n2 n3) (Ex.exit 0) (laws_szLinkS_X0v2 n3) :=
  .of_loopc (ks := [1]) (bs := []) (ans := [Ans.br false]) (by kernel_rfl) h

theorem laws_szLinkS_p1 (l0 : List (List D)) (n1 : Int) (n2 : Int)
    (h : Obs [inInt IntKind.i64 (n1 - (↑l0.length : Int)), decide (n1 - (↑l0.length : Int) < 0) = false, LoopOk Tryz.prog (loopOf Tryz.f27 0) (laws_szLinkS_L0 l0 0 (n1 - (↑l0.length : Int))) Ex.ret (laws_szLinkS_X0 n2)]) :
    Ret Tryz.prog 27 [AD.one (D.sl 6 l0), AD.one (I n1)] [AD.one (I n2)] :=
  .of [Ans.br false, Ans.loop [] [5, 0, 1] [] Ex.ret (laws_szLinkS_X0 n2)] _ Tryz.func27 rfl (by kernel_rfl) h

theorem laws_szLinkS_p2 (l0 : List (List D)) (n1 : Int) (n2 : Int)
    (h : Obs [inInt IntKind.i64 (n1 - (↑l0.length : Int)), decide (n1 - (↑l0.length : Int) < 0) = false, LoopOk Tryz.prog (loopOf Tryz.f27 0) (laws_szLinkS_L0 l0 0 (n1 - (↑l0.length : Int))) (Ex.exit 0) (laws_szLinkS_X0v2 n2)]) :
    Ret Tryz.prog 27 [AD.one (D.sl 6 l0), AD.one (I n1)] [AD.one (I n2)] :=
  .of [Ans.br false, Ans.loop [] [5, 0, 1] [] (Ex.exit 0) (laws_szLinkS_X0v2 n2)] _ Tryz.func27 rfl (by kernel_rfl) h

/- loop.example/g00973/laws.szGraph -/

theorem laws_szGraph_p0 (l0 : List (List D)) (n1 : Int) (n2 : Int) (n3 : Int) (n4 : Int)
    (h : Obs [Ret Tryz.prog 61 [AD.one (D.sl 4 l0), AD.one (I n3)] [AD.one (I n4)], decide (n4 < 0) = true]) :
    Ret Tryz.prog 25 [AD.agg [D.sl 4 l0, I n1, I n2], AD.one (I n3)] [AD.one (I (-1))] :=
  .of [Ans.res [AD.one (I n4)], Ans.br true] _ Tryz.func25 rfl (by kernel_rfl) h

theorem laws_szGraph_p1 (l0 : List (List D)) (n1 : Int) (n2 : Int) (n3 : Int) (n4 : Int)
    (h : Obs [Ret Tryz.prog 61 [AD.one (D.sl 4 l0), AD.one (I n3)] [AD.one (I n4)], decide (n4 < 0) = false]) :
    Ret Tryz.prog 25 [AD.agg [D.sl 4 l0, I n1, I n2], AD.one (I n3)] [AD.one (I n4)] :=
  .of [Ans.res [AD.one (I n4)], Ans.br false] _ Tryz.func25 rfl (by kernel_rfl) h

/- loop.example/g00973/laws.szWorker -/

theorem laws_szWorker_p0 (l0 : List (List D)) (l1 : List (List D)) (l2 : List (List D)) (l3 : List (List D)) (l4 : List (List D)) (l5 : List (List D)) (l6 : List (List D)) (l7 : List (List D)) (n8 : Int) (n9 : Int)
    (h : Obs [Ret Tryz.prog 95 [AD.one (D.sl 5 l0), AD.one (I n8)] [AD.one (I n9)], decide (n9 < 0) = true]) :
    Ret Tryz.prog 62 [AD.agg [D.sl 5 l0, D.sl 5 l1, D.sl 5 l2, D.sl 4 l3, D.sl 1 l4, D.sl 1 l5, D.sl 1 l6, D.sl 2 l7], AD.one (I n8)] [AD.one (I (-1))] :=
  .of [Ans.res [AD.one (I n9)], Ans.br true] _ Tryz.func62 rfl (by kernel_rfl) h

theorem laws_szWorker_p1 (l0 : List (List D)) (l1 : List (List D)) (l2 : List (List D)) (l3 : List (List D)) (l4 : List (List D)) (l5 : List (List D)) (l6 : List (List D)) (l7 : List (List D)) (n8 : Int) (n9 : Int) (n10 : Int)
    (h : Obs [Ret Tryz.prog 95 [AD.one (D.sl 5 l0), AD.one (I n8)] [AD.one (I n9)], decide (n9 < 0) = false, Ret Tryz.prog 95 [AD.one (D.sl 5 l1), AD.one (I n9)] [AD.one (I n10)], decide (n10 < 0) = true]) :
    Ret Tryz.prog 62 [AD.agg [D.sl 5 l0, D.sl 5 l1, D.sl 5 l2, D.sl 4 l3, D.sl 1 l4, D.sl 1 l5, D.sl 1 l6, D.sl 2 l7], AD.one (I n8)] [AD.one (I (-1))] :=
  .of [Ans.res [AD.one (I n9)], Ans.br false, Ans.res [AD.one (I n10)], Ans.br true] _ Tryz.func62 rfl (by kernel_rfl) h

theorem laws_szWorker_p2 (l0 : List (List D)) (l1 : List (List D)) (l2 : List (List D)) (l3 : List (List D)) (l4 : List (List D)) (l5 : List (List D)) (l6 : List (List D)) (l7 : List (List D)) (n8 : Int) (n9 : Int) (n10 : Int) (n11 : Int)
    (h : Obs [Ret Tryz.prog 95 [AD.one (D.sl 5 l0), AD.one (I n8)] [AD.one (I n9)], decide (n9 < 0) = false, Ret Tryz.prog 95 [AD.one (D.sl 5 l1), AD.one (I n9)] [AD.one (I n10)], decide (n10 < 0) = false, Ret Tryz.prog 95 [AD.one (D.sl 5 l2), AD.one (I n10)] [AD.one (I n11)], decide (n11 < 0) = true]) :
    Ret Tryz.prog 62 [AD.agg [D.sl 5 l0, D.sl 5 l1, D.sl 5 l2, D.sl 4 l3, D.sl 1 l4, D.sl 1 l5, D.sl 1 l6, D.sl 2 l7], AD.one (I n8)] [AD.one (I (-1))] :=
  .of [Ans.res [AD.one (I n9)], Ans.br false, Ans.res [AD.one (I n10)], Ans.br false, Ans.res [AD.one (I n11)], Ans.br true] _ Tryz.func62 rfl (by kernel_rfl) h

theorem laws_szWorker_p3 (l0 : List (List D)) (l1 : List (List D)) (l2 : List (List D)) (l3 : List (List D)) (l4 : List (List D)) (l5 : List (List D)) (l6 : List (List D)) (l7 : List (List D)) (n8 : Int) (n9 : Int) (n10 : Int) (n11 : Int) (n12 : Int)
    (h : Obs [Ret Tryz.prog 95 [AD.one (D.sl 5 l0), AD.one (I n8)] [AD.one (I n9)], decide (n9 < 0) = false, Ret Tryz.prog 95 [AD.one (D.sl 5 l1), AD.one (I n9)] [AD.one (I n10)], decide (n10 < 0) = false, Ret Tryz.prog 95 [AD.one (D.sl 5 l2), AD.one (I n10)] [AD.one (I n11)], decide (n11 < 0) = false, Ret Tryz.prog 96 [AD.one (D.sl 4 l3), AD.one (I n11)] [AD.one (I n12)], decide (n12 < 0) = true]) :
    Ret Tryz.prog 62 [AD.agg [D.sl 5 l0, D.sl 5 l1, D.sl 5 l2, D.sl 4 l3, D.sl 1 l4, D.sl 1 l5, D.sl 1 l6, D.sl 2 l7], AD.one (I n8)] [AD.one (I (-1))] :=
  .of [Ans.res [AD.one (I n9)], Ans.br false, Ans.res [AD.one (I n10)], Ans.br false, Ans.res [AD.one (I n11)], Ans.br false, Ans.res [AD.one (I n12)], Ans.br true] _ Tryz.func62 rfl (by kernel_rfl) h

theorem laws_szWorker_p4 (l0 : List (List D)) (l1 : List (List D)) (l2 : List (List D)) (l3 : List (List D)) (l4 : List (List D)) (l5 : List (List D)) (l6 : List (List D)) (l7 : List (List D)) (n8 : Int) (n9 : Int) (n10 : Int) (n11 : Int) (n12 : Int) (n13 : Int)
    (h : Obs [Ret Tryz.prog 95 [AD.one (D.sl 5 l0), AD.one (I n8)] [AD.one (I n9)], decide (n9 < 0) = false, Ret Tryz.prog 95 [AD.one (D.sl 5 l1), AD.one (I n9)] [AD.one (I n10)], decide (n10 < 0) = false, Ret Tryz.prog 95 [AD.one (D.sl 5 l2), AD.one (I n10)] [AD.one (I n11)], decide (n11 < 0) = false, Ret Tryz.prog 96 [AD.one (D.sl 4 l3), AD.one (I n11)] [AD.one (I n12)], decide (n12 < 0) = false, Ret Tryz.prog 97 [AD.one (D.sl 1 l4), AD.one (I n12)] [AD.one (I n13)], decide (n13 < 0) = true]) :
    Ret Tryz.prog 62 [AD.agg [D.sl 5 l0, D.sl 5 l1, D.sl 5 l2, D.sl 4 l3, D.sl 1 l4, D.sl 1 l5, D.sl 1 l6, D.sl 2 l7], AD.one (I n8)] [AD.one (I (-1))] :=
  .of [Ans.res [AD.one (I n9)], Ans.br false, Ans.res [AD.one (I n10)], Ans.br false, Ans.res [AD.one (I n11)], Ans.br false, Ans.res [AD.one (I n12)], Ans.br false, Ans.res [AD.one (I n13)], Ans.br true] _ Tryz.func62 rfl (by kernel_rfl) h

theorem laws_szWorker_p5 (l0 : List (List D)) (l1 : List (List D)) (l2 : List (List D)) (l3 : List (List D)) (l4 : List (List D)) (l5 : List (List D)) (l6 : List (List D)) (l7 : List (List D)) (n8 : Int) (n9 : Int) (n10 : Int) (n11 : Int) (n12 : Int) (n13 : Int) (n14 : Int)
    (h : Obs [Ret Tryz.prog 95 [AD.one (D.sl 5 l0), AD.one (I n8)] [AD.one (I n9)], decide (n9 < 0) = false, Ret Tryz.prog 95 [AD.one (D.sl 5 l1), AD.one (I n9)] [AD.one (I n10)], decide (n10 < 0) = false, Ret Tryz.prog 95 [AD.one (D.sl 5 l2), AD.one (I n10)] [AD.one (I n11)], decide (n11 < 0) = false, Ret Tryz.prog 96 [AD.one (D.sl 4 l3), AD.one (I n11)] [AD.one (I n12)], decide (n12 < 0) = false, Ret Tryz.prog 97 [AD.one (D.sl 1 l4), AD.one (I n12)] [AD.one (I n13)], decide (n13 < 0) = false, Ret Tryz.prog 98 [AD.one (D.sl 1 l5), AD.one (I n13)] [AD.one (I n14)], decide (n14 < 0) = true]) :
    Ret Tryz.prog 62 [AD.agg [D.sl 5 l0, D.sl 5 l1, D.sl 5 l2, D.sl 4 l3, D.sl 1 l4, D.sl 1 l5, D.sl 1 l6, D.sl 2 l7], AD.one (I n8)] [AD.one (I (-1))] :=
  .of [Ans.res [AD.one (I n9)], Ans.br false, Ans.res [AD.one (I n10)], Ans.br false, Ans.res [AD.one (I n11)], Ans.br false, Ans.res [AD.one (I n12)], Ans.br false, Ans.res [AD.one (I n13)], Ans.br false, Ans.res [AD.one (I n14)], Ans.br true] _ Tryz.func62 rfl (by kernel_rfl) h

theorem laws_szWorker_p6 (l0 : List (List D)) (l1 : List (List D)) (l2 : List (List D)) (l3 : List (List D)) (l4 : List (List D)) (l5 : List (List D)) (l6 : List (List D)) (l7 : List (List D)) (n8 : Int) (n9 : Int) (n10 : Int) (n11 : Int) (n12 : Int) (n13 : Int) (n14 : Int) (n15 : Int)
    (h : Obs [Ret Tryz.prog 95 [AD.one (D.sl 5 l0), AD.one (I n8)] [AD.one (I n9)], decide (n9 < 0) = false, Ret Tryz.prog 95 [AD.one (D.sl 5 l1), AD.one (I n9)] [AD.one (I n10)], decide (n10 < 0) = false, Ret Tryz.prog 95 [AD.one (D.sl 5 l2), AD.one (I n10)] [AD.one (I n11)], decide (n11 < 0) = false, Ret Tryz.prog 96 [AD.one (D.sl 4 l3), AD.one (I n11)] [AD.one (I n12)], decide (n12 < 0) = false, Ret Tryz.prog 97 [AD.one (D.sl 1 l4), AD.one (I n12)] [AD.one (I n13)], decide (n13 < 0) = false, Ret Tryz.prog 98 [AD.one (D.sl 1 l5), AD.one (I n13)] [AD.one (I n14)], decide (n14 < 0) = false, Ret Tryz.prog 98 [AD.one (D.sl 1 l6), AD.one (I n14)] [AD.one (I n15)], decide (n15 < 0) = true]) :
    Ret Tryz.prog 62 [AD.agg [D.sl 5 l0, D.sl 5 l1, D.sl 5 l2, D.sl 4 l3, D.sl 1 l4, D.sl 1 l5, D.sl 1 l6, D.sl 2 l7], AD.one (I n8)] [AD.one (I (-1))] :=
  .of [Ans.res [AD.one (I n9)], Ans.br false, Ans.res [AD.one (I n10)], Ans.br false, Ans.res [AD.one (I n11)], Ans.br false, Ans.res [AD.one (I n12)], Ans.br false, Ans.res [AD.one (I n13)], Ans.br false, Ans.res [AD.one (I n14)], Ans.br false, Ans.res [AD.one (I n15)], Ans.br true] _ Tryz.func62 rfl (by kernel_rfl) h

theorem laws_szWorker_p7 (l0 : List (List D)) (l1 : List (List D)) (l2 : List (List D)) (l3 : List (List D)) (l4 : List (List D)) (l5 : List (List D)) (l6 : List (List D)) (l7 : List (List D)) (n8 : Int) (n9 : Int) (n10 : Int) (n11 : Int) (n12 : Int) (n13 : Int) (n14 : Int) (n15 : Int) (n16 : Int)
    (h : Obs [Ret Tryz.prog 95 [AD.one (D.sl 5 l0), AD.one (I n8)] [AD.one (I n9)], decide (n9 < 0) = false, Ret Tryz.prog 95 [AD.one (D.sl 5 l1), AD.one (I n9)] [AD.one (I n10)], decide (n10 < 0) = false, Ret Tryz.prog 95 [AD.one (D.sl 5 l2), AD.one (I n10)] [AD.one (I n11)], decide (n11 < 0) = false, Ret Tryz.prog 96 [AD.one (D.sl 4 l3), AD.one (I n11)] [AD.one (I n12)], decide (n12 < 0) = false, Ret Tryz.prog 97 [AD.one (D.sl 1 l4), AD.one (I n12)] [AD.one (I n13)], decide (n13 < 0) = false, Ret Tryz.prog 98 [AD.one (D.sl 1 l5), AD.one (I n13)] [AD.one (I n14)], decide (n14 < 0) = false, Ret Tryz.prog 98 [AD.one (D.sl 1 l6), AD.one (I n14)] [AD.one (I n15)], decide (n15 < 0) = false, Ret Tryz.prog 99 [AD.one (D.sl 2 l7), AD.one (I n15)] [AD.one (I n16)], decide (n16 < 0) = true]) :
    Ret Tryz.prog 62 [AD.agg [D.sl 5 l0, D.sl 5 l1, D.sl 5 l2, D.sl 4 l3, D.sl 1 l4, D.sl 1 l5, D.sl 1 l6, D.sl 2 l7], AD.one (I n8)] [AD.one (I (-1))] :=
  .of [Ans.res [AD.one (I n9)], Ans.br false, Ans.res [AD.one (I n10)], Ans.br false, Ans.res [AD.one (I n11)], Ans.br false, Ans.res [AD.one (I n12)], Ans.br false, Ans.res [AD.one (I n13)], Ans.br false, Ans.res [AD.one (I n14)], Ans.br false, Ans.res [AD.one (I n15)], Ans.br false, Ans.res [AD.one (I n16)], Ans.br true] _ Tryz.func62 rfl (by kernel_rfl) h

theorem laws_szWorker_p8 (l0 : List (List D)) (l1 : List (List D)) (l2 : List (List D)) (l3 : List (List D)) (l4 : List (List D)) (l5 : List (List D)) (l6 : List (List D)) (l7 : List (List D)) (n8 : Int) (n9 : Int) (n10 : Int) (n11 : Int) (n12 : Int) (n13 : Int) (n14 : Int) (n15 : Int) (n16 : Int)
    (h : Obs [Ret Tryz.prog 95 [AD.one (D.sl 5 l0), AD.one (I n8)] [AD.one (I n9)], decide (n9 < 0) = false, Ret Tryz.prog 95 [AD.one (D.sl 5 l1), AD.one (I n9)] [AD.one (I n10)], decide (n10 < 0) = false, Ret Tryz.prog 95 [AD.one (D.sl 5 l2), AD.one (I n10)] [AD.one (I n11)], decide (n11 < 0) = false, Ret Tryz.prog 96 [AD.one (D.sl 4 l3), AD.one (I n11)] [AD.one (I n12)], decide (n12 < 0) = false, Ret Tryz.prog 97 [AD.one (D.sl 1 l4), AD.one (I n12)] [AD.one (I n13)], decide (n13 < 0) = false, Ret Tryz.prog 98 [AD.one (D.sl 1 l5), AD.one (I n13)] [AD.one (I n14)], decide (n14 < 0) = false, Ret Tryz.prog 98 [AD.one (D.sl 1 l6), AD.one (I n14)] [AD.one (I n15)], decide (n15 < 0) = false, Ret Tryz.prog 99 [AD.one (D.sl 2 l7), AD.one (I n15)] [AD.one (I n16)], decide (n16 < 0) = false]) :
    Ret Tryz.prog 62 [AD.agg [D.sl 5 l0, D.sl 5 l1, D.sl 5 l2, D.sl 4 l3, D.sl 1 l4, D.sl 1 l5, D.sl 1 l6, D.sl 2 l7], AD.one (I n8)] [AD.one (I n16)] :=
  .of [Ans.res [AD.one (I n9)], Ans.br false, Ans.res [AD.one (I n10)], Ans.br false, Ans.res [AD.one (I n11)], Ans.br false, Ans.res [AD.one (I n12)], Ans.br false, Ans.res [AD.one (I n13)], Ans.br false, Ans.res [AD.one (I n14)], Ans.br false, Ans.res [AD.one (I n15)], Ans.br false, Ans.res [AD.one (I n16)], Ans.br false] _ Tryz.func62 rfl (by kernel_rfl) h

/- loop.example/g00973/laws.szWorkerS -/

theorem laws_szWorkerS_p0 (l0 : List (List D)) (n1 : Int)
    (h : Obs [inInt IntKind.i64 (n1 - (↑l0.length : Int)), decide (n1 - (↑l0.length : Int) < 0) = true]) :
    Ret Tryz.prog 26 [AD.one (D.sl 8 l0), AD.one (I n1)] [AD.one (I (-1))] :=
  .of [Ans.br true] _ Tryz.func26 rfl (by kernel_rfl) h

def laws_szWorkerS_L0 (l0 : List (List D)) (n1 : Int) (n2 : Int) : St :=
  { env := envOf 27 [(0, PV.al (AL.one (Leaf.sl Tag.free 8 l0))), (1, PV.al (AL.one (Leaf.v (Value.int IntKind.i64 n2)))), (5, PV.al (AL.one (Leaf.v (Value.int IntKind.i64 n1))))], boxes := [] }

def laws_szWorkerS_X0 (n0 : Int) : St :=
  { env := envOf 27 [(4, PV.al (AL.one (Leaf.v (Value.int IntKind.i64 n0))))], boxes := [] }

theorem laws_szWorkerS_L0_x0 (l0 : List (List D)) (n2 : Int) (n3 : Int) (l4 : List (List D)) (l5 : List (List D)) (l6 : List (List D)) (l7 : List (List D)) (l8 : List (List D)) (l9 : List (List D)) (l10 : List (List D)) (l11 : List (List D)) (n12 : Int)
    (h : Obs [decide (n2 < (↑l0.length : Int)) = true, 0 ≤ n2, n2 < (↑l0.length : Int), l0[n2.toNat]? = some [D.sl 5 l4, D.sl 5 l5, D.sl 5 l6, D.sl 4 l7, D.sl 1 l8, D.sl 1 l9, D.sl 1 l10, D.sl 2 l11], Ret Tryz.prog 62 [AD.agg [D.sl 5 l4, D.sl 5 l5, D.sl 5 l6, D.sl 4 l7, D.sl 1 l8, D.sl 1 l9, D.sl 1 l10, D.sl 2 l11], AD.one (I n3)] [AD.one (I n12)], decide (n12 < 0) = true]) :
    Tr Tryz.prog (loopOf Tryz.f26 0) (laws_szWorkerS_L0 l0 n2 n3) Ex.ret (laws_szWorkerS_X0 (-1)) :=
  .of_loopc (ks := [4]) (bs := []) (ans := [Ans.br true, Ans.el [D.sl 5 l4, D.sl 5 l5, D.sl 5 l6, D.sl 4 l7, D.sl 1 l8, D.sl 1 l9, D.sl 1 l10, D.sl 2 l11], Ans.res [AD.one (I n12)], Ans.br true]) (by kernel_rfl) h

theorem laws_szWorkerS_L0_s1 (l0 : List (List D)) (n2 : Int) (n3 : Int) (l4 : List (List D)) (l5 : List (List D)) (l6 : List (List D)) (l7 : List (List D)) (l8 : List (List D)) (l9 : List (List D)) (l10 : List (List D)) (l11 : List (List D)) (n12 : Int)
    (h : Obs [decide (n2 < (↑l0.length : Int)) = true, 0 ≤ n2, n2 < (↑l0.length : Int), l0[n2.toNat]? = some [D.sl 5 l4, D.sl 5 l5, D.sl 5 l6, D.sl 4 l7, D.sl 1 l8, D.sl 1 l9, D.sl 1 l10, D.sl 2 l11], Ret Tryz.prog 62 [AD.agg [D.sl 5 l4, D.sl 5 l5, D.sl 5 l6, D.sl 4 l7, D.sl 1 l8, D.sl 1 l9, D.sl 1 l10, D.sl 2 l11], AD.one (I n3)] [AD.one (I n12)], decide (n12 < 0) = false, inInt IntKind.i64 (n2 + 1)]) :
    Tr Tryz.prog (loopOf Tryz.f26 0) (laws_szWorkerS_L0 l0 n2 n3) Ex.normal (laws_szWorkerS_L0 l0 (n2 + 1) n12) :=
  .of_loopc (ks := [5, 0, 1]) (bs := []) (ans := [Ans.br true, Ans.el [D.sl 5 l4, D.sl 5 l5, D.sl 5 l6, D.sl 4 l7, D.sl 1 l8, D.sl 1 l9, D.sl 1 l10, D.sl 2 l11], Ans.res [AD.one (I n12)], Ans.br false]) (by kernel_rfl) h

def laws_szWorkerS_X0v2 (n0 : Int) : St :=
  { env := envOf 27 [(1, PV.al (AL.one (Leaf.v (Value.int IntKind.i64 n0))))], boxes := [] }

theorem laws_szWorkerS_L0_x2 (l0 : List (List D)) (n2 : Int) (n3 : Int)
    (h : Obs [decide (n2 < (↑l0.length : Int)) = false]) :
    Tr Tryz.prog (loopOf Tryz.f26 0) (laws_szWorkerS_L0 l0 n2 n3) (Ex.exit 0) (laws_szWorkerS_X0v2 n3) :=
  .of_loopc (ks := [1]) (bs := []) (ans := [Ans.br false]) (by kernel_rfl) h

theorem laws_szWorkerS_p1 (l0 : List (List D)) (n1 : Int) (n2 : Int)
    (h : Obs [inInt IntKind.i64 (n1 - (↑l0.length : Int)), decide (n1 - (↑l0.length : Int) < 0) = false, LoopOk Tryz.prog (loopOf Tryz.f26 0) (laws_szWorkerS_L0 l0 0 (n1 - (↑l0.length : Int))) Ex.ret (laws_szWorkerS_X0 n2)]) :
    Ret Tryz.prog 26 [AD.one (D.sl 8 l0), AD.one (I n1)] [AD.one (I n2)] :=
  .of [Ans.br false, Ans.loop [] [5, 0, 1] [] Ex.ret (laws_szWorkerS_X0 n2)] _ Tryz.func26 rfl (by kernel_rfl) h

theorem laws_szWorkerS_p2 (l0 : List (List D)) (n1 : Int) (n2 : Int)
    (h : Obs [inInt IntKind.i64 (n1 - (↑l0.length : Int)), decide (n1 - (↑l0.length : Int) < 0) = false, LoopOk Tryz.prog (loopOf Tryz.f26 0) (laws_szWorkerS_L0 l0 0 (n1 - (↑l0.length : Int))) (Ex.exit 0) (laws_szWorkerS_X0v2 n2)]) :
    Ret Tryz.prog 26 [AD.one (D.sl 8 l0), AD.one (I n1)] [AD.one (I n2)] :=
  .of [Ans.br false, Ans.loop [] [5, 0, 1] [] (Ex.exit 0) (laws_szWorkerS_X0v2 n2)] _ Tryz.func26 rfl (by kernel_rfl) h

/- loop.example/g00973/laws.szCluster -/

theorem laws_szCluster_p0 (l0 : List (List D)) (n1 : Int) (n2 : Int) (l3 : List (List D)) (l4 : List (List D)) (l5 : List (List D)) (l6 : List (List D)) (n7 : Int) (n8 : Int)
    (h : Obs [Ret Tryz.prog 25 [AD.agg [D.sl 4 l0, I n1, I n2], AD.one (I n7)] [AD.one (I n8)], decide (n8 < 0) = true]) :
    Ret Tryz.prog 7 [AD.agg [D.sl 4 l0, I n1, I n2, D.sl 8 l3, D.sl 6 l4, D.sl 5 l5, D.sl 3 l6], AD.one (I n7)] [AD.one (I (-1))] :=
  .of [Ans.res [AD.one (I n8)], Ans.br true] _ Tryz.func7 rfl (by kernel_rfl) h

theorem laws_szCluster_p1 (l0 : List (List D)) (n1 : Int) (n2 : Int) (l3 : List (List D)) (l4 : List (List D)) (l5 : List (List D)) (l6 : List (List D)) (n7 : Int) (n8 : Int) (n9 : Int)
    (h : Obs [Ret Tryz.prog 25 [AD.agg [D.sl 4 l0, I n1, I n2], AD.one (I n7)] [AD.one (I n8)], decide (n8 < 0) = false, Ret Tryz.prog 26 [AD.one (D.sl 8 l3), AD.one (I n8)] [AD.one (I n9)], decide (n9 < 0) = true]) :
    Ret Tryz.prog 7 [AD.agg [D.sl 4 l0, I n1, I n2, D.sl 8 l3, D.sl 6 l4, D.sl 5 l5, D.sl 3 l6], AD.one (I n7)] [AD.one (I (-1))] :=
  .of [Ans.res [AD.one (I n8)], Ans.br false, Ans.res [AD.one (I n9)], Ans.br true] _ Tryz.func7 rfl (by kernel_rfl) h

theorem laws_szCluster_p2 (l0 : List (List D)) (n1 : Int) (n2 : Int) (l3 : List (List D)) (l4 : List (List D)) (l5 : List (List D)) (l6 : List (List D)) (n7 : Int) (n8 : Int) (n9 : Int) (n10 : Int)
    (h : Obs [Ret Tryz.prog 25 [AD.agg [D.sl 4 l0, I n1, I n2], AD.one (I n7)] [AD.one (I n8)], decide (n8 < 0) = false, Ret Tryz.prog 26 [AD.one (D.sl 8 l3), AD.one (I n8)] [AD.one (I n9)], decide (n9 < 0) = false, Ret Tryz.prog 27 [AD.one (D.sl 6 l4), AD.one (I n9)] [AD.one (I n10)], decide (n10 < 0) = true]) :
    Ret Tryz.prog 7 [AD.agg [D.sl 4 l0, I n1, I n2, D.sl 8 l3, D.sl 6 l4, D.sl 5 l5, D.sl 3 l6], AD.one (I n7)] [AD.one (I (-1))] :=
  .of [Ans.res [AD.one (I n8)], Ans.br false, Ans.res [AD.one (I n9)], Ans.br false, Ans.res [AD.one (I n10)], Ans.br true] _ Tryz.func7 rfl (by kernel_rfl) h

theorem laws_szCluster_p3 (l0 : List (List D)) (n1 : Int) (n2 : Int) (l3 : List (List D)) (l4 : List (List D)) (l5 : List (List D)) (l6 : List (List D)) (n7 : Int) (n8 : Int) (n9 : Int) (n10 : Int) (n11 : Int)
    (h : Obs [Ret Tryz.prog 25 [AD.agg [D.sl 4 l0, I n1, I n2], AD.one (I n7)] [AD.one (I n8)], decide (n8 < 0) = false, Ret Tryz.prog 26 [AD.one (D.sl 8 l3), AD.one (I n8)] [AD.one (I n9)], decide (n9 < 0) = false, Ret Tryz.prog 27 [AD.one (D.sl 6 l4), AD.one (I n9)] [AD.one (I n10)], decide (n10 < 0) = false, Ret Tryz.prog 28 [AD.one (D.sl 5 l5), AD.one (I n10)] [AD.one (I n11)], decide (n11 < 0) = true]) :
    Ret Tryz.prog 7 [AD.agg [D.sl 4 l0, I n1, I n2, D.sl 8 l3, D.sl 6 l4, D.sl 5 l5, D.sl 3 l6], AD.one (I n7)] [AD.one (I (-1))] :=
  .of [Ans.res [AD.one (I n8)], Ans.br false, Ans.res [AD.one (I n9)], Ans.br false, Ans.res [AD.one (I n10)], Ans.br false, Ans.res [AD.one (I n11)], Ans.br true] _ Tryz.func7 rfl (by kernel_rfl) h

theorem laws_szCluster_p4 (l0 : List (List D)) (n1 : Int) (n2 : Int) (l3 : List (List D)) (l4 : List (List D)) (l5 : List (List D)) (l6 : List (List D)) (n7 : Int) (n8 : Int) (n9 : Int) (n10 : Int) (n11 : Int) (n12 : Int)
    (h : Obs [Ret Tryz.prog 25 [AD.agg [D.sl 4 l0, I n1, I n2], AD.one (I n7)] [AD.one (I n8)], decide (n8 < 0) = false, Ret Tryz.prog 26 [AD.one (D.sl 8 l3), AD.one (I n8)] [AD.one (I n9)], decide (n9 < 0) = false, Ret Tryz.prog 27 [AD.one (D.sl 6 l4), AD.one (I n9)] [AD.one (I n10)], decide (n10 < 0) = false, Ret Tryz.prog 28 [AD.one (D.sl 5 l5), AD.one (I n10)] [AD.one (I n11)], decide (n11 < 0) = false, Ret Tryz.prog 29 [AD.one (D.sl 3 l6), AD.one (I n11)] [AD.one (I n12)], decide (n12 < 0) = true]) :
    Ret Tryz.prog 7 [AD.agg [D.sl 4 l0, I n1, I n2, D.sl 8 l3, D.sl 6 l4, D.sl 5 l5, D.sl 3 l6], AD.one (I n7)] [AD.one (I (-1))] :=
  .of [Ans.res [AD.one (I n8)], Ans.br false, Ans.res [AD.one (I n9)], Ans.br false, Ans.res [AD.one (I n10)], Ans.br false, Ans.res [AD.one (I n11)], Ans.br false, Ans.res [AD.one (I n12)], Ans.br true] _ Tryz.func7 rfl (by kernel_rfl) h

theorem laws_szCluster_p5 (l0 : List (List D)) (n1 : Int) (n2 : Int) (l3 : List (List D)) (l4 : List (List D)) (l5 : List (List D)) (l6 : List (List D)) (n7 : Int) (n8 : Int) (n9 : Int) (n10 : Int) (n11 : Int) (n12 : Int)
    (h : Obs [Ret Tryz.prog 25 [AD.agg [D.sl 4 l0, I n1, I n2], AD.one (I n7)] [AD.one (I n8)], decide (n8 < 0) = false, Ret Tryz.prog 26 [AD.one (D.sl 8 l3), AD.one (I n8)] [AD.one (I n9)], decide (n9 < 0) = false, Ret Tryz.prog 27 [AD.one (D.sl 6 l4), AD.one (I n9)] [AD.one (I n10)], decide (n10 < 0) = false, Ret Tryz.prog 28 [AD.one (D.sl 5 l5), AD.one (I n10)] [AD.one (I n11)], decide (n11 < 0) = false, Ret Tryz.prog 29 [AD.one (D.sl 3 l6), AD.one (I n11)] [AD.one (I n12)], decide (n12 < 0) = false]) :
    Ret Tryz.prog 7 [AD.agg [D.sl 4 l0, I n1, I n2, D.sl 8 l3, D.sl 6 l4, D.sl 5 l5, D.sl 3 l6], AD.one (I n7)] [AD.one (I n12)] :=
  .of [Ans.res [AD.one (I n8)], Ans.br false, Ans.res [AD.one (I n9)], Ans.br false, Ans.res [AD.one (I n10)], Ans.br false, Ans.res [AD.one (I n11)], Ans.br false, Ans.res [AD.one (I n12)], Ans.br false] _ Tryz.func7 rfl (by kernel_rfl) h


end Go.Proofs.YtbbjajmimckabaaGreat
