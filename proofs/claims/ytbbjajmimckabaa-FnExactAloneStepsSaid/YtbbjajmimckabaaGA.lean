import Derived.Test.YtbbjajmimckabaaRows
import Derived.Test.YtbbjajmimckabaaR23
set_option linter.unusedVariables false
set_option linter.unusedSimpArgs false
namespace Go.Proofs.Ytbbjajmimckabaa
open Go.Sx Go.RowKit

/- loop.example/g00973/laws.szRecordS -/

theorem laws_szRecordS_p0 (l0 : List (List D)) (n1 : Int)
    (h : Obs [inInt IntKind.i64 (n1 - (↑l0.length : Int)), decide (n1 - (↑l0.length : Int) < 0) = true]) :
    Ret Try.prog 11 [AD.one (D.sl 5 l0), AD.one (I n1)] [AD.one (I (-1))] :=
  .of [Ans.br true] _ Try.func11 rfl (by kernel_rfl) h

theorem laws_szRecordS_p1 (l0 : List (List D)) (n1 : Int)
    (h : Obs [inInt IntKind.i64 (n1 - (↑l0.length : Int)), decide (n1 - (↑l0.length : Int) < 0) = false]) :
    Ret Try.prog 11 [AD.one (D.sl 5 l0), AD.one (I n1)] [AD.one (I (n1 - (↑l0.length : Int)))] :=
  .of [Ans.br false] _ Try.func11 rfl (by kernel_rfl) h

/- loop.example/g00973/laws.szCellS -/

/- loop.example/g00973/laws.szIntS -/

theorem laws_szIntS_p0 (l0 : List (List D)) (n1 : Int)
    (h : Obs [inInt IntKind.i64 (n1 - (↑l0.length : Int)), decide (n1 - (↑l0.length : Int) < 0) = true]) :
    Ret Try.prog 120 [AD.one (D.sl 1 l0), AD.one (I n1)] [AD.one (I (-1))] :=
  .of [Ans.br true] _ Try.func120 rfl (by kernel_rfl) h

theorem laws_szIntS_p1 (l0 : List (List D)) (n1 : Int)
    (h : Obs [inInt IntKind.i64 (n1 - (↑l0.length : Int)), decide (n1 - (↑l0.length : Int) < 0) = false]) :
    Ret Try.prog 120 [AD.one (D.sl 1 l0), AD.one (I n1)] [AD.one (I (n1 - (↑l0.length : Int)))] :=
  .of [Ans.br false] _ Try.func120 rfl (by kernel_rfl) h

/- loop.example/g00973/laws.szBoolS -/

/- loop.example/g00973/laws.szDoneS -/

/- loop.example/g00973/laws.szTokenS -/

/- loop.example/g00973/laws.szNewsS -/

/- loop.example/g00973/laws.szNode -/

theorem laws_szNode_p0 (n0 : Int) (n1 : Int) (n2 : Int) (l3 : List (List D)) (n4 : Int) (n5 : Int)
    (h : Obs [Ret Try.prog 120 [AD.one (D.sl 1 l3), AD.one (I n4)] [AD.one (I n5)], decide (n5 < 0) = true]) :
    Ret Try.prog 108 [AD.agg [I n0, I n1, I n2, D.sl 1 l3], AD.one (I n4)] [AD.one (I (-1))] :=
  .of [Ans.res [AD.one (I n5)], Ans.br true] _ Try.func108 rfl (by kernel_rfl) h

theorem laws_szNode_p1 (n0 : Int) (n1 : Int) (n2 : Int) (l3 : List (List D)) (n4 : Int) (n5 : Int)
    (h : Obs [Ret Try.prog 120 [AD.one (D.sl 1 l3), AD.one (I n4)] [AD.one (I n5)], decide (n5 < 0) = false]) :
    Ret Try.prog 108 [AD.agg [I n0, I n1, I n2, D.sl 1 l3], AD.one (I n4)] [AD.one (I n5)] :=
  .of [Ans.res [AD.one (I n5)], Ans.br false] _ Try.func108 rfl (by kernel_rfl) h

/- loop.example/g00973/laws.szNodeS -/

theorem laws_szNodeS_p0 (l0 : List (List D)) (n1 : Int)
    (h : Obs [inInt IntKind.i64 (n1 - (↑l0.length : Int)), decide (n1 - (↑l0.length : Int) < 0) = true]) :
    Ret Try.prog 80 [AD.one (D.sl 4 l0), AD.one (I n1)] [AD.one (I (-1))] :=
  .of [Ans.br true] _ Try.func80 rfl (by kernel_rfl) h

def laws_szNodeS_L0 (l0 : List (List D)) (n1 : Int) (n2 : Int) : St :=
  { env := envOf 27 [(0, PV.al (AL.one (Leaf.sl Tag.free 4 l0))), (1, PV.al (AL.one (Leaf.v (Value.int IntKind.i64 n2)))), (5, PV.al (AL.one (Leaf.v (Value.int IntKind.i64 n1))))], boxes := [] }

def laws_szNodeS_X0 (n0 : Int) : St :=
  { env := envOf 27 [(4, PV.al (AL.one (Leaf.v (Value.int IntKind.i64 n0))))], boxes := [] }

theorem laws_szNodeS_L0_x0 (l0 : List (List D)) (n2 : Int) (n3 : Int) (n4 : Int) (n5 : Int) (n6 : Int) (l7 : List (List D)) (n8 : Int)
    (h : Obs [decide (n2 < (↑l0.length : Int)) = true, 0 ≤ n2, n2 < (↑l0.length : Int), l0[n2.toNat]? = some [I n4, I n5, I n6, D.sl 1 l7], Ret Try.prog 108 [AD.agg [I n4, I n5, I n6, D.sl 1 l7], AD.one (I n3)] [AD.one (I n8)], decide (n8 < 0) = true]) :
    Tr Try.prog (loopOf Try.f80 0) (laws_szNodeS_L0 l0 n2 n3) Ex.ret (laws_szNodeS_X0 (-1)) :=
  .of_loopc (ks := [4]) (bs := []) (ans := [Ans.br true, Ans.el [I n4, I n5, I n6, D.sl 1 l7], Ans.res [AD.one (I n8)], Ans.br true]) (by kernel_rfl) h

theorem laws_szNodeS_L0_s1 (l0 : List (List D)) (n2 : Int) (n3 : Int) (n4 : Int) (n5 : Int) (n6 : Int) (l7 : List (List D)) (n8 : Int)
    (h : Obs [decide (n2 < (↑l0.length : Int)) = true, 0 ≤ n2, n2 < (↑l0.length : Int), l0[n2.toNat]? = some [I n4, I n5, I n6, D.sl 1 l7], Ret Try.prog 108 [AD.agg [I n4, I n5, I n6, D.sl 1 l7], AD.one (I n3)] [AD.one (I n8)], decide (n8 < 0) = false, inInt IntKind.i64 (n2 + 1)]) :
    Tr Try.prog (loopOf Try.f80 0) (laws_szNodeS_L0 l0 n2 n3) Ex.normal (laws_szNodeS_L0 l0 (n2 + 1) n8) :=
  .of_loopc (ks := [5, 0, 1]) (bs := []) (ans := [Ans.br true, Ans.el [I n4, I n5, I n6, D.sl 1 l7], Ans.res [AD.one (I n8)], Ans.br false]) (by kernel_rfl) h

def laws_szNodeS_X0v2 (n0 : Int) : St :=
  { env := envOf 27 [(1, PV.al (AL.one (Leaf.v (Value.int IntKind.i64 n0))))], boxes := [] }

theorem laws_szNodeS_L0_x2 (l0 : List (List D)) (n2 : Int) (n3 : Int)
    (h : Obs [decide (n2 < (↑l0.length : Int)) = false]) :
    Tr Try.prog (loopOf Try.f80 0) (laws_szNodeS_L0 l0 n2 n3) (Ex.exit 0) (laws_szNodeS_X0v2 n3) :=
  .of_loopc (ks := [1]) (bs := []) (ans := [Ans.br false]) (by kernel_rfl) h

theorem laws_szNodeS_p1 (l0 : List (List D)) (n1 : Int) (n2 : Int)
    (h : Obs [inInt IntKind.i64 (n1 - (↑l0.length : Int)), decide (n1 - (↑l0.length : Int) < 0) = false, LoopOk Try.prog (loopOf Try.f80 0) (laws_szNodeS_L0 l0 0 (n1 - (↑l0.length : Int))) Ex.ret (laws_szNodeS_X0 n2)]) :
    Ret Try.prog 80 [AD.one (D.sl 4 l0), AD.one (I n1)] [AD.one (I n2)] :=
  .of [Ans.br false, Ans.loop [] [5, 0, 1] [] Ex.ret (laws_szNodeS_X0 n2)] _ Try.func80 rfl (by kernel_rfl) h

theorem laws_szNodeS_p2 (l0 : List (List D)) (n1 : Int) (n2 : Int)
    (h : Obs [inInt IntKind.i64 (n1 - (↑l0.length : Int)), decide (n1 - (↑l0.length : Int) < 0) = false, LoopOk Try.prog (loopOf Try.f80 0) (laws_szNodeS_L0 l0 0 (n1 - (↑l0.length : Int))) (Ex.exit 0) (laws_szNodeS_X0v2 n2)]) :
    Ret Try.prog 80 [AD.one (D.sl 4 l0), AD.one (I n1)] [AD.one (I n2)] :=
  .of [Ans.br false, Ans.loop [] [5, 0, 1] [] (Ex.exit 0) (laws_szNodeS_X0v2 n2)] _ Try.func80 rfl (by kernel_rfl) h

/- loop.example/g00973/laws.szLink -/

/- loop.example/g00973/laws.szLinkS -/

/- loop.example/g00973/laws.szGraph -/

theorem laws_szGraph_p0 (l0 : List (List D)) (n1 : Int) (n2 : Int) (n3 : Int) (n4 : Int)
    (h : Obs [Ret Try.prog 80 [AD.one (D.sl 4 l0), AD.one (I n3)] [AD.one (I n4)], decide (n4 < 0) = true]) :
    Ret Try.prog 39 [AD.agg [D.sl 4 l0, I n1, I n2], AD.one (I n3)] [AD.one (I (-1))] :=
  .of [Ans.res [AD.one (I n4)], Ans.br true] _ Try.func39 rfl (by kernel_rfl) h

theorem laws_szGraph_p1 (l0 : List (List D)) (n1 : Int) (n2 : Int) (n3 : Int) (n4 : Int)
    (h : Obs [Ret Try.prog 80 [AD.one (D.sl 4 l0), AD.one (I n3)] [AD.one (I n4)], decide (n4 < 0) = false]) :
    Ret Try.prog 39 [AD.agg [D.sl 4 l0, I n1, I n2], AD.one (I n3)] [AD.one (I n4)] :=
  .of [Ans.res [AD.one (I n4)], Ans.br false] _ Try.func39 rfl (by kernel_rfl) h

/- loop.example/g00973/laws.szWorker -/

/- loop.example/g00973/laws.szWorkerS -/

/- loop.example/g00973/laws.szCluster -/

end Go.Proofs.Ytbbjajmimckabaa
