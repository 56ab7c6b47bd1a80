import Derived.Test.YtcdpehhhkfdoaaaRows
import Derived.Test.YtcdpehhhkfdoaaaR17
set_option linter.unusedVariables false
set_option linter.unusedSimpArgs false
namespace Go.Proofs.Ytcdpehhhkfdoaaa
open Go.Sx Go.RowKit

/- loop.example/g00973/impl.doneAt$1 -/

theorem impl_doneAt_1_p0 (n0 : Int) (b1 : Bool) (n2 : Int)
    (h : Obs []) :
    Ret Try.prog 136 [AD.agg [I n0, B b1], AD.one (D.ptr [I n2])] [AD.one (B (n0 == n2))] :=
  .of [] _ Try.func136 rfl (by kernel_rfl) h

/- loop.example/g00973/impl.AllDone$1 -/

theorem impl_AllDone_1_p0 (l0 : List (List D)) (l1 : List (List D)) (l2 : List (List D)) (l3 : List (List D)) (l4 : List (List D)) (l5 : List (List D)) (l6 : List (List D)) (l7 : List (List D)) (n8 : Int) (b9 : Bool)
    (h : Obs [Ret Try.prog 93 [AD.agg [D.sl 5 l0, D.sl 5 l1, D.sl 5 l2, D.sl 4 l3, D.sl 1 l4, D.sl 1 l5, D.sl 1 l6, D.sl 2 l7], AD.one (I n8)] [AD.one (B b9)]]) :
    Ret Try.prog 95 [AD.agg [D.sl 5 l0, D.sl 5 l1, D.sl 5 l2, D.sl 4 l3, D.sl 1 l4, D.sl 1 l5, D.sl 1 l6, D.sl 2 l7], AD.one (D.ptr [I n8])] [AD.one (B !b9)] :=
  .of [Ans.res [AD.one (B b9)]] _ Try.func95 rfl (by kernel_rfl) h

/- loop.example/g00973/impl.ownedBy$1 -/

theorem impl_ownedBy_1_p0 (n0 : Int) (n1 : Int) (n2 : Int) (n3 : Int) (n4 : Int) (n5 : Int) (n6 : Int) (n7 : Int)
    (h : Obs [Ret Try.prog 127 [AD.one (I n3), AD.one (I n5)] [AD.one (I n7)]]) :
    Ret Try.prog 126 [AD.agg [I n0, I n1, I n2, I n3, I n4], AD.one (D.ptr [I n5]), AD.one (D.ptr [I n6])] [AD.one (B (n7 != n6))] :=
  .of [Ans.res [AD.one (I n7)]] _ Try.func126 rfl (by kernel_rfl) h

/- slices.IndexFunc[[]loop.example/g00973/impl.Worker,loop.example/g00973/impl.Worker] -/

def slices_IndexFunc_Worker_L0 (l0 : List (List D)) (g1 : Nat) (k2 : List D) (n3 : Int) : St :=
  { env := envOf 19 [(0, PV.al (AL.one (Leaf.sl Tag.free 8 l0))), (1, PV.al (AL.one (Leaf.fd (D.cl g1 k2)))), (7, PV.al (AL.one (Leaf.v (Value.int IntKind.i64 (↑l0.length : Int))))), (8, PV.al (AL.one (Leaf.v (Value.int IntKind.i64 n3))))], boxes := [] }

def slices_IndexFunc_Worker_X0 (n0 : Int) : St :=
  { env := envOf 19 [(4, PV.al (AL.one (Leaf.v (Value.int IntKind.i64 n0))))], boxes := [] }

theorem slices_IndexFunc_Worker_L0_x0 (l0 : List (List D)) (g1 : Nat) (k2 : List D) (n3 : Int) (l4 : List (List D)) (l5 : List (List D)) (l6 : List (List D)) (l7 : List (List D)) (l8 : List (List D)) (l9 : List (List D)) (l10 : List (List D)) (l11 : List (List D)) (b12 : Bool)
    (h : Obs [decide (n3 < (↑l0.length : Int)) = true, 0 ≤ n3, n3 < (↑l0.length : Int), l0[n3.toNat]? = some [D.sl 5 l4, D.sl 5 l5, D.sl 5 l6, D.sl 4 l7, D.sl 1 l8, D.sl 1 l9, D.sl 1 l10, D.sl 2 l11], canCall Try.prog g1 = true, Ret Try.prog g1 ([AD.agg [D.sl 5 l4, D.sl 5 l5, D.sl 5 l6, D.sl 4 l7, D.sl 1 l8, D.sl 1 l9, D.sl 1 l10, D.sl 2 l11]] ++ List.map AD.one k2) [AD.one (B b12)], b12 = true]) :
    Tr Try.prog (loopOf Try.f121 0) (slices_IndexFunc_Worker_L0 l0 g1 k2 n3) Ex.ret (slices_IndexFunc_Worker_X0 n3) :=
  .of_loopc (ks := [4]) (bs := []) (ans := [Ans.br true, Ans.el [D.sl 5 l4, D.sl 5 l5, D.sl 5 l6, D.sl 4 l7, D.sl 1 l8, D.sl 1 l9, D.sl 1 l10, D.sl 2 l11], Ans.res [AD.one (B b12)], Ans.br true]) (by kernel_rfl) h

theorem slices_IndexFunc_Worker_L0_s1 (l0 : List (List D)) (g1 : Nat) (k2 : List D) (n3 : Int) (l4 : List (List D)) (l5 : List (List D)) (l6 : List (List D)) (l7 : List (List D)) (l8 : List (List D)) (l9 : List (List D)) (l10 : List (List D)) (l11 : List (List D)) (b12 : Bool)
    (h : Obs [decide (n3 < (↑l0.length : Int)) = true, 0 ≤ n3, n3 < (↑l0.length : Int), l0[n3.toNat]? = some [D.sl 5 l4, D.sl 5 l5, D.sl 5 l6, D.sl 4 l7, D.sl 1 l8, D.sl 1 l9, D.sl 1 l10, D.sl 2 l11], canCall Try.prog g1 = true, Ret Try.prog g1 ([AD.agg [D.sl 5 l4, D.sl 5 l5, D.sl 5 l6, D.sl 4 l7, D.sl 1 l8, D.sl 1 l9, D.sl 1 l10, D.sl 2 l11]] ++ List.map AD.one k2) [AD.one (B b12)], b12 = false, inInt IntKind.i64 (n3 + 1)]) :
    Tr Try.prog (loopOf Try.f121 0) (slices_IndexFunc_Worker_L0 l0 g1 k2 n3) Ex.normal (slices_IndexFunc_Worker_L0 l0 g1 k2 (n3 + 1)) :=
  .of_loopc (ks := [8, 7, 1, 0]) (bs := []) (ans := [Ans.br true, Ans.el [D.sl 5 l4, D.sl 5 l5, D.sl 5 l6, D.sl 4 l7, D.sl 1 l8, D.sl 1 l9, D.sl 1 l10, D.sl 2 l11], Ans.res [AD.one (B b12)], Ans.br false]) (by kernel_rfl) h

def slices_IndexFunc_Worker_X0v2 : St :=
  { env := envOf 19 [], boxes := [] }

theorem slices_IndexFunc_Worker_L0_x2 (l0 : List (List D)) (g1 : Nat) (k2 : List D) (n3 : Int)
    (h : Obs [decide (n3 < (↑l0.length : Int)) = false]) :
    Tr Try.prog (loopOf Try.f121 0) (slices_IndexFunc_Worker_L0 l0 g1 k2 n3) (Ex.exit 0) slices_IndexFunc_Worker_X0v2 :=
  .of_loopc (ks := []) (bs := []) (ans := [Ans.br false]) (by kernel_rfl) h

theorem slices_IndexFunc_Worker_p0 (l0 : List (List D)) (g1 : Nat) (k2 : List D) (n3 : Int)
    (h : Obs [LoopOk Try.prog (loopOf Try.f121 0) (slices_IndexFunc_Worker_L0 l0 g1 k2 0) Ex.ret (slices_IndexFunc_Worker_X0 n3)]) :
    Ret Try.prog 121 [AD.one (D.sl 8 l0), AD.one (D.cl g1 k2)] [AD.one (I n3)] :=
  .of [Ans.loop [] [8, 7, 1, 0] [] Ex.ret (slices_IndexFunc_Worker_X0 n3)] _ Try.func121 rfl (by kernel_rfl) h

theorem slices_IndexFunc_Worker_p1 (l0 : List (List D)) (g1 : Nat) (k2 : List D)
    (h : Obs [LoopOk Try.prog (loopOf Try.f121 0) (slices_IndexFunc_Worker_L0 l0 g1 k2 0) (Ex.exit 0) slices_IndexFunc_Worker_X0v2]) :
    Ret Try.prog 121 [AD.one (D.sl 8 l0), AD.one (D.cl g1 k2)] [AD.one (I (-1))] :=
  .of [Ans.loop [] [8, 7, 1, 0] [] (Ex.exit 0) slices_IndexFunc_Worker_X0v2] _ Try.func121 rfl (by kernel_rfl) h

/- slices.IndexFunc[[]loop.example/g00973/impl.Record,loop.example/g00973/impl.Record] -/

def slices_IndexFunc_Record_L0 (l0 : List (List D)) (g1 : Nat) (k2 : List D) (n3 : Int) : St :=
  { env := envOf 19 [(0, PV.al (AL.one (Leaf.sl Tag.free 5 l0))), (1, PV.al (AL.one (Leaf.fd (D.cl g1 k2)))), (7, PV.al (AL.one (Leaf.v (Value.int IntKind.i64 (↑l0.length : Int))))), (8, PV.al (AL.one (Leaf.v (Value.int IntKind.i64 n3))))], boxes := [] }

def slices_IndexFunc_Record_X0 (n0 : Int) : St :=
  { env := envOf 19 [(4, PV.al (AL.one (Leaf.v (Value.int IntKind.i64 n0))))], boxes := [] }

theorem slices_IndexFunc_Record_L0_x0 (l0 : List (List D)) (g1 : Nat) (k2 : List D) (n3 : Int) (n4 : Int) (n5 : Int) (n6 : Int) (n7 : Int) (n8 : Int) (b9 : Bool)
    (h : Obs [decide (n3 < (↑l0.length : Int)) = true, 0 ≤ n3, n3 < (↑l0.length : Int), l0[n3.toNat]? = some [I n4, I n5, I n6, I n7, I n8], canCall Try.prog g1 = true, Ret Try.prog g1 ([AD.agg [I n4, I n5, I n6, I n7, I n8]] ++ List.map AD.one k2) [AD.one (B b9)], b9 = true]) :
    Tr Try.prog (loopOf Try.f137 0) (slices_IndexFunc_Record_L0 l0 g1 k2 n3) Ex.ret (slices_IndexFunc_Record_X0 n3) :=
  .of_loopc (ks := [4]) (bs := []) (ans := [Ans.br true, Ans.el [I n4, I n5, I n6, I n7, I n8], Ans.res [AD.one (B b9)], Ans.br true]) (by kernel_rfl) h

theorem slices_IndexFunc_Record_L0_s1 (l0 : List (List D)) (g1 : Nat) (k2 : List D) (n3 : Int) (n4 : Int) (n5 : Int) (n6 : Int) (n7 : Int) (n8 : Int) (b9 : Bool)
    (h : Obs [decide (n3 < (↑l0.length : Int)) = true, 0 ≤ n3, n3 < (↑l0.length : Int), l0[n3.toNat]? = some [I n4, I n5, I n6, I n7, I n8], canCall Try.prog g1 = true, Ret Try.prog g1 ([AD.agg [I n4, I n5, I n6, I n7, I n8]] ++ List.map AD.one k2) [AD.one (B b9)], b9 = false, inInt IntKind.i64 (n3 + 1)]) :
    Tr Try.prog (loopOf Try.f137 0) (slices_IndexFunc_Record_L0 l0 g1 k2 n3) Ex.normal (slices_IndexFunc_Record_L0 l0 g1 k2 (n3 + 1)) :=
  .of_loopc (ks := [8, 7, 1, 0]) (bs := []) (ans := [Ans.br true, Ans.el [I n4, I n5, I n6, I n7, I n8], Ans.res [AD.one (B b9)], Ans.br false]) (by kernel_rfl) h

def slices_IndexFunc_Record_X0v2 : St :=
  { env := envOf 19 [], boxes := [] }

theorem slices_IndexFunc_Record_L0_x2 (l0 : List (List D)) (g1 : Nat) (k2 : List D) (n3 : Int)
    (h : Obs [decide (n3 < (↑l0.length : Int)) = false]) :
    Tr Try.prog (loopOf Try.f137 0) (slices_IndexFunc_Record_L0 l0 g1 k2 n3) (Ex.exit 0) slices_IndexFunc_Record_X0v2 :=
  .of_loopc (ks := []) (bs := []) (ans := [Ans.br false]) (by kernel_rfl) h

theorem slices_IndexFunc_Record_p0 (l0 : List (List D)) (g1 : Nat) (k2 : List D) (n3 : Int)
    (h : Obs [LoopOk Try.prog (loopOf Try.f137 0) (slices_IndexFunc_Record_L0 l0 g1 k2 0) Ex.ret (slices_IndexFunc_Record_X0 n3)]) :
    Ret Try.prog 137 [AD.one (D.sl 5 l0), AD.one (D.cl g1 k2)] [AD.one (I n3)] :=
  .of [Ans.loop [] [8, 7, 1, 0] [] Ex.ret (slices_IndexFunc_Record_X0 n3)] _ Try.func137 rfl (by kernel_rfl) h

theorem slices_IndexFunc_Record_p1 (l0 : List (List D)) (g1 : Nat) (k2 : List D)
    (h : Obs [LoopOk Try.prog (loopOf Try.f137 0) (slices_IndexFunc_Record_L0 l0 g1 k2 0) (Ex.exit 0) slices_IndexFunc_Record_X0v2]) :
    Ret Try.prog 137 [AD.one (D.sl 5 l0), AD.one (D.cl g1 k2)] [AD.one (I (-1))] :=
  .of [Ans.loop [] [8, 7, 1, 0] [] (Ex.exit 0) slices_IndexFunc_Record_X0v2] _ Try.func137 rfl (by kernel_rfl) h

/- slices.IndexFunc[[]loop.example/g00973/impl.Done,loop.example/g00973/impl.Done] -/

def slices_IndexFunc_Done_L0 (l0 : List (List D)) (g1 : Nat) (k2 : List D) (n3 : Int) : St :=
  { env := envOf 19 [(0, PV.al (AL.one (Leaf.sl Tag.free 2 l0))), (1, PV.al (AL.one (Leaf.fd (D.cl g1 k2)))), (7, PV.al (AL.one (Leaf.v (Value.int IntKind.i64 (↑l0.length : Int))))), (8, PV.al (AL.one (Leaf.v (Value.int IntKind.i64 n3))))], boxes := [] }

def slices_IndexFunc_Done_X0 (n0 : Int) : St :=
  { env := envOf 19 [(4, PV.al (AL.one (Leaf.v (Value.int IntKind.i64 n0))))], boxes := [] }

theorem slices_IndexFunc_Done_L0_x0 (l0 : List (List D)) (g1 : Nat) (k2 : List D) (n3 : Int) (n4 : Int) (b5 : Bool) (b6 : Bool)
    (h : Obs [decide (n3 < (↑l0.length : Int)) = true, 0 ≤ n3, n3 < (↑l0.length : Int), l0[n3.toNat]? = some [I n4, B b5], canCall Try.prog g1 = true, Ret Try.prog g1 ([AD.agg [I n4, B b5]] ++ List.map AD.one k2) [AD.one (B b6)], b6 = true]) :
    Tr Try.prog (loopOf Try.f138 0) (slices_IndexFunc_Done_L0 l0 g1 k2 n3) Ex.ret (slices_IndexFunc_Done_X0 n3) :=
  .of_loopc (ks := [4]) (bs := []) (ans := [Ans.br true, Ans.el [I n4, B b5], Ans.res [AD.one (B b6)], Ans.br true]) (by kernel_rfl) h

theorem slices_IndexFunc_Done_L0_s1 (l0 : List (List D)) (g1 : Nat) (k2 : List D) (n3 : Int) (n4 : Int) (b5 : Bool) (b6 : Bool)
    (h : Obs [decide (n3 < (↑l0.length : Int)) = true, 0 ≤ n3, n3 < (↑l0.length : Int), l0[n3.toNat]? = some [I n4, B b5], canCall Try.prog g1 = true, Ret Try.prog g1 ([AD.agg [I n4, B b5]] ++ List.map AD.one k2) [AD.one (B b6)], b6 = false, inInt IntKind.i64 (n3 + 1)]) :
    Tr Try.prog (loopOf Try.f138 0) (slices_IndexFunc_Done_L0 l0 g1 k2 n3) Ex.normal (slices_IndexFunc_Done_L0 l0 g1 k2 (n3 + 1)) :=
  .of_loopc (ks := [8, 7, 1, 0]) (bs := []) (ans := [Ans.br true, Ans.el [I n4, B b5], Ans.res [AD.one (B b6)], Ans.br false]) (by kernel_rfl) h

def slices_IndexFunc_Done_X0v2 : St :=
  { env := envOf 19 [], boxes := [] }

theorem slices_IndexFunc_Done_L0_x2 (l0 : List (List D)) (g1 : Nat) (k2 : List D) (n3 : Int)
    (h : Obs [decide (n3 < (↑l0.length : Int)) = false]) :
    Tr Try.prog (loopOf Try.f138 0) (slices_IndexFunc_Done_L0 l0 g1 k2 n3) (Ex.exit 0) slices_IndexFunc_Done_X0v2 :=
  .of_loopc (ks := []) (bs := []) (ans := [Ans.br false]) (by kernel_rfl) h

theorem slices_IndexFunc_Done_p0 (l0 : List (List D)) (g1 : Nat) (k2 : List D) (n3 : Int)
    (h : Obs [LoopOk Try.prog (loopOf Try.f138 0) (slices_IndexFunc_Done_L0 l0 g1 k2 0) Ex.ret (slices_IndexFunc_Done_X0 n3)]) :
    Ret Try.prog 138 [AD.one (D.sl 2 l0), AD.one (D.cl g1 k2)] [AD.one (I n3)] :=
  .of [Ans.loop [] [8, 7, 1, 0] [] Ex.ret (slices_IndexFunc_Done_X0 n3)] _ Try.func138 rfl (by kernel_rfl) h

theorem slices_IndexFunc_Done_p1 (l0 : List (List D)) (g1 : Nat) (k2 : List D)
    (h : Obs [LoopOk Try.prog (loopOf Try.f138 0) (slices_IndexFunc_Done_L0 l0 g1 k2 0) (Ex.exit 0) slices_IndexFunc_Done_X0v2]) :
    Ret Try.prog 138 [AD.one (D.sl 2 l0), AD.one (D.cl g1 k2)] [AD.one (I (-1))] :=
  .of [Ans.loop [] [8, 7, 1, 0] [] (Ex.exit 0) slices_IndexFunc_Done_X0v2] _ Try.func138 rfl (by kernel_rfl) h

/- slices.ContainsFunc[[]loop.example/g00973/impl.Worker,loop.example/g00973/impl.Worker] -/

theorem slices_ContainsFunc_Worker_p0 (l0 : List (List D)) (g1 : Nat) (k2 : List D) (n3 : Int)
    (h : Obs [Ret Try.prog 121 [AD.one (D.sl 8 l0), AD.one (D.cl g1 k2)] [AD.one (I n3)]]) :
    Ret Try.prog 94 [AD.one (D.sl 8 l0), AD.one (D.cl g1 k2)] [AD.one (B (decide (n3 ≥ 0)))] :=
  .of [Ans.res [AD.one (I n3)]] _ Try.func94 rfl (by kernel_rfl) h

/- slices.ContainsFunc[[]loop.example/g00973/impl.Record,loop.example/g00973/impl.Record] -/

theorem slices_ContainsFunc_Record_p0 (l0 : List (List D)) (g1 : Nat) (k2 : List D) (n3 : Int)
    (h : Obs [Ret Try.prog 137 [AD.one (D.sl 5 l0), AD.one (D.cl g1 k2)] [AD.one (I n3)]]) :
    Ret Try.prog 125 [AD.one (D.sl 5 l0), AD.one (D.cl g1 k2)] [AD.one (B (decide (n3 ≥ 0)))] :=
  .of [Ans.res [AD.one (I n3)]] _ Try.func125 rfl (by kernel_rfl) h

/- slices.ContainsFunc[[]loop.example/g00973/impl.Done,loop.example/g00973/impl.Done] -/

theorem slices_ContainsFunc_Done_p0 (l0 : List (List D)) (g1 : Nat) (k2 : List D) (n3 : Int)
    (h : Obs [Ret Try.prog 138 [AD.one (D.sl 2 l0), AD.one (D.cl g1 k2)] [AD.one (I n3)]]) :
    Ret Try.prog 135 [AD.one (D.sl 2 l0), AD.one (D.cl g1 k2)] [AD.one (B (decide (n3 ≥ 0)))] :=
  .of [Ans.res [AD.one (I n3)]] _ Try.func135 rfl (by kernel_rfl) h

/- loop.example/g00973/spec.IsDone -/

def spec_IsDone_L0 (l0 : List (List D)) (l1 : List (List D)) (l2 : List (List D)) (l3 : List (List D)) (l4 : List (List D)) (l5 : List (List D)) (l6 : List (List D)) (l7 : List (List D)) (n8 : Int) (n9 : Int) : St :=
  { env := envOf 21 [(1, PV.al (AL.one (Leaf.v (Value.int IntKind.i64 n8)))), (2, PV.al (AL.one (Leaf.ptr 2 0))), (5, PV.al (AL.one (Leaf.v (Value.int IntKind.i64 n9))))], boxes := [(2, [Leaf.sl Tag.free 5 l0, Leaf.sl Tag.free 5 l1, Leaf.sl Tag.free 5 l2, Leaf.sl Tag.free 4 l3, Leaf.sl Tag.free 1 l4, Leaf.sl Tag.free 1 l5, Leaf.sl Tag.free 1 l6, Leaf.sl Tag.free 2 l7])] }

def spec_IsDone_X0 (b0 : Bool) : St :=
  { env := envOf 21 [(4, PV.al (AL.one (Leaf.sb b0)))], boxes := [] }

theorem spec_IsDone_L0_x0 (l0 : List (List D)) (l1 : List (List D)) (l2 : List (List D)) (l3 : List (List D)) (l4 : List (List D)) (l5 : List (List D)) (l6 : List (List D)) (l7 : List (List D)) (n8 : Int) (n9 : Int) (n10 : Int) (b11 : Bool)
    (h : Obs [decide (n9 < (↑l7.length : Int)) = true, 0 ≤ n9, n9 < (↑l7.length : Int), l7[n9.toNat]? = some [I n10, B b11], (n10 == n8) = true]) :
    Tr Try.prog (loopOf Try.f92 0) (spec_IsDone_L0 l0 l1 l2 l3 l4 l5 l6 l7 n8 n9) Ex.ret (spec_IsDone_X0 true) :=
  .of_loopc (ks := [4]) (bs := []) (ans := [Ans.br true, Ans.el [I n10, B b11], Ans.br true]) (by kernel_rfl) h

theorem spec_IsDone_L0_s1 (l0 : List (List D)) (l1 : List (List D)) (l2 : List (List D)) (l3 : List (List D)) (l4 : List (List D)) (l5 : List (List D)) (l6 : List (List D)) (l7 : List (List D)) (n8 : Int) (n9 : Int) (n10 : Int) (b11 : Bool)
    (h : Obs [decide (n9 < (↑l7.length : Int)) = true, 0 ≤ n9, n9 < (↑l7.length : Int), l7[n9.toNat]? = some [I n10, B b11], (n10 == n8) = false, inInt IntKind.i64 (n9 + 1)]) :
    Tr Try.prog (loopOf Try.f92 0) (spec_IsDone_L0 l0 l1 l2 l3 l4 l5 l6 l7 n8 n9) Ex.normal (spec_IsDone_L0 l0 l1 l2 l3 l4 l5 l6 l7 n8 (n9 + 1)) :=
  .of_loopc (ks := [5, 2, 1]) (bs := [2]) (ans := [Ans.br true, Ans.el [I n10, B b11], Ans.br false]) (by kernel_rfl) h

def spec_IsDone_X0v2 : St :=
  { env := envOf 21 [], boxes := [] }

theorem spec_IsDone_L0_x2 (l0 : List (List D)) (l1 : List (List D)) (l2 : List (List D)) (l3 : List (List D)) (l4 : List (List D)) (l5 : List (List D)) (l6 : List (List D)) (l7 : List (List D)) (n8 : Int) (n9 : Int)
    (h : Obs [decide (n9 < (↑l7.length : Int)) = false]) :
    Tr Try.prog (loopOf Try.f92 0) (spec_IsDone_L0 l0 l1 l2 l3 l4 l5 l6 l7 n8 n9) (Ex.exit 0) spec_IsDone_X0v2 :=
  .of_loopc (ks := []) (bs := []) (ans := [Ans.br false]) (by kernel_rfl) h

theorem spec_IsDone_p0 (l0 : List (List D)) (l1 : List (List D)) (l2 : List (List D)) (l3 : List (List D)) (l4 : List (List D)) (l5 : List (List D)) (l6 : List (List D)) (l7 : List (List D)) (n8 : Int) (b9 : Bool)
    (h : Obs [LoopOk Try.prog (loopOf Try.f92 0) (spec_IsDone_L0 l0 l1 l2 l3 l4 l5 l6 l7 n8 0) Ex.ret (spec_IsDone_X0 b9)]) :
    Ret Try.prog 92 [AD.agg [D.sl 5 l0, D.sl 5 l1, D.sl 5 l2, D.sl 4 l3, D.sl 1 l4, D.sl 1 l5, D.sl 1 l6, D.sl 2 l7], AD.one (I n8)] [AD.one (B b9)] :=
  .of [Ans.loop [] [5, 2, 1] [2] Ex.ret (spec_IsDone_X0 b9)] _ Try.func92 rfl (by kernel_rfl) h

theorem spec_IsDone_p1 (l0 : List (List D)) (l1 : List (List D)) (l2 : List (List D)) (l3 : List (List D)) (l4 : List (List D)) (l5 : List (List D)) (l6 : List (List D)) (l7 : List (List D)) (n8 : Int)
    (h : Obs [LoopOk Try.prog (loopOf Try.f92 0) (spec_IsDone_L0 l0 l1 l2 l3 l4 l5 l6 l7 n8 0) (Ex.exit 0) spec_IsDone_X0v2]) :
    Ret Try.prog 92 [AD.agg [D.sl 5 l0, D.sl 5 l1, D.sl 5 l2, D.sl 4 l3, D.sl 1 l4, D.sl 1 l5, D.sl 1 l6, D.sl 2 l7], AD.one (I n8)] [AD.one (B false)] :=
  .of [Ans.loop [] [5, 2, 1] [2] (Ex.exit 0) spec_IsDone_X0v2] _ Try.func92 rfl (by kernel_rfl) h

/- loop.example/g00973/impl.IsDone -/

theorem impl_IsDone_p0 (l0 : List (List D)) (l1 : List (List D)) (l2 : List (List D)) (l3 : List (List D)) (l4 : List (List D)) (l5 : List (List D)) (l6 : List (List D)) (l7 : List (List D)) (n8 : Int) (b9 : Bool)
    (h : Obs [Ret Try.prog 120 [AD.one (D.sl 2 l7), AD.one (I n8)] [AD.one (B b9)]]) :
    Ret Try.prog 93 [AD.agg [D.sl 5 l0, D.sl 5 l1, D.sl 5 l2, D.sl 4 l3, D.sl 1 l4, D.sl 1 l5, D.sl 1 l6, D.sl 2 l7], AD.one (I n8)] [AD.one (B b9)] :=
  .of [Ans.res [AD.one (B b9)]] _ Try.func93 rfl (by kernel_rfl) h

/- loop.example/g00973/impl.doneAt -/

theorem impl_doneAt_p0 (l0 : List (List D)) (n1 : Int) (b2 : Bool)
    (h : Obs [Ret Try.prog 135 [AD.one (D.sl 2 l0), AD.one (D.cl 136 [D.ptr [I n1]])] [AD.one (B b2)]]) :
    Ret Try.prog 120 [AD.one (D.sl 2 l0), AD.one (I n1)] [AD.one (B b2)] :=
  .of [Ans.res [AD.one (B b2)]] _ Try.func120 rfl (by kernel_rfl) h

/- loop.example/g00973/spec.RoundsDone -/

theorem spec_RoundsDone_p0 (l0 : List (List D)) (n1 : Int) (n2 : Int) (l3 : List (List D)) (l4 : List (List D)) (l5 : List (List D)) (l6 : List (List D)) (n7 : Int) (l8 : List (List D)) (l9 : List (List D)) (l10 : List (List D)) (l11 : List (List D)) (l12 : List (List D)) (l13 : List (List D)) (l14 : List (List D)) (l15 : List (List D)) (b16 : Bool)
    (h : Obs [decide ((↑l3.length : Int) > 0) = true, (0 : Int) ≤ 0, 0 < (↑l3.length : Int), l3[0]? = some [D.sl 5 l8, D.sl 5 l9, D.sl 5 l10, D.sl 4 l11, D.sl 1 l12, D.sl 1 l13, D.sl 1 l14, D.sl 2 l15], Ret Try.prog 92 [AD.agg [D.sl 5 l8, D.sl 5 l9, D.sl 5 l10, D.sl 4 l11, D.sl 1 l12, D.sl 1 l13, D.sl 1 l14, D.sl 2 l15], AD.one (I n7)] [AD.one (B b16)]]) :
    Ret Try.prog 36 [AD.agg [D.sl 4 l0, I n1, I n2, D.sl 8 l3, D.sl 6 l4, D.sl 5 l5, D.sl 3 l6], AD.one (I n7)] [AD.one (B b16)] :=
  .of [Ans.br true, Ans.el [D.sl 5 l8, D.sl 5 l9, D.sl 5 l10, D.sl 4 l11, D.sl 1 l12, D.sl 1 l13, D.sl 1 l14, D.sl 2 l15], Ans.res [AD.one (B b16)]] _ Try.func36 rfl (by kernel_rfl) h

theorem spec_RoundsDone_p1 (l0 : List (List D)) (n1 : Int) (n2 : Int) (l3 : List (List D)) (l4 : List (List D)) (l5 : List (List D)) (l6 : List (List D)) (n7 : Int)
    (h : Obs [decide ((↑l3.length : Int) > 0) = false]) :
    Ret Try.prog 36 [AD.agg [D.sl 4 l0, I n1, I n2, D.sl 8 l3, D.sl 6 l4, D.sl 5 l5, D.sl 3 l6], AD.one (I n7)] [AD.one (B false)] :=
  .of [Ans.br false] _ Try.func36 rfl (by kernel_rfl) h

/- loop.example/g00973/impl.RoundsDone -/

theorem impl_RoundsDone_p0 (l0 : List (List D)) (n1 : Int) (n2 : Int) (l3 : List (List D)) (l4 : List (List D)) (l5 : List (List D)) (l6 : List (List D)) (n7 : Int) (l8 : List (List D)) (l9 : List (List D)) (l10 : List (List D)) (l11 : List (List D)) (l12 : List (List D)) (l13 : List (List D)) (l14 : List (List D)) (l15 : List (List D)) (b16 : Bool)
    (h : Obs [decide ((↑l3.length : Int) > 0) = true, (0 : Int) ≤ 0, 0 < (↑l3.length : Int), l3[0]? = some [D.sl 5 l8, D.sl 5 l9, D.sl 5 l10, D.sl 4 l11, D.sl 1 l12, D.sl 1 l13, D.sl 1 l14, D.sl 2 l15], Ret Try.prog 93 [AD.agg [D.sl 5 l8, D.sl 5 l9, D.sl 5 l10, D.sl 4 l11, D.sl 1 l12, D.sl 1 l13, D.sl 1 l14, D.sl 2 l15], AD.one (I n7)] [AD.one (B b16)]]) :
    Ret Try.prog 37 [AD.agg [D.sl 4 l0, I n1, I n2, D.sl 8 l3, D.sl 6 l4, D.sl 5 l5, D.sl 3 l6], AD.one (I n7)] [AD.one (B b16)] :=
  .of [Ans.br true, Ans.el [D.sl 5 l8, D.sl 5 l9, D.sl 5 l10, D.sl 4 l11, D.sl 1 l12, D.sl 1 l13, D.sl 1 l14, D.sl 2 l15], Ans.res [AD.one (B b16)]] _ Try.func37 rfl (by kernel_rfl) h

theorem impl_RoundsDone_p1 (l0 : List (List D)) (n1 : Int) (n2 : Int) (l3 : List (List D)) (l4 : List (List D)) (l5 : List (List D)) (l6 : List (List D)) (n7 : Int)
    (h : Obs [decide ((↑l3.length : Int) > 0) = false]) :
    Ret Try.prog 37 [AD.agg [D.sl 4 l0, I n1, I n2, D.sl 8 l3, D.sl 6 l4, D.sl 5 l5, D.sl 3 l6], AD.one (I n7)] [AD.one (B false)] :=
  .of [Ans.br false] _ Try.func37 rfl (by kernel_rfl) h

/- loop.example/g00973/spec.AllDone -/

def spec_AllDone_L0 (l0 : List (List D)) (n1 : Int) (n2 : Int) (l3 : List (List D)) (l4 : List (List D)) (l5 : List (List D)) (l6 : List (List D)) (n7 : Int) (n8 : Int) : St :=
  { env := envOf 21 [(1, PV.al (AL.one (Leaf.v (Value.int IntKind.i64 n7)))), (2, PV.al (AL.one (Leaf.ptr 2 0))), (5, PV.al (AL.one (Leaf.v (Value.int IntKind.i64 n8))))], boxes := [(2, [Leaf.sl Tag.free 4 l0, Leaf.v (Value.int IntKind.i64 n1), Leaf.v (Value.int IntKind.i64 n2), Leaf.sl Tag.free 8 l3, Leaf.sl Tag.free 6 l4, Leaf.sl Tag.free 5 l5, Leaf.sl Tag.free 3 l6])] }

def spec_AllDone_X0 (b0 : Bool) : St :=
  { env := envOf 21 [(4, PV.al (AL.one (Leaf.sb b0)))], boxes := [] }

theorem spec_AllDone_L0_x0 (l0 : List (List D)) (n1 : Int) (n2 : Int) (l3 : List (List D)) (l4 : List (List D)) (l5 : List (List D)) (l6 : List (List D)) (n7 : Int) (n8 : Int) (l9 : List (List D)) (l10 : List (List D)) (l11 : List (List D)) (l12 : List (List D)) (l13 : List (List D)) (l14 : List (List D)) (l15 : List (List D)) (l16 : List (List D)) (b17 : Bool)
    (h : Obs [decide (n8 < (↑l3.length : Int)) = true, 0 ≤ n8, n8 < (↑l3.length : Int), l3[n8.toNat]? = some [D.sl 5 l9, D.sl 5 l10, D.sl 5 l11, D.sl 4 l12, D.sl 1 l13, D.sl 1 l14, D.sl 1 l15, D.sl 2 l16], Ret Try.prog 92 [AD.agg [D.sl 5 l9, D.sl 5 l10, D.sl 5 l11, D.sl 4 l12, D.sl 1 l13, D.sl 1 l14, D.sl 1 l15, D.sl 2 l16], AD.one (I n7)] [AD.one (B b17)], (!b17) = true]) :
    Tr Try.prog (loopOf Try.f38 0) (spec_AllDone_L0 l0 n1 n2 l3 l4 l5 l6 n7 n8) Ex.ret (spec_AllDone_X0 false) :=
  .of_loopc (ks := [4]) (bs := []) (ans := [Ans.br true, Ans.el [D.sl 5 l9, D.sl 5 l10, D.sl 5 l11, D.sl 4 l12, D.sl 1 l13, D.sl 1 l14, D.sl 1 l15, D.sl 2 l16], Ans.res [AD.one (B b17)], Ans.br true]) (by kernel_rfl) h

theorem spec_AllDone_L0_s1 (l0 : List (List D)) (n1 : Int) (n2 : Int) (l3 : List (List D)) (l4 : List (List D)) (l5 : List (List D)) (l6 : List (List D)) (n7 : Int) (n8 : Int) (l9 : List (List D)) (l10 : List (List D)) (l11 : List (List D)) (l12 : List (List D)) (l13 : List (List D)) (l14 : List (List D)) (l15 : List (List D)) (l16 : List (List D)) (b17 : Bool)
    (h : Obs [decide (n8 < (↑l3.length : Int)) = true, 0 ≤ n8, n8 < (↑l3.length : Int), l3[n8.toNat]? = some [D.sl 5 l9, D.sl 5 l10, D.sl 5 l11, D.sl 4 l12, D.sl 1 l13, D.sl 1 l14, D.sl 1 l15, D.sl 2 l16], Ret Try.prog 92 [AD.agg [D.sl 5 l9, D.sl 5 l10, D.sl 5 l11, D.sl 4 l12, D.sl 1 l13, D.sl 1 l14, D.sl 1 l15, D.sl 2 l16], AD.one (I n7)] [AD.one (B b17)], (!b17) = false, inInt IntKind.i64 (n8 + 1)]) :
    Tr Try.prog (loopOf Try.f38 0) (spec_AllDone_L0 l0 n1 n2 l3 l4 l5 l6 n7 n8) Ex.normal (spec_AllDone_L0 l0 n1 n2 l3 l4 l5 l6 n7 (n8 + 1)) :=
  .of_loopc (ks := [5, 2, 1]) (bs := [2]) (ans := [Ans.br true, Ans.el [D.sl 5 l9, D.sl 5 l10, D.sl 5 l11, D.sl 4 l12, D.sl 1 l13, D.sl 1 l14, D.sl 1 l15, D.sl 2 l16], Ans.res [AD.one (B b17)], Ans.br false]) (by kernel_rfl) h

def spec_AllDone_X0v2 : St :=
  { env := envOf 21 [], boxes := [] }

theorem spec_AllDone_L0_x2 (l0 : List (List D)) (n1 : Int) (n2 : Int) (l3 : List (List D)) (l4 : List (List D)) (l5 : List (List D)) (l6 : List (List D)) (n7 : Int) (n8 : Int)
    (h : Obs [decide (n8 < (↑l3.length : Int)) = false]) :
    Tr Try.prog (loopOf Try.f38 0) (spec_AllDone_L0 l0 n1 n2 l3 l4 l5 l6 n7 n8) (Ex.exit 0) spec_AllDone_X0v2 :=
  .of_loopc (ks := []) (bs := []) (ans := [Ans.br false]) (by kernel_rfl) h

theorem spec_AllDone_p0 (l0 : List (List D)) (n1 : Int) (n2 : Int) (l3 : List (List D)) (l4 : List (List D)) (l5 : List (List D)) (l6 : List (List D)) (n7 : Int) (b8 : Bool)
    (h : Obs [LoopOk Try.prog (loopOf Try.f38 0) (spec_AllDone_L0 l0 n1 n2 l3 l4 l5 l6 n7 0) Ex.ret (spec_AllDone_X0 b8)]) :
    Ret Try.prog 38 [AD.agg [D.sl 4 l0, I n1, I n2, D.sl 8 l3, D.sl 6 l4, D.sl 5 l5, D.sl 3 l6], AD.one (I n7)] [AD.one (B b8)] :=
  .of [Ans.loop [] [5, 2, 1] [2] Ex.ret (spec_AllDone_X0 b8)] _ Try.func38 rfl (by kernel_rfl) h

theorem spec_AllDone_p1 (l0 : List (List D)) (n1 : Int) (n2 : Int) (l3 : List (List D)) (l4 : List (List D)) (l5 : List (List D)) (l6 : List (List D)) (n7 : Int)
    (h : Obs [LoopOk Try.prog (loopOf Try.f38 0) (spec_AllDone_L0 l0 n1 n2 l3 l4 l5 l6 n7 0) (Ex.exit 0) spec_AllDone_X0v2]) :
    Ret Try.prog 38 [AD.agg [D.sl 4 l0, I n1, I n2, D.sl 8 l3, D.sl 6 l4, D.sl 5 l5, D.sl 3 l6], AD.one (I n7)] [AD.one (B true)] :=
  .of [Ans.loop [] [5, 2, 1] [2] (Ex.exit 0) spec_AllDone_X0v2] _ Try.func38 rfl (by kernel_rfl) h

/- loop.example/g00973/impl.AllDone -/

theorem impl_AllDone_p0 (l0 : List (List D)) (n1 : Int) (n2 : Int) (l3 : List (List D)) (l4 : List (List D)) (l5 : List (List D)) (l6 : List (List D)) (n7 : Int) (b8 : Bool)
    (h : Obs [Ret Try.prog 94 [AD.one (D.sl 8 l3), AD.one (D.cl 95 [D.ptr [I n7]])] [AD.one (B b8)]]) :
    Ret Try.prog 39 [AD.agg [D.sl 4 l0, I n1, I n2, D.sl 8 l3, D.sl 6 l4, D.sl 5 l5, D.sl 3 l6], AD.one (I n7)] [AD.one (B !b8)] :=
  .of [Ans.res [AD.one (B b8)]] _ Try.func39 rfl (by kernel_rfl) h

/- loop.example/g00973/spec.EpochsDone -/

def spec_EpochsDone_L0 (l0 : List (List D)) (n1 : Int) (n2 : Int) (l3 : List (List D)) (l4 : List (List D)) (l5 : List (List D)) (l6 : List (List D)) (n7 : Int) (n8 : Int) : St :=
  { env := envOf 15 [(1, PV.al (AL.one (Leaf.ptr 1 0))), (3, PV.al (AL.one (Leaf.v (Value.int IntKind.i64 n8)))), (4, PV.al (AL.one (Leaf.v (Value.int IntKind.i64 n7))))], boxes := [(1, [Leaf.sl Tag.free 4 l0, Leaf.v (Value.int IntKind.i64 n1), Leaf.v (Value.int IntKind.i64 n2), Leaf.sl Tag.free 8 l3, Leaf.sl Tag.free 6 l4, Leaf.sl Tag.free 5 l5, Leaf.sl Tag.free 3 l6])] }

theorem spec_EpochsDone_L0_s0 (l0 : List (List D)) (n1 : Int) (n2 : Int) (l3 : List (List D)) (l4 : List (List D)) (l5 : List (List D)) (l6 : List (List D)) (n7 : Int) (n8 : Int) (b9 : Bool)
    (h : Obs [decide (n7 ≤ 3) = true, Ret Try.prog 38 [AD.agg [D.sl 4 l0, I n1, I n2, D.sl 8 l3, D.sl 6 l4, D.sl 5 l5, D.sl 3 l6], AD.one (I n7)] [AD.one (B b9)], b9 = true, inInt IntKind.i64 (n8 + 1), inInt IntKind.i64 (n7 + 1)]) :
    Tr Try.prog (loopOf Try.f44 0) (spec_EpochsDone_L0 l0 n1 n2 l3 l4 l5 l6 n7 n8) Ex.normal (spec_EpochsDone_L0 l0 n1 n2 l3 l4 l5 l6 (n7 + 1) (n8 + 1)) :=
  .of_loopc (ks := [4, 1, 3]) (bs := [1]) (ans := [Ans.br true, Ans.res [AD.one (B b9)], Ans.br true]) (by kernel_rfl) h

theorem spec_EpochsDone_L0_s1 (l0 : List (List D)) (n1 : Int) (n2 : Int) (l3 : List (List D)) (l4 : List (List D)) (l5 : List (List D)) (l6 : List (List D)) (n7 : Int) (n8 : Int) (b9 : Bool)
    (h : Obs [decide (n7 ≤ 3) = true, Ret Try.prog 38 [AD.agg [D.sl 4 l0, I n1, I n2, D.sl 8 l3, D.sl 6 l4, D.sl 5 l5, D.sl 3 l6], AD.one (I n7)] [AD.one (B b9)], b9 = false, inInt IntKind.i64 (n7 + 1)]) :
    Tr Try.prog (loopOf Try.f44 0) (spec_EpochsDone_L0 l0 n1 n2 l3 l4 l5 l6 n7 n8) Ex.normal (spec_EpochsDone_L0 l0 n1 n2 l3 l4 l5 l6 (n7 + 1) n8) :=
  .of_loopc (ks := [4, 1, 3]) (bs := [1]) (ans := [Ans.br true, Ans.res [AD.one (B b9)], Ans.br false]) (by kernel_rfl) h

def spec_EpochsDone_X0 (n0 : Int) : St :=
  { env := envOf 15 [(3, PV.al (AL.one (Leaf.v (Value.int IntKind.i64 n0))))], boxes := [] }

theorem spec_EpochsDone_L0_x2 (l0 : List (List D)) (n1 : Int) (n2 : Int) (l3 : List (List D)) (l4 : List (List D)) (l5 : List (List D)) (l6 : List (List D)) (n7 : Int) (n8 : Int)
    (h : Obs [decide (n7 ≤ 3) = false]) :
    Tr Try.prog (loopOf Try.f44 0) (spec_EpochsDone_L0 l0 n1 n2 l3 l4 l5 l6 n7 n8) (Ex.exit 0) (spec_EpochsDone_X0 n8) :=
  .of_loopc (ks := [3]) (bs := []) (ans := [Ans.br false]) (by kernel_rfl) h

theorem spec_EpochsDone_p0 (l0 : List (List D)) (n1 : Int) (n2 : Int) (l3 : List (List D)) (l4 : List (List D)) (l5 : List (List D)) (l6 : List (List D)) (n7 : Int)
    (h : Obs [LoopOk Try.prog (loopOf Try.f44 0) (spec_EpochsDone_L0 l0 n1 n2 l3 l4 l5 l6 0 0) (Ex.exit 0) (spec_EpochsDone_X0 n7)]) :
    Ret Try.prog 44 [AD.agg [D.sl 4 l0, I n1, I n2, D.sl 8 l3, D.sl 6 l4, D.sl 5 l5, D.sl 3 l6]] [AD.one (I n7)] :=
  .of [Ans.loop [] [4, 1, 3] [1] (Ex.exit 0) (spec_EpochsDone_X0 n7)] _ Try.func44 rfl (by kernel_rfl) h

/- loop.example/g00973/impl.EpochsDone -/

def impl_EpochsDone_L0 (l0 : List (List D)) (n1 : Int) (n2 : Int) (l3 : List (List D)) (l4 : List (List D)) (l5 : List (List D)) (l6 : List (List D)) (n7 : Int) (n8 : Int) : St :=
  { env := envOf 15 [(1, PV.al (AL.one (Leaf.ptr 1 0))), (3, PV.al (AL.one (Leaf.v (Value.int IntKind.i64 n8)))), (4, PV.al (AL.one (Leaf.v (Value.int IntKind.i64 n7))))], boxes := [(1, [Leaf.sl Tag.free 4 l0, Leaf.v (Value.int IntKind.i64 n1), Leaf.v (Value.int IntKind.i64 n2), Leaf.sl Tag.free 8 l3, Leaf.sl Tag.free 6 l4, Leaf.sl Tag.free 5 l5, Leaf.sl Tag.free 3 l6])] }

theorem impl_EpochsDone_L0_s0 (l0 : List (List D)) (n1 : Int) (n2 : Int) (l3 : List (List D)) (l4 : List (List D)) (l5 : List (List D)) (l6 : List (List D)) (n7 : Int) (n8 : Int) (b9 : Bool)
    (h : Obs [decide (n7 ≤ 3) = true, Ret Try.prog 39 [AD.agg [D.sl 4 l0, I n1, I n2, D.sl 8 l3, D.sl 6 l4, D.sl 5 l5, D.sl 3 l6], AD.one (I n7)] [AD.one (B b9)], b9 = true, inInt IntKind.i64 (n8 + 1), inInt IntKind.i64 (n7 + 1)]) :
    Tr Try.prog (loopOf Try.f45 0) (impl_EpochsDone_L0 l0 n1 n2 l3 l4 l5 l6 n7 n8) Ex.normal (impl_EpochsDone_L0 l0 n1 n2 l3 l4 l5 l6 (n7 + 1) (n8 + 1)) :=
  .of_loopc (ks := [4, 1, 3]) (bs := [1]) (ans := [Ans.br true, Ans.res [AD.one (B b9)], Ans.br true]) (by kernel_rfl) h

theorem impl_EpochsDone_L0_s1 (l0 : List (List D)) (n1 : Int) (n2 : Int) (l3 : List (List D)) (l4 : List (List D)) (l5 : List (List D)) (l6 : List (List D)) (n7 : Int) (n8 : Int) (b9 : Bool)
    (h : Obs [decide (n7 ≤ 3) = true, Ret Try.prog 39 [AD.agg [D.sl 4 l0, I n1, I n2, D.sl 8 l3, D.sl 6 l4, D.sl 5 l5, D.sl 3 l6], AD.one (I n7)] [AD.one (B b9)], b9 = false, inInt IntKind.i64 (n7 + 1)]) :
    Tr Try.prog (loopOf Try.f45 0) (impl_EpochsDone_L0 l0 n1 n2 l3 l4 l5 l6 n7 n8) Ex.normal (impl_EpochsDone_L0 l0 n1 n2 l3 l4 l5 l6 (n7 + 1) n8) :=
  .of_loopc (ks := [4, 1, 3]) (bs := [1]) (ans := [Ans.br true, Ans.res [AD.one (B b9)], Ans.br false]) (by kernel_rfl) h

def impl_EpochsDone_X0 (n0 : Int) : St :=
  { env := envOf 15 [(3, PV.al (AL.one (Leaf.v (Value.int IntKind.i64 n0))))], boxes := [] }

theorem impl_EpochsDone_L0_x2 (l0 : List (List D)) (n1 : Int) (n2 : Int) (l3 : List (List D)) (l4 : List (List D)) (l5 : List (List D)) (l6 : List (List D)) (n7 : Int) (n8 : Int)
    (h : Obs [decide (n7 ≤ 3) = false]) :
    Tr Try.prog (loopOf Try.f45 0) (impl_EpochsDone_L0 l0 n1 n2 l3 l4 l5 l6 n7 n8) (Ex.exit 0) (impl_EpochsDone_X0 n8) :=
  .of_loopc (ks := [3]) (bs := []) (ans := [Ans.br false]) (by kernel_rfl) h

theorem impl_EpochsDone_p0 (l0 : List (List D)) (n1 : Int) (n2 : Int) (l3 : List (List D)) (l4 : List (List D)) (l5 : List (List D)) (l6 : List (List D)) (n7 : Int)
    (h : Obs [LoopOk Try.prog (loopOf Try.f45 0) (impl_EpochsDone_L0 l0 n1 n2 l3 l4 l5 l6 0 0) (Ex.exit 0) (impl_EpochsDone_X0 n7)]) :
    Ret Try.prog 45 [AD.agg [D.sl 4 l0, I n1, I n2, D.sl 8 l3, D.sl 6 l4, D.sl 5 l5, D.sl 3 l6]] [AD.one (I n7)] :=
  .of [Ans.loop [] [4, 1, 3] [1] (Ex.exit 0) (impl_EpochsDone_X0 n7)] _ Try.func45 rfl (by kernel_rfl) h

/- loop.example/g00973/spec.OwnerOf -/

theorem spec_OwnerOf_p0 (n0 : Int) (n1 : Int)
    (h : Obs [decide (n1 < 1) = true]) :
    Ret Try.prog 124 [AD.one (I n0), AD.one (I n1)] [AD.one (I 0)] :=
  .of [Ans.br true] _ Try.func124 rfl (by kernel_rfl) h

theorem spec_OwnerOf_p1 (n0 : Int) (n1 : Int)
    (h : Obs [decide (n1 < 1) = false, n1 ≠ 0, decide (n0.tmod n1 < 0) = true, inInt IntKind.i64 (n0.tmod n1 + n1)]) :
    Ret Try.prog 124 [AD.one (I n0), AD.one (I n1)] [AD.one (I (n0.tmod n1 + n1))] :=
  .of [Ans.br false, Ans.br true] _ Try.func124 rfl (by kernel_rfl) h

theorem spec_OwnerOf_p2 (n0 : Int) (n1 : Int)
    (h : Obs [decide (n1 < 1) = false, n1 ≠ 0, decide (n0.tmod n1 < 0) = false]) :
    Ret Try.prog 124 [AD.one (I n0), AD.one (I n1)] [AD.one (I (n0.tmod n1))] :=
  .of [Ans.br false, Ans.br false] _ Try.func124 rfl (by kernel_rfl) h

/- loop.example/g00973/impl.OwnerOf -/

theorem impl_OwnerOf_p0 (n0 : Int) (n1 : Int)
    (h : Obs [decide (n1 < 1) = true]) :
    Ret Try.prog 127 [AD.one (I n0), AD.one (I n1)] [AD.one (I 0)] :=
  .of [Ans.br true] _ Try.func127 rfl (by kernel_rfl) h

theorem impl_OwnerOf_p1 (n0 : Int) (n1 : Int)
    (h : Obs [decide (n1 < 1) = false, n1 ≠ 0, decide (n0.tmod n1 < 0) = true, inInt IntKind.i64 (n0.tmod n1 + n1)]) :
    Ret Try.prog 127 [AD.one (I n0), AD.one (I n1)] [AD.one (I (n0.tmod n1 + n1))] :=
  .of [Ans.br false, Ans.br true] _ Try.func127 rfl (by kernel_rfl) h

theorem impl_OwnerOf_p2 (n0 : Int) (n1 : Int)
    (h : Obs [decide (n1 < 1) = false, n1 ≠ 0, decide (n0.tmod n1 < 0) = false]) :
    Ret Try.prog 127 [AD.one (I n0), AD.one (I n1)] [AD.one (I (n0.tmod n1))] :=
  .of [Ans.br false, Ans.br false] _ Try.func127 rfl (by kernel_rfl) h

/- loop.example/g00973/spec.l21Own -/

def spec_l21Own_L0 (l0 : List (List D)) (n1 : Int) (n2 : Int) (l3 : List (List D)) (l4 : List (List D)) (l5 : List (List D)) (l6 : List (List D)) (l7 : List (List D)) (n8 : Int) (n9 : Int) : St :=
  { env := envOf 25 [(1, PV.al (AL.one (Leaf.sl Tag.free 5 l7))), (2, PV.al (AL.one (Leaf.v (Value.int IntKind.i64 n8)))), (3, PV.al (AL.one (Leaf.ptr 3 0))), (7, PV.al (AL.one (Leaf.v (Value.int IntKind.i64 n9))))], boxes := [(3, [Leaf.sl Tag.free 4 l0, Leaf.v (Value.int IntKind.i64 n1), Leaf.v (Value.int IntKind.i64 n2), Leaf.sl Tag.free 8 l3, Leaf.sl Tag.free 6 l4, Leaf.sl Tag.free 5 l5, Leaf.sl Tag.free 3 l6])] }

def spec_l21Own_X0 (b0 : Bool) : St :=
  { env := envOf 25 [(6, PV.al (AL.one (Leaf.sb b0)))], boxes := [] }

theorem spec_l21Own_L0_x0 (l0 : List (List D)) (n1 : Int) (n2 : Int) (l3 : List (List D)) (l4 : List (List D)) (l5 : List (List D)) (l6 : List (List D)) (l7 : List (List D)) (n8 : Int) (n9 : Int) (n10 : Int) (n11 : Int) (n12 : Int) (n13 : Int) (n14 : Int) (n15 : Int)
    (h : Obs [decide (n9 < (↑l7.length : Int)) = true, 0 ≤ n9, n9 < (↑l7.length : Int), l7[n9.toNat]? = some [I n10, I n11, I n12, I n13, I n14], Ret Try.prog 124 [AD.one (I n13), AD.one (I n1)] [AD.one (I n15)], (n15 != n8) = true]) :
    Tr Try.prog (loopOf Try.f101 0) (spec_l21Own_L0 l0 n1 n2 l3 l4 l5 l6 l7 n8 n9) Ex.ret (spec_l21Own_X0 false) :=
  .of_loopc (ks := [6]) (bs := []) (ans := [Ans.br true, Ans.el [I n10, I n11, I n12, I n13, I n14], Ans.res [AD.one (I n15)], Ans.br true]) (by kernel_rfl) h

theorem spec_l21Own_L0_s1 (l0 : List (List D)) (n1 : Int) (n2 : Int) (l3 : List (List D)) (l4 : List (List D)) (l5 : List (List D)) (l6 : List (List D)) (l7 : List (List D)) (n8 : Int) (n9 : Int) (n10 : Int) (n11 : Int) (n12 : Int) (n13 : Int) (n14 : Int) (n15 : Int)
    (h : Obs [decide (n9 < (↑l7.length : Int)) = true, 0 ≤ n9, n9 < (↑l7.length : Int), l7[n9.toNat]? = some [I n10, I n11, I n12, I n13, I n14], Ret Try.prog 124 [AD.one (I n13), AD.one (I n1)] [AD.one (I n15)], (n15 != n8) = false, inInt IntKind.i64 (n9 + 1)]) :
    Tr Try.prog (loopOf Try.f101 0) (spec_l21Own_L0 l0 n1 n2 l3 l4 l5 l6 l7 n8 n9) Ex.normal (spec_l21Own_L0 l0 n1 n2 l3 l4 l5 l6 l7 n8 (n9 + 1)) :=
  .of_loopc (ks := [7, 1, 3, 2]) (bs := [3]) (ans := [Ans.br true, Ans.el [I n10, I n11, I n12, I n13, I n14], Ans.res [AD.one (I n15)], Ans.br false]) (by kernel_rfl) h

def spec_l21Own_X0v2 : St :=
  { env := envOf 25 [], boxes := [] }

theorem spec_l21Own_L0_x2 (l0 : List (List D)) (n1 : Int) (n2 : Int) (l3 : List (List D)) (l4 : List (List D)) (l5 : List (List D)) (l6 : List (List D)) (l7 : List (List D)) (n8 : Int) (n9 : Int)
    (h : Obs [decide (n9 < (↑l7.length : Int)) = false]) :
    Tr Try.prog (loopOf Try.f101 0) (spec_l21Own_L0 l0 n1 n2 l3 l4 l5 l6 l7 n8 n9) (Ex.exit 0) spec_l21Own_X0v2 :=
  .of_loopc (ks := []) (bs := []) (ans := [Ans.br false]) (by kernel_rfl) h

theorem spec_l21Own_p0 (l0 : List (List D)) (n1 : Int) (n2 : Int) (l3 : List (List D)) (l4 : List (List D)) (l5 : List (List D)) (l6 : List (List D)) (l7 : List (List D)) (n8 : Int) (b9 : Bool)
    (h : Obs [LoopOk Try.prog (loopOf Try.f101 0) (spec_l21Own_L0 l0 n1 n2 l3 l4 l5 l6 l7 n8 0) Ex.ret (spec_l21Own_X0 b9)]) :
    Ret Try.prog 101 [AD.agg [D.sl 4 l0, I n1, I n2, D.sl 8 l3, D.sl 6 l4, D.sl 5 l5, D.sl 3 l6], AD.one (D.sl 5 l7), AD.one (I n8)] [AD.one (B b9)] :=
  .of [Ans.loop [] [7, 1, 3, 2] [3] Ex.ret (spec_l21Own_X0 b9)] _ Try.func101 rfl (by kernel_rfl) h

theorem spec_l21Own_p1 (l0 : List (List D)) (n1 : Int) (n2 : Int) (l3 : List (List D)) (l4 : List (List D)) (l5 : List (List D)) (l6 : List (List D)) (l7 : List (List D)) (n8 : Int)
    (h : Obs [LoopOk Try.prog (loopOf Try.f101 0) (spec_l21Own_L0 l0 n1 n2 l3 l4 l5 l6 l7 n8 0) (Ex.exit 0) spec_l21Own_X0v2]) :
    Ret Try.prog 101 [AD.agg [D.sl 4 l0, I n1, I n2, D.sl 8 l3, D.sl 6 l4, D.sl 5 l5, D.sl 3 l6], AD.one (D.sl 5 l7), AD.one (I n8)] [AD.one (B true)] :=
  .of [Ans.loop [] [7, 1, 3, 2] [3] (Ex.exit 0) spec_l21Own_X0v2] _ Try.func101 rfl (by kernel_rfl) h

/- loop.example/g00973/impl.ownedBy -/

theorem impl_ownedBy_p0 (l0 : List (List D)) (n1 : Int) (n2 : Int) (b3 : Bool)
    (h : Obs [Ret Try.prog 125 [AD.one (D.sl 5 l0), AD.one (D.cl 126 [D.ptr [I n2], D.ptr [I n1]])] [AD.one (B b3)]]) :
    Ret Try.prog 102 [AD.one (D.sl 5 l0), AD.one (I n1), AD.one (I n2)] [AD.one (B !b3)] :=
  .of [Ans.res [AD.one (B b3)]] _ Try.func102 rfl (by kernel_rfl) h

/- loop.example/g00973/spec.OwnersOk -/

def spec_OwnersOk_L0 (l0 : List (List D)) (n1 : Int) (n2 : Int) (l3 : List (List D)) (l4 : List (List D)) (l5 : List (List D)) (l6 : List (List D)) (n7 : Int) : St :=
  { env := envOf 61 [(1, PV.al (AL.one (Leaf.ptr 1 0))), (3, PV.al (AL.one (Leaf.v (Value.int IntKind.i64 n7))))], boxes := [(1, [Leaf.sl Tag.free 4 l0, Leaf.v (Value.int IntKind.i64 n1), Leaf.v (Value.int IntKind.i64 n2), Leaf.sl Tag.free 8 l3, Leaf.sl Tag.free 6 l4, Leaf.sl Tag.free 5 l5, Leaf.sl Tag.free 3 l6])] }

def spec_OwnersOk_X0 (b0 : Bool) : St :=
  { env := envOf 61 [(2, PV.al (AL.one (Leaf.sb b0)))], boxes := [] }

theorem spec_OwnersOk_L0_x0 (l0 : List (List D)) (n1 : Int) (n2 : Int) (l3 : List (List D)) (l4 : List (List D)) (l5 : List (List D)) (l6 : List (List D)) (n7 : Int) (l8 : List (List D)) (l9 : List (List D)) (l10 : List (List D)) (l11 : List (List D)) (l12 : List (List D)) (l13 : List (List D)) (l14 : List (List D)) (l15 : List (List D)) (b16 : Bool)
    (h : Obs [decide (n7 < (↑l3.length : Int)) = true, 0 ≤ n7, n7 < (↑l3.length : Int), l3[n7.toNat]? = some [D.sl 5 l8, D.sl 5 l9, D.sl 5 l10, D.sl 4 l11, D.sl 1 l12, D.sl 1 l13, D.sl 1 l14, D.sl 2 l15], Ret Try.prog 101 [AD.agg [D.sl 4 l0, I n1, I n2, D.sl 8 l3, D.sl 6 l4, D.sl 5 l5, D.sl 3 l6], AD.one (D.sl 5 l8), AD.one (I n7)] [AD.one (B b16)], (!b16) = true]) :
    Tr Try.prog (loopOf Try.f48 0) (spec_OwnersOk_L0 l0 n1 n2 l3 l4 l5 l6 n7) Ex.ret (spec_OwnersOk_X0 false) :=
  .of_loopc (ks := [2]) (bs := []) (ans := [Ans.br true, Ans.el [D.sl 5 l8, D.sl 5 l9, D.sl 5 l10, D.sl 4 l11, D.sl 1 l12, D.sl 1 l13, D.sl 1 l14, D.sl 2 l15], Ans.res [AD.one (B b16)], Ans.br true]) (by kernel_rfl) h

theorem spec_OwnersOk_L0_x1 (l0 : List (List D)) (n1 : Int) (n2 : Int) (l3 : List (List D)) (l4 : List (List D)) (l5 : List (List D)) (l6 : List (List D)) (n7 : Int) (l8 : List (List D)) (l9 : List (List D)) (l10 : List (List D)) (l11 : List (List D)) (l12 : List (List D)) (l13 : List (List D)) (l14 : List (List D)) (l15 : List (List D)) (b16 : Bool) (l17 : List (List D)) (l18 : List (List D)) (l19 : List (List D)) (l20 : List (List D)) (l21 : List (List D)) (l22 : List (List D)) (l23 : List (List D)) (l24 : List (List D)) (b25 : Bool)
    (h : Obs [decide (n7 < (↑l3.length : Int)) = true, 0 ≤ n7, n7 < (↑l3.length : Int), l3[n7.toNat]? = some [D.sl 5 l8, D.sl 5 l9, D.sl 5 l10, D.sl 4 l11, D.sl 1 l12, D.sl 1 l13, D.sl 1 l14, D.sl 2 l15], Ret Try.prog 101 [AD.agg [D.sl 4 l0, I n1, I n2, D.sl 8 l3, D.sl 6 l4, D.sl 5 l5, D.sl 3 l6], AD.one (D.sl 5 l8), AD.one (I n7)] [AD.one (B b16)], (!b16) = false, 0 ≤ n7, n7 < (↑l3.length : Int), l3[n7.toNat]? = some [D.sl 5 l17, D.sl 5 l18, D.sl 5 l19, D.sl 4 l20, D.sl 1 l21, D.sl 1 l22, D.sl 1 l23, D.sl 2 l24], Ret Try.prog 101 [AD.agg [D.sl 4 l0, I n1, I n2, D.sl 8 l3, D.sl 6 l4, D.sl 5 l5, D.sl 3 l6], AD.one (D.sl 5 l19), AD.one (I n7)] [AD.one (B b25)], (!b25) = true]) :
    Tr Try.prog (loopOf Try.f48 0) (spec_OwnersOk_L0 l0 n1 n2 l3 l4 l5 l6 n7) Ex.ret (spec_OwnersOk_X0 false) :=
  .of_loopc (ks := [2]) (bs := []) (ans := [Ans.br true, Ans.el [D.sl 5 l8, D.sl 5 l9, D.sl 5 l10, D.sl 4 l11, D.sl 1 l12, D.sl 1 l13, D.sl 1 l14, D.sl 2 l15], Ans.res [AD.one (B b16)], Ans.br false, Ans.el [D.sl 5 l17, D.sl 5 l18, D.sl 5 l19, D.sl 4 l20, D.sl 1 l21, D.sl 1 l22, D.sl 1 l23, D.sl 2 l24], Ans.res [AD.one (B b25)], Ans.br true]) (by kernel_rfl) h

theorem spec_OwnersOk_L0_s2 (l0 : List (List D)) (n1 : Int) (n2 : Int) (l3 : List (List D)) (l4 : List (List D)) (l5 : List (List D)) (l6 : List (List D)) (n7 : Int) (l8 : List (List D)) (l9 : List (List D)) (l10 : List (List D)) (l11 : List (List D)) (l12 : List (List D)) (l13 : List (List D)) (l14 : List (List D)) (l15 : List (List D)) (b16 : Bool) (l17 : List (List D)) (l18 : List (List D)) (l19 : List (List D)) (l20 : List (List D)) (l21 : List (List D)) (l22 : List (List D)) (l23 : List (List D)) (l24 : List (List D)) (b25 : Bool)
    (h : Obs [decide (n7 < (↑l3.length : Int)) = true, 0 ≤ n7, n7 < (↑l3.length : Int), l3[n7.toNat]? = some [D.sl 5 l8, D.sl 5 l9, D.sl 5 l10, D.sl 4 l11, D.sl 1 l12, D.sl 1 l13, D.sl 1 l14, D.sl 2 l15], Ret Try.prog 101 [AD.agg [D.sl 4 l0, I n1, I n2, D.sl 8 l3, D.sl 6 l4, D.sl 5 l5, D.sl 3 l6], AD.one (D.sl 5 l8), AD.one (I n7)] [AD.one (B b16)], (!b16) = false, 0 ≤ n7, n7 < (↑l3.length : Int), l3[n7.toNat]? = some [D.sl 5 l17, D.sl 5 l18, D.sl 5 l19, D.sl 4 l20, D.sl 1 l21, D.sl 1 l22, D.sl 1 l23, D.sl 2 l24], Ret Try.prog 101 [AD.agg [D.sl 4 l0, I n1, I n2, D.sl 8 l3, D.sl 6 l4, D.sl 5 l5, D.sl 3 l6], AD.one (D.sl 5 l19), AD.one (I n7)] [AD.one (B b25)], (!b25) = false, inInt IntKind.i64 (n7 + 1)]) :
    Tr Try.prog (loopOf Try.f48 0) (spec_OwnersOk_L0 l0 n1 n2 l3 l4 l5 l6 n7) Ex.normal (spec_OwnersOk_L0 l0 n1 n2 l3 l4 l5 l6 (n7 + 1)) :=
  .of_loopc (ks := [3, 1]) (bs := [1]) (ans := [Ans.br true, Ans.el [D.sl 5 l8, D.sl 5 l9, D.sl 5 l10, D.sl 4 l11, D.sl 1 l12, D.sl 1 l13, D.sl 1 l14, D.sl 2 l15], Ans.res [AD.one (B b16)], Ans.br false, Ans.el [D.sl 5 l17, D.sl 5 l18, D.sl 5 l19, D.sl 4 l20, D.sl 1 l21, D.sl 1 l22, D.sl 1 l23, D.sl 2 l24], Ans.res [AD.one (B b25)], Ans.br false]) (by kernel_rfl) h

def spec_OwnersOk_X0v2 (l0 : List (List D)) (n1 : Int) (n2 : Int) (l3 : List (List D)) (l4 : List (List D)) (l5 : List (List D)) (l6 : List (List D)) : St :=
  { env := envOf 61 [(1, PV.al (AL.one (Leaf.ptr 1 0)))], boxes := [(1, [Leaf.sl Tag.free 4 l0, Leaf.v (Value.int IntKind.i64 n1), Leaf.v (Value.int IntKind.i64 n2), Leaf.sl Tag.free 8 l3, Leaf.sl Tag.free 6 l4, Leaf.sl Tag.free 5 l5, Leaf.sl Tag.free 3 l6])] }

theorem spec_OwnersOk_L0_x3 (l0 : List (List D)) (n1 : Int) (n2 : Int) (l3 : List (List D)) (l4 : List (List D)) (l5 : List (List D)) (l6 : List (List D)) (n7 : Int)
    (h : Obs [decide (n7 < (↑l3.length : Int)) = false]) :
    Tr Try.prog (loopOf Try.f48 0) (spec_OwnersOk_L0 l0 n1 n2 l3 l4 l5 l6 n7) (Ex.exit 0) (spec_OwnersOk_X0v2 l0 n1 n2 l3 l4 l5 l6) :=
  .of_loopc (ks := [1]) (bs := [1]) (ans := [Ans.br false]) (by kernel_rfl) h

theorem spec_OwnersOk_p0 (l0 : List (List D)) (n1 : Int) (n2 : Int) (l3 : List (List D)) (l4 : List (List D)) (l5 : List (List D)) (l6 : List (List D)) (b7 : Bool)
    (h : Obs [LoopOk Try.prog (loopOf Try.f48 0) (spec_OwnersOk_L0 l0 n1 n2 l3 l4 l5 l6 0) Ex.ret (spec_OwnersOk_X0 b7)]) :
    Ret Try.prog 48 [AD.agg [D.sl 4 l0, I n1, I n2, D.sl 8 l3, D.sl 6 l4, D.sl 5 l5, D.sl 3 l6]] [AD.one (B b7)] :=
  .of [Ans.loop [] [3, 1] [1] Ex.ret (spec_OwnersOk_X0 b7)] _ Try.func48 rfl (by kernel_rfl) h

def spec_OwnersOk_L1 (l0 : List (List D)) (n1 : Int) (n2 : Int) (l3 : List (List D)) (l4 : List (List D)) (l5 : List (List D)) (l6 : List (List D)) (n7 : Int) : St :=
  { env := envOf 61 [(1, PV.al (AL.one (Leaf.ptr 1 0))), (4, PV.al (AL.one (Leaf.v (Value.int IntKind.i64 n7))))], boxes := [(1, [Leaf.sl Tag.free 4 l0, Leaf.v (Value.int IntKind.i64 n1), Leaf.v (Value.int IntKind.i64 n2), Leaf.sl Tag.free 8 l3, Leaf.sl Tag.free 6 l4, Leaf.sl Tag.free 5 l5, Leaf.sl Tag.free 3 l6])] }

def spec_OwnersOk_X1 (b0 : Bool) : St :=
  { env := envOf 61 [(2, PV.al (AL.one (Leaf.sb b0)))], boxes := [] }

theorem spec_OwnersOk_L1_x0 (l0 : List (List D)) (n1 : Int) (n2 : Int) (l3 : List (List D)) (l4 : List (List D)) (l5 : List (List D)) (l6 : List (List D)) (n7 : Int)
    (h : Obs [decide (n7 < (↑l4.length : Int)) = true, decide (n1 < 1) = true]) :
    Tr Try.prog (loopOf Try.f48 1) (spec_OwnersOk_L1 l0 n1 n2 l3 l4 l5 l6 n7) Ex.ret (spec_OwnersOk_X1 false) :=
  .of_loopc (ks := [2]) (bs := []) (ans := [Ans.br true, Ans.br true]) (by kernel_rfl) h

theorem spec_OwnersOk_L1_x1 (l0 : List (List D)) (n1 : Int) (n2 : Int) (l3 : List (List D)) (l4 : List (List D)) (l5 : List (List D)) (l6 : List (List D)) (n7 : Int) (n8 : Int) (l9 : List (List D)) (n10 : Int) (n11 : Int) (n12 : Int) (n13 : Int) (b14 : Bool)
    (h : Obs [decide (n7 < (↑l4.length : Int)) = true, decide (n1 < 1) = false, 0 ≤ n7, n7 < (↑l4.length : Int), l4[n7.toNat]? = some [I n8, D.sl 5 l9, I n10, I n11, I n12, I n13], n1 ≠ 0, Ret Try.prog 101 [AD.agg [D.sl 4 l0, I n1, I n2, D.sl 8 l3, D.sl 6 l4, D.sl 5 l5, D.sl 3 l6], AD.one (D.sl 5 l9), AD.one (I (n7.tmod n1))] [AD.one (B b14)], (!b14) = true]) :
    Tr Try.prog (loopOf Try.f48 1) (spec_OwnersOk_L1 l0 n1 n2 l3 l4 l5 l6 n7) Ex.ret (spec_OwnersOk_X1 false) :=
  .of_loopc (ks := [2]) (bs := []) (ans := [Ans.br true, Ans.br false, Ans.el [I n8, D.sl 5 l9, I n10, I n11, I n12, I n13], Ans.res [AD.one (B b14)], Ans.br true]) (by kernel_rfl) h

theorem spec_OwnersOk_L1_s2 (l0 : List (List D)) (n1 : Int) (n2 : Int) (l3 : List (List D)) (l4 : List (List D)) (l5 : List (List D)) (l6 : List (List D)) (n7 : Int) (n8 : Int) (l9 : List (List D)) (n10 : Int) (n11 : Int) (n12 : Int) (n13 : Int) (b14 : Bool)
    (h : Obs [decide (n7 < (↑l4.length : Int)) = true, decide (n1 < 1) = false, 0 ≤ n7, n7 < (↑l4.length : Int), l4[n7.toNat]? = some [I n8, D.sl 5 l9, I n10, I n11, I n12, I n13], n1 ≠ 0, Ret Try.prog 101 [AD.agg [D.sl 4 l0, I n1, I n2, D.sl 8 l3, D.sl 6 l4, D.sl 5 l5, D.sl 3 l6], AD.one (D.sl 5 l9), AD.one (I (n7.tmod n1))] [AD.one (B b14)], (!b14) = false, inInt IntKind.i64 (n7 + 1)]) :
    Tr Try.prog (loopOf Try.f48 1) (spec_OwnersOk_L1 l0 n1 n2 l3 l4 l5 l6 n7) Ex.normal (spec_OwnersOk_L1 l0 n1 n2 l3 l4 l5 l6 (n7 + 1)) :=
  .of_loopc (ks := [4, 1]) (bs := [1]) (ans := [Ans.br true, Ans.br false, Ans.el [I n8, D.sl 5 l9, I n10, I n11, I n12, I n13], Ans.res [AD.one (B b14)], Ans.br false]) (by kernel_rfl) h

def spec_OwnersOk_X1v5 : St :=
  { env := envOf 61 [], boxes := [] }

theorem spec_OwnersOk_L1_x3 (l0 : List (List D)) (n1 : Int) (n2 : Int) (l3 : List (List D)) (l4 : List (List D)) (l5 : List (List D)) (l6 : List (List D)) (n7 : Int)
    (h : Obs [decide (n7 < (↑l4.length : Int)) = false]) :
    Tr Try.prog (loopOf Try.f48 1) (spec_OwnersOk_L1 l0 n1 n2 l3 l4 l5 l6 n7) (Ex.exit 2) spec_OwnersOk_X1v5 :=
  .of_loopc (ks := []) (bs := []) (ans := [Ans.br false]) (by kernel_rfl) h

theorem spec_OwnersOk_p1 (l0 : List (List D)) (n1 : Int) (n2 : Int) (l3 : List (List D)) (l4 : List (List D)) (l5 : List (List D)) (l6 : List (List D)) (b7 : Bool)
    (h : Obs [LoopOk Try.prog (loopOf Try.f48 0) (spec_OwnersOk_L0 l0 n1 n2 l3 l4 l5 l6 0) (Ex.exit 0) (spec_OwnersOk_X0v2 l0 n1 n2 l3 l4 l5 l6), LoopOk Try.prog (loopOf Try.f48 1) (spec_OwnersOk_L1 l0 n1 n2 l3 l4 l5 l6 0) Ex.ret (spec_OwnersOk_X1 b7)]) :
    Ret Try.prog 48 [AD.agg [D.sl 4 l0, I n1, I n2, D.sl 8 l3, D.sl 6 l4, D.sl 5 l5, D.sl 3 l6]] [AD.one (B b7)] :=
  .of [Ans.loop [] [3, 1] [1] (Ex.exit 0) (spec_OwnersOk_X0v2 l0 n1 n2 l3 l4 l5 l6), Ans.loop [] [4, 1] [1] Ex.ret (spec_OwnersOk_X1 b7)] _ Try.func48 rfl (by kernel_rfl) h

theorem spec_OwnersOk_p2 (l0 : List (List D)) (n1 : Int) (n2 : Int) (l3 : List (List D)) (l4 : List (List D)) (l5 : List (List D)) (l6 : List (List D))
    (h : Obs [LoopOk Try.prog (loopOf Try.f48 0) (spec_OwnersOk_L0 l0 n1 n2 l3 l4 l5 l6 0) (Ex.exit 0) (spec_OwnersOk_X0v2 l0 n1 n2 l3 l4 l5 l6), LoopOk Try.prog (loopOf Try.f48 1) (spec_OwnersOk_L1 l0 n1 n2 l3 l4 l5 l6 0) (Ex.exit 2) spec_OwnersOk_X1v5]) :
    Ret Try.prog 48 [AD.agg [D.sl 4 l0, I n1, I n2, D.sl 8 l3, D.sl 6 l4, D.sl 5 l5, D.sl 3 l6]] [AD.one (B true)] :=
  .of [Ans.loop [] [3, 1] [1] (Ex.exit 0) (spec_OwnersOk_X0v2 l0 n1 n2 l3 l4 l5 l6), Ans.loop [] [4, 1] [1] (Ex.exit 2) spec_OwnersOk_X1v5] _ Try.func48 rfl (by kernel_rfl) h

/- loop.example/g00973/impl.OwnersOk -/

theorem impl_OwnersOk_p0 (l0 : List (List D)) (n1 : Int) (n2 : Int) (l3 : List (List D)) (l4 : List (List D)) (l5 : List (List D)) (l6 : List (List D))
    (h : Obs [decide ((↑l4.length : Int) > 0) = true, decide (n1 < 1) = true]) :
    Ret Try.prog 49 [AD.agg [D.sl 4 l0, I n1, I n2, D.sl 8 l3, D.sl 6 l4, D.sl 5 l5, D.sl 3 l6]] [AD.one (B false)] :=
  .of [Ans.br true, Ans.br true] _ Try.func49 rfl (by kernel_rfl) h

def impl_OwnersOk_L0 (n0 : Int) (l1 : List (List D)) (n2 : Int) (l3 : List (List D)) (n4 : Int) (n5 : Int) (l6 : List (List D)) (l7 : List (List D)) (l8 : List (List D)) (l9 : List (List D)) : St :=
  { env := envOf 59 [(1, PV.al (AL.one (Leaf.ptr 1 0))), (3, PV.al (AL.one (Leaf.v (Value.int IntKind.i64 n0)))), (20, PV.al (AL.one (Leaf.sl Tag.free 8 l1))), (21, PV.al (AL.one (Leaf.v (Value.int IntKind.i64 (↑l1.length : Int))))), (22, PV.al (AL.one (Leaf.v (Value.int IntKind.i64 n2))))], boxes := [(1, [Leaf.sl Tag.free 4 l3, Leaf.v (Value.int IntKind.i64 n4), Leaf.v (Value.int IntKind.i64 n5), Leaf.sl Tag.free 8 l6, Leaf.sl Tag.free 6 l7, Leaf.sl Tag.free 5 l8, Leaf.sl Tag.free 3 l9])] }

def impl_OwnersOk_X0 (b0 : Bool) : St :=
  { env := envOf 59 [(2, PV.al (AL.one (Leaf.sb b0)))], boxes := [] }

theorem impl_OwnersOk_L0_x0 (n1 : Int) (l3 : List (List D)) (n7 : Int) (l8 : List (List D)) (n9 : Int) (n10 : Int) (l11 : List (List D)) (l12 : List (List D)) (l13 : List (List D)) (l14 : List (List D)) (l15 : List (List D)) (l16 : List (List D)) (l17 : List (List D)) (l18 : List (List D)) (l19 : List (List D)) (l20 : List (List D)) (l21 : List (List D)) (l22 : List (List D)) (b23 : Bool)
    (h : Obs [decide (n7 < (↑l3.length : Int)) = true, 0 ≤ n7, n7 < (↑l3.length : Int), l3[n7.toNat]? = some [D.sl 5 l15, D.sl 5 l16, D.sl 5 l17, D.sl 4 l18, D.sl 1 l19, D.sl 1 l20, D.sl 1 l21, D.sl 2 l22], Ret Try.prog 102 [AD.one (D.sl 5 l15), AD.one (I n7), AD.one (I n1)] [AD.one (B b23)], (!b23) = true]) :
    Tr Try.prog (loopOf Try.f49 0) (impl_OwnersOk_L0 n1 l3 n7 l8 n9 n10 l11 l12 l13 l14) Ex.ret (impl_OwnersOk_X0 false) :=
  .of_loopc (ks := [2]) (bs := []) (ans := [Ans.br true, Ans.el [D.sl 5 l15, D.sl 5 l16, D.sl 5 l17, D.sl 4 l18, D.sl 1 l19, D.sl 1 l20, D.sl 1 l21, D.sl 2 l22], Ans.res [AD.one (B b23)], Ans.br true]) (by kernel_rfl) h

theorem impl_OwnersOk_L0_x1 (n1 : Int) (l3 : List (List D)) (n7 : Int) (l8 : List (List D)) (n9 : Int) (n10 : Int) (l11 : List (List D)) (l12 : List (List D)) (l13 : List (List D)) (l14 : List (List D)) (l15 : List (List D)) (l16 : List (List D)) (l17 : List (List D)) (l18 : List (List D)) (l19 : List (List D)) (l20 : List (List D)) (l21 : List (List D)) (l22 : List (List D)) (b23 : Bool) (b24 : Bool)
    (h : Obs [decide (n7 < (↑l3.length : Int)) = true, 0 ≤ n7, n7 < (↑l3.length : Int), l3[n7.toNat]? = some [D.sl 5 l15, D.sl 5 l16, D.sl 5 l17, D.sl 4 l18, D.sl 1 l19, D.sl 1 l20, D.sl 1 l21, D.sl 2 l22], Ret Try.prog 102 [AD.one (D.sl 5 l15), AD.one (I n7), AD.one (I n1)] [AD.one (B b23)], (!b23) = false, Ret Try.prog 102 [AD.one (D.sl 5 l17), AD.one (I n7), AD.one (I n1)] [AD.one (B b24)], (!b24) = true]) :
    Tr Try.prog (loopOf Try.f49 0) (impl_OwnersOk_L0 n1 l3 n7 l8 n9 n10 l11 l12 l13 l14) Ex.ret (impl_OwnersOk_X0 false) :=
  .of_loopc (ks := [2]) (bs := []) (ans := [Ans.br true, Ans.el [D.sl 5 l15, D.sl 5 l16, D.sl 5 l17, D.sl 4 l18, D.sl 1 l19, D.sl 1 l20, D.sl 1 l21, D.sl 2 l22], Ans.res [AD.one (B b23)], Ans.br false, Ans.res [AD.one (B b24)], Ans.br true]) (by kernel_rfl) h

theorem impl_OwnersOk_L0_s2 (n1 : Int) (l3 : List (List D)) (n7 : Int) (l8 : List (List D)) (n9 : Int) (n10 : Int) (l11 : List (List D)) (l12 : List (List D)) (l13 : List (List D)) (l14 : List (List D)) (l15 : List (List D)) (l16 : List (List D)) (l17 : List (List D)) (l18 : List (List D)) (l19 : List (List D)) (l20 : List (List D)) (l21 : List (List D)) (l22 : List (List D)) (b23 : Bool) (b24 : Bool)
    (h : Obs [decide (n7 < (↑l3.length : Int)) = true, 0 ≤ n7, n7 < (↑l3.length : Int), l3[n7.toNat]? = some [D.sl 5 l15, D.sl 5 l16, D.sl 5 l17, D.sl 4 l18, D.sl 1 l19, D.sl 1 l20, D.sl 1 l21, D.sl 2 l22], Ret Try.prog 102 [AD.one (D.sl 5 l15), AD.one (I n7), AD.one (I n1)] [AD.one (B b23)], (!b23) = false, Ret Try.prog 102 [AD.one (D.sl 5 l17), AD.one (I n7), AD.one (I n1)] [AD.one (B b24)], (!b24) = false, inInt IntKind.i64 (n7 + 1)]) :
    Tr Try.prog (loopOf Try.f49 0) (impl_OwnersOk_L0 n1 l3 n7 l8 n9 n10 l11 l12 l13 l14) Ex.normal (impl_OwnersOk_L0 n1 l3 (n7 + 1) l8 n9 n10 l11 l12 l13 l14) :=
  .of_loopc (ks := [22, 21, 20, 3, 1]) (bs := [1]) (ans := [Ans.br true, Ans.el [D.sl 5 l15, D.sl 5 l16, D.sl 5 l17, D.sl 4 l18, D.sl 1 l19, D.sl 1 l20, D.sl 1 l21, D.sl 2 l22], Ans.res [AD.one (B b23)], Ans.br false, Ans.res [AD.one (B b24)], Ans.br false]) (by kernel_rfl) h

def impl_OwnersOk_X0v2 (n0 : Int) (l1 : List (List D)) (n2 : Int) (n3 : Int) (l4 : List (List D)) (l5 : List (List D)) (l6 : List (List D)) (l7 : List (List D)) : St :=
  { env := envOf 59 [(1, PV.al (AL.one (Leaf.ptr 1 0))), (3, PV.al (AL.one (Leaf.v (Value.int IntKind.i64 n0))))], boxes := [(1, [Leaf.sl Tag.free 4 l1, Leaf.v (Value.int IntKind.i64 n2), Leaf.v (Value.int IntKind.i64 n3), Leaf.sl Tag.free 8 l4, Leaf.sl Tag.free 6 l5, Leaf.sl Tag.free 5 l6, Leaf.sl Tag.free 3 l7])] }

theorem impl_OwnersOk_L0_x3 (n1 : Int) (l3 : List (List D)) (n7 : Int) (l8 : List (List D)) (n9 : Int) (n10 : Int) (l11 : List (List D)) (l12 : List (List D)) (l13 : List (List D)) (l14 : List (List D))
    (h : Obs [decide (n7 < (↑l3.length : Int)) = false]) :
    Tr Try.prog (loopOf Try.f49 0) (impl_OwnersOk_L0 n1 l3 n7 l8 n9 n10 l11 l12 l13 l14) (Ex.exit 0) (impl_OwnersOk_X0v2 n1 l8 n9 n10 l11 l12 l13 l14) :=
  .of_loopc (ks := [1, 3]) (bs := [1]) (ans := [Ans.br false]) (by kernel_rfl) h

theorem impl_OwnersOk_p1 (l0 : List (List D)) (n1 : Int) (n2 : Int) (l3 : List (List D)) (l4 : List (List D)) (l5 : List (List D)) (l6 : List (List D)) (b7 : Bool)
    (h : Obs [decide ((↑l4.length : Int) > 0) = true, decide (n1 < 1) = false, LoopOk Try.prog (loopOf Try.f49 0) (impl_OwnersOk_L0 n1 l3 0 l0 n1 n2 l3 l4 l5 l6) Ex.ret (impl_OwnersOk_X0 b7)]) :
    Ret Try.prog 49 [AD.agg [D.sl 4 l0, I n1, I n2, D.sl 8 l3, D.sl 6 l4, D.sl 5 l5, D.sl 3 l6]] [AD.one (B b7)] :=
  .of [Ans.br true, Ans.br false, Ans.loop [] [22, 21, 20, 3, 1] [1] Ex.ret (impl_OwnersOk_X0 b7)] _ Try.func49 rfl (by kernel_rfl) h

def impl_OwnersOk_L1 (n0 : Int) (l1 : List (List D)) (n2 : Int) : St :=
  { env := envOf 59 [(3, PV.al (AL.one (Leaf.v (Value.int IntKind.i64 n0)))), (43, PV.al (AL.one (Leaf.sl Tag.free 6 l1))), (44, PV.al (AL.one (Leaf.v (Value.int IntKind.i64 (↑l1.length : Int))))), (45, PV.al (AL.one (Leaf.v (Value.int IntKind.i64 n2))))], boxes := [] }

def impl_OwnersOk_X1 (b0 : Bool) : St :=
  { env := envOf 59 [(2, PV.al (AL.one (Leaf.sb b0)))], boxes := [] }

theorem impl_OwnersOk_L1_x0 (n1 : Int) (l11 : List (List D)) (n14 : Int) (n15 : Int) (l16 : List (List D)) (n17 : Int) (n18 : Int) (n19 : Int) (n20 : Int) (b21 : Bool)
    (h : Obs [decide (n14 < (↑l11.length : Int)) = true, 0 ≤ n14, n14 < (↑l11.length : Int), l11[n14.toNat]? = some [I n15, D.sl 5 l16, I n17, I n18, I n19, I n20], n1 ≠ 0, Ret Try.prog 102 [AD.one (D.sl 5 l16), AD.one (I (n14.tmod n1)), AD.one (I n1)] [AD.one (B b21)], (!b21) = true]) :
    Tr Try.prog (loopOf Try.f49 1) (impl_OwnersOk_L1 n1 l11 n14) Ex.ret (impl_OwnersOk_X1 false) :=
  .of_loopc (ks := [2]) (bs := []) (ans := [Ans.br true, Ans.el [I n15, D.sl 5 l16, I n17, I n18, I n19, I n20], Ans.res [AD.one (B b21)], Ans.br true]) (by kernel_rfl) h

theorem impl_OwnersOk_L1_s1 (n1 : Int) (l11 : List (List D)) (n14 : Int) (n15 : Int) (l16 : List (List D)) (n17 : Int) (n18 : Int) (n19 : Int) (n20 : Int) (b21 : Bool)
    (h : Obs [decide (n14 < (↑l11.length : Int)) = true, 0 ≤ n14, n14 < (↑l11.length : Int), l11[n14.toNat]? = some [I n15, D.sl 5 l16, I n17, I n18, I n19, I n20], n1 ≠ 0, Ret Try.prog 102 [AD.one (D.sl 5 l16), AD.one (I (n14.tmod n1)), AD.one (I n1)] [AD.one (B b21)], (!b21) = false, inInt IntKind.i64 (n14 + 1)]) :
    Tr Try.prog (loopOf Try.f49 1) (impl_OwnersOk_L1 n1 l11 n14) Ex.normal (impl_OwnersOk_L1 n1 l11 (n14 + 1)) :=
  .of_loopc (ks := [45, 44, 43, 3]) (bs := []) (ans := [Ans.br true, Ans.el [I n15, D.sl 5 l16, I n17, I n18, I n19, I n20], Ans.res [AD.one (B b21)], Ans.br false]) (by kernel_rfl) h

def impl_OwnersOk_X1v5 : St :=
  { env := envOf 59 [], boxes := [] }

theorem impl_OwnersOk_L1_x2 (n1 : Int) (l11 : List (List D)) (n14 : Int)
    (h : Obs [decide (n14 < (↑l11.length : Int)) = false]) :
    Tr Try.prog (loopOf Try.f49 1) (impl_OwnersOk_L1 n1 l11 n14) (Ex.exit 2) impl_OwnersOk_X1v5 :=
  .of_loopc (ks := []) (bs := []) (ans := [Ans.br false]) (by kernel_rfl) h

theorem impl_OwnersOk_p2 (l0 : List (List D)) (n1 : Int) (n2 : Int) (l3 : List (List D)) (l4 : List (List D)) (l5 : List (List D)) (l6 : List (List D)) (l7 : List (List D)) (n8 : Int) (n9 : Int) (l10 : List (List D)) (l11 : List (List D)) (l12 : List (List D)) (l13 : List (List D)) (b14 : Bool)
    (h : Obs [decide ((↑l4.length : Int) > 0) = true, decide (n1 < 1) = false, LoopOk Try.prog (loopOf Try.f49 0) (impl_OwnersOk_L0 n1 l3 0 l0 n1 n2 l3 l4 l5 l6) (Ex.exit 0) (impl_OwnersOk_X0v2 n1 l7 n8 n9 l10 l11 l12 l13), LoopOk Try.prog (loopOf Try.f49 1) (impl_OwnersOk_L1 n1 l11 0) Ex.ret (impl_OwnersOk_X1 b14)]) :
    Ret Try.prog 49 [AD.agg [D.sl 4 l0, I n1, I n2, D.sl 8 l3, D.sl 6 l4, D.sl 5 l5, D.sl 3 l6]] [AD.one (B b14)] :=
  .of [Ans.br true, Ans.br false, Ans.loop [] [22, 21, 20, 3, 1] [1] (Ex.exit 0) (impl_OwnersOk_X0v2 n1 l7 n8 n9 l10 l11 l12 l13), Ans.loop [] [45, 44, 43, 3] [] Ex.ret (impl_OwnersOk_X1 b14)] _ Try.func49 rfl (by kernel_rfl) h

theorem impl_OwnersOk_p3 (l0 : List (List D)) (n1 : Int) (n2 : Int) (l3 : List (List D)) (l4 : List (List D)) (l5 : List (List D)) (l6 : List (List D)) (l7 : List (List D)) (n8 : Int) (n9 : Int) (l10 : List (List D)) (l11 : List (List D)) (l12 : List (List D)) (l13 : List (List D))
    (h : Obs [decide ((↑l4.length : Int) > 0) = true, decide (n1 < 1) = false, LoopOk Try.prog (loopOf Try.f49 0) (impl_OwnersOk_L0 n1 l3 0 l0 n1 n2 l3 l4 l5 l6) (Ex.exit 0) (impl_OwnersOk_X0v2 n1 l7 n8 n9 l10 l11 l12 l13), LoopOk Try.prog (loopOf Try.f49 1) (impl_OwnersOk_L1 n1 l11 0) (Ex.exit 2) impl_OwnersOk_X1v5]) :
    Ret Try.prog 49 [AD.agg [D.sl 4 l0, I n1, I n2, D.sl 8 l3, D.sl 6 l4, D.sl 5 l5, D.sl 3 l6]] [AD.one (B true)] :=
  .of [Ans.br true, Ans.br false, Ans.loop [] [22, 21, 20, 3, 1] [1] (Ex.exit 0) (impl_OwnersOk_X0v2 n1 l7 n8 n9 l10 l11 l12 l13), Ans.loop [] [45, 44, 43, 3] [] (Ex.exit 2) impl_OwnersOk_X1v5] _ Try.func49 rfl (by kernel_rfl) h

theorem impl_OwnersOk_p4 (l0 : List (List D)) (n1 : Int) (n2 : Int) (l3 : List (List D)) (l4 : List (List D)) (l5 : List (List D)) (l6 : List (List D)) (b7 : Bool)
    (h : Obs [decide ((↑l4.length : Int) > 0) = false, LoopOk Try.prog (loopOf Try.f49 0) (impl_OwnersOk_L0 n1 l3 0 l0 n1 n2 l3 l4 l5 l6) Ex.ret (impl_OwnersOk_X0 b7)]) :
    Ret Try.prog 49 [AD.agg [D.sl 4 l0, I n1, I n2, D.sl 8 l3, D.sl 6 l4, D.sl 5 l5, D.sl 3 l6]] [AD.one (B b7)] :=
  .of [Ans.br false, Ans.loop [] [22, 21, 20, 3, 1] [1] Ex.ret (impl_OwnersOk_X0 b7)] _ Try.func49 rfl (by kernel_rfl) h

theorem impl_OwnersOk_p5 (l0 : List (List D)) (n1 : Int) (n2 : Int) (l3 : List (List D)) (l4 : List (List D)) (l5 : List (List D)) (l6 : List (List D)) (l7 : List (List D)) (n8 : Int) (n9 : Int) (l10 : List (List D)) (l11 : List (List D)) (l12 : List (List D)) (l13 : List (List D)) (b14 : Bool)
    (h : Obs [decide ((↑l4.length : Int) > 0) = false, LoopOk Try.prog (loopOf Try.f49 0) (impl_OwnersOk_L0 n1 l3 0 l0 n1 n2 l3 l4 l5 l6) (Ex.exit 0) (impl_OwnersOk_X0v2 n1 l7 n8 n9 l10 l11 l12 l13), LoopOk Try.prog (loopOf Try.f49 1) (impl_OwnersOk_L1 n1 l11 0) Ex.ret (impl_OwnersOk_X1 b14)]) :
    Ret Try.prog 49 [AD.agg [D.sl 4 l0, I n1, I n2, D.sl 8 l3, D.sl 6 l4, D.sl 5 l5, D.sl 3 l6]] [AD.one (B b14)] :=
  .of [Ans.br false, Ans.loop [] [22, 21, 20, 3, 1] [1] (Ex.exit 0) (impl_OwnersOk_X0v2 n1 l7 n8 n9 l10 l11 l12 l13), Ans.loop [] [45, 44, 43, 3] [] Ex.ret (impl_OwnersOk_X1 b14)] _ Try.func49 rfl (by kernel_rfl) h

theorem impl_OwnersOk_p6 (l0 : List (List D)) (n1 : Int) (n2 : Int) (l3 : List (List D)) (l4 : List (List D)) (l5 : List (List D)) (l6 : List (List D)) (l7 : List (List D)) (n8 : Int) (n9 : Int) (l10 : List (List D)) (l11 : List (List D)) (l12 : List (List D)) (l13 : List (List D))
    (h : Obs [decide ((↑l4.length : Int) > 0) = false, LoopOk Try.prog (loopOf Try.f49 0) (impl_OwnersOk_L0 n1 l3 0 l0 n1 n2 l3 l4 l5 l6) (Ex.exit 0) (impl_OwnersOk_X0v2 n1 l7 n8 n9 l10 l11 l12 l13), LoopOk Try.prog (loopOf Try.f49 1) (impl_OwnersOk_L1 n1 l11 0) (Ex.exit 2) impl_OwnersOk_X1v5]) :
    Ret Try.prog 49 [AD.agg [D.sl 4 l0, I n1, I n2, D.sl 8 l3, D.sl 6 l4, D.sl 5 l5, D.sl 3 l6]] [AD.one (B true)] :=
  .of [Ans.br false, Ans.loop [] [22, 21, 20, 3, 1] [1] (Ex.exit 0) (impl_OwnersOk_X0v2 n1 l7 n8 n9 l10 l11 l12 l13), Ans.loop [] [45, 44, 43, 3] [] (Ex.exit 2) impl_OwnersOk_X1v5] _ Try.func49 rfl (by kernel_rfl) h


end Go.Proofs.Ytcdpehhhkfdoaaa
