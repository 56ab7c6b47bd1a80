import Derived.Test.YtbbjajmimckabaaGreatRows
import Derived.Test.YtbbjajmimckabaaGreatR23
set_option linter.unusedVariables false
set_option linter.unusedSimpArgs false
namespace Go.Proofs.YtbbjajmimckabaaGreat
open Go.Sx Go.RowKit

/- loop.example/g00973/laws.markRecordS -/

def laws_markRecordS_L0 (n0 : Int) (n1 : Int) (l2 : List (List D)) : St :=
  { env := envOf 50 [(0, PV.al (AL.one (Leaf.sl (Tag.own 1000000000) 5 l2))), (1, PV.al (AL.one (Leaf.v (Value.int IntKind.i64 n1)))), (5, PV.al (AL.one (Leaf.v (Value.int IntKind.i64 n0))))], boxes := [] }

theorem laws_markRecordS_L0_s0 (n2 : Int) (n3 : Int) (l4 : List (List D)) (d5 : D) (d6 : D) (d7 : D) (d8 : D) (d9 : D) (d10 : D) (d11 : D) (d12 : D) (d13 : D) (d14 : D) (d15 : D) (d16 : D) (d17 : D) (d18 : D) (d19 : D) (d20 : D) (d21 : D) (d22 : D) (d23 : D) (d24 : D) (d25 : D) (d26 : D) (d27 : D) (d28 : D) (d29 : D)
    (h : Obs [decide (n2 < (↑l4.length : Int)) = true, 0 ≤ n2, n2 < (↑l4.length : Int), l4[n2.toNat]? = some [d5, d6, d7, d8, d9], inInt IntKind.i64 (n3 + 1), 0 ≤ n2, n2 < (↑(l4.set n2.toNat [I n3, d6, d7, d8, d9]).length : Int), (l4.set n2.toNat [I n3, d6, d7, d8, d9])[n2.toNat]? = some [d10, d11, d12, d13, d14], inInt IntKind.i64 (n3 + 1 + 1), 0 ≤ n2, n2 < (↑((l4.set n2.toNat [I n3, d6, d7, d8, d9]).set n2.toNat [d10, I (n3 + 1), d12, d13, d14]).length : Int), ((l4.set n2.toNat [I n3, d6, d7, d8, d9]).set n2.toNat [d10, I (n3 + 1), d12, d13, d14])[n2.toNat]? = some [d15, d16, d17, d18, d19], inInt IntKind.i64 (n3 + 1 + 1 + 1), 0 ≤ n2, n2 < (↑(((l4.set n2.toNat [I n3, d6, d7, d8, d9]).set n2.toNat [d10, I (n3 + 1), d12, d13, d14]).set n2.toNat [d15, d16, I (n3 + 1 + 1), d18, d19]).length : Int), (((l4.set n2.toNat [I n3, d6, d7, d8, d9]).set n2.toNat [d10, I (n3 + 1), d12, d13, d14]).set n2.toNat [d15, d16, I (n3 + 1 + 1), d18, d19])[n2.toNat]? = some [d20, d21, d22, d23, d24], inInt IntKind.i64 (n3 + 1 + 1 + 1 + 1), 0 ≤ n2, n2 < (↑((((l4.set n2.toNat [I n3, d6, d7, d8, d9]).set n2.toNat [d10, I (n3 + 1), d12, d13, d14]).set n2.toNat [d15, d16, I (n3 + 1 + 1), d18, d19]).set n2.toNat [d20, d21, d22, I (n3 + 1 + 1 + 1), d24]).length : Int), ((((l4.set n2.toNat [I n3, d6, d7, d8, d9]).set n2.toNat [d10, I (n3 + 1), d12, d13, d14]).set n2.toNat [d15, d16, I (n3 + 1 + 1), d18, d19]).set n2.toNat [d20, d21, d22, I (n3 + 1 + 1 + 1), d24])[n2.toNat]? = some [d25, d26, d27, d28, d29], inInt IntKind.i64 (n3 + 1 + 1 + 1 + 1 + 1), inInt IntKind.i64 (n2 + 1)]) :
    Tr Tryz.prog (loopOf Tryz.f14 0) (laws_markRecordS_L0 n2 n3 l4) Ex.normal (laws_markRecordS_L0 (n2 + 1) (n3 + 1 + 1 + 1 + 1 + 1) (((((l4.set n2.toNat [I n3, d6, d7, d8, d9]).set n2.toNat [d10, I (n3 + 1), d12, d13, d14]).set n2.toNat [d15, d16, I (n3 + 1 + 1), d18, d19]).set n2.toNat [d20, d21, d22, I (n3 + 1 + 1 + 1), d24]).set n2.toNat [d25, d26, d27, d28, I (n3 + 1 + 1 + 1 + 1)])) :=
  .of_loopc (ks := [5, 0, 1]) (bs := []) (ans := [Ans.br true, Ans.el [d5, d6, d7, d8, d9], Ans.el [d10, d11, d12, d13, d14], Ans.el [d15, d16, d17, d18, d19], Ans.el [d20, d21, d22, d23, d24], Ans.el [d25, d26, d27, d28, d29]]) (by kernel_rfl) h

def laws_markRecordS_X0 (n0 : Int) (l1 : List (List D)) : St :=
  { env := envOf 50 [(0, PV.al (AL.one (Leaf.sl (Tag.own 1000000000) 5 l1))), (1, PV.al (AL.one (Leaf.v (Value.int IntKind.i64 n0))))], boxes := [] }

theorem laws_markRecordS_L0_x1 (n2 : Int) (n3 : Int) (l4 : List (List D))
    (h : Obs [decide (n2 < (↑l4.length : Int)) = false]) :
    Tr Tryz.prog (loopOf Tryz.f14 0) (laws_markRecordS_L0 n2 n3 l4) (Ex.exit 0) (laws_markRecordS_X0 n3 l4) :=
  .of_loopc (ks := [1, 0]) (bs := []) (ans := [Ans.br false]) (by kernel_rfl) h

theorem laws_markRecordS_p0 (l0 : List (List D)) (n1 : Int) (n2 : Int) (l3 : List (List D))
    (h : Obs [LoopOk Tryz.prog (loopOf Tryz.f14 0) (laws_markRecordS_L0 0 n1 l0) (Ex.exit 0) (laws_markRecordS_X0 n2 l3)]) :
    RetG Tryz.prog 14 [GA.one (GC.gv 5 l0 (some l3)), GA.one (GC.ro (I n1))] [AD.one (I n2)] :=
  .of [Ans.loop [] [5, 0, 1] [] (Ex.exit 0) (laws_markRecordS_X0 n2 l3)] _ Tryz.func14 rfl (by kernel_rfl) h

/- loop.example/g00973/laws.markNewsS -/

def laws_markNewsS_L0 (n0 : Int) (n1 : Int) (l2 : List (List D)) : St :=
  { env := envOf 36 [(0, PV.al (AL.one (Leaf.sl (Tag.own 1000000000) 3 l2))), (1, PV.al (AL.one (Leaf.v (Value.int IntKind.i64 n1)))), (5, PV.al (AL.one (Leaf.v (Value.int IntKind.i64 n0))))], boxes := [] }

theorem laws_markNewsS_L0_s0 (n2 : Int) (n3 : Int) (l4 : List (List D)) (d5 : D) (d6 : D) (d7 : D) (d8 : D) (d9 : D) (d10 : D) (d11 : D) (d12 : D) (d13 : D)
    (h : Obs [decide (n2 < (↑l4.length : Int)) = true, 0 ≤ n2, n2 < (↑l4.length : Int), l4[n2.toNat]? = some [d5, d6, d7], inInt IntKind.i64 (n3 + 1), 0 ≤ n2, n2 < (↑(l4.set n2.toNat [I n3, d6, d7]).length : Int), (l4.set n2.toNat [I n3, d6, d7])[n2.toNat]? = some [d8, d9, d10], inInt IntKind.i64 (n3 + 1 + 1), (3 : Int) ≠ 0, 0 ≤ n2, n2 < (↑((l4.set n2.toNat [I n3, d6, d7]).set n2.toNat [d8, I (n3 + 1), d10]).length : Int), ((l4.set n2.toNat [I n3, d6, d7]).set n2.toNat [d8, I (n3 + 1), d10])[n2.toNat]? = some [d11, d12, d13], inInt IntKind.i64 (n3 + 1 + 1 + 1), inInt IntKind.i64 (n2 + 1)]) :
    Tr Tryz.prog (loopOf Tryz.f47 0) (laws_markNewsS_L0 n2 n3 l4) Ex.normal (laws_markNewsS_L0 (n2 + 1) (n3 + 1 + 1 + 1) (((l4.set n2.toNat [I n3, d6, d7]).set n2.toNat [d8, I (n3 + 1), d10]).set n2.toNat [d11, d12, B ((n3 + 1 + 1).tmod 3 == 0)])) :=
  .of_loopc (ks := [5, 0, 1]) (bs := []) (ans := [Ans.br true, Ans.el [d5, d6, d7], Ans.el [d8, d9, d10], Ans.el [d11, d12, d13]]) (by kernel_rfl) h

def laws_markNewsS_X0 (n0 : Int) (l1 : List (List D)) : St :=
  { env := envOf 36 [(0, PV.al (AL.one (Leaf.sl (Tag.own 1000000000) 3 l1))), (1, PV.al (AL.one (Leaf.v (Value.int IntKind.i64 n0))))], boxes := [] }

theorem laws_markNewsS_L0_x1 (n2 : Int) (n3 : Int) (l4 : List (List D))
    (h : Obs [decide (n2 < (↑l4.length : Int)) = false]) :
    Tr Tryz.prog (loopOf Tryz.f47 0) (laws_markNewsS_L0 n2 n3 l4) (Ex.exit 0) (laws_markNewsS_X0 n3 l4) :=
  .of_loopc (ks := [1, 0]) (bs := []) (ans := [Ans.br false]) (by kernel_rfl) h

theorem laws_markNewsS_p0 (l0 : List (List D)) (n1 : Int) (n2 : Int) (l3 : List (List D))
    (h : Obs [LoopOk Tryz.prog (loopOf Tryz.f47 0) (laws_markNewsS_L0 0 n1 l0) (Ex.exit 0) (laws_markNewsS_X0 n2 l3)]) :
    RetG Tryz.prog 47 [GA.one (GC.gv 3 l0 (some l3)), GA.one (GC.ro (I n1))] [AD.one (I n2)] :=
  .of [Ans.loop [] [5, 0, 1] [] (Ex.exit 0) (laws_markNewsS_X0 n2 l3)] _ Tryz.func47 rfl (by kernel_rfl) h

/- loop.example/g00973/laws.markIntS -/

def laws_markIntS_L0 (n0 : Int) (n1 : Int) (l2 : List (List D)) : St :=
  { env := envOf 19 [(0, PV.al (AL.one (Leaf.sl (Tag.own 1000000000) 1 l2))), (1, PV.al (AL.one (Leaf.v (Value.int IntKind.i64 n1)))), (5, PV.al (AL.one (Leaf.v (Value.int IntKind.i64 n0))))], boxes := [] }

theorem laws_markIntS_L0_s0 (n2 : Int) (n3 : Int) (l4 : List (List D)) (d5 : D)
    (h : Obs [decide (n2 < (↑l4.length : Int)) = true, 0 ≤ n2, n2 < (↑l4.length : Int), l4[n2.toNat]? = some [d5], inInt IntKind.i64 (n3 + 1), inInt IntKind.i64 (n2 + 1)]) :
    Tr Tryz.prog (loopOf Tryz.f80 0) (laws_markIntS_L0 n2 n3 l4) Ex.normal (laws_markIntS_L0 (n2 + 1) (n3 + 1) (l4.set n2.toNat [I n3])) :=
  .of_loopc (ks := [5, 0, 1]) (bs := []) (ans := [Ans.br true, Ans.el [d5]]) (by kernel_rfl) h

def laws_markIntS_X0 (n0 : Int) (l1 : List (List D)) : St :=
  { env := envOf 19 [(0, PV.al (AL.one (Leaf.sl (Tag.own 1000000000) 1 l1))), (1, PV.al (AL.one (Leaf.v (Value.int IntKind.i64 n0))))], boxes := [] }

theorem laws_markIntS_L0_x1 (n2 : Int) (n3 : Int) (l4 : List (List D))
    (h : Obs [decide (n2 < (↑l4.length : Int)) = false]) :
    Tr Tryz.prog (loopOf Tryz.f80 0) (laws_markIntS_L0 n2 n3 l4) (Ex.exit 0) (laws_markIntS_X0 n3 l4) :=
  .of_loopc (ks := [1, 0]) (bs := []) (ans := [Ans.br false]) (by kernel_rfl) h

theorem laws_markIntS_p0 (l0 : List (List D)) (n1 : Int) (n2 : Int) (l3 : List (List D))
    (h : Obs [LoopOk Tryz.prog (loopOf Tryz.f80 0) (laws_markIntS_L0 0 n1 l0) (Ex.exit 0) (laws_markIntS_X0 n2 l3)]) :
    RetG Tryz.prog 80 [GA.one (GC.gv 1 l0 (some l3)), GA.one (GC.ro (I n1))] [AD.one (I n2)] :=
  .of [Ans.loop [] [5, 0, 1] [] (Ex.exit 0) (laws_markIntS_X0 n2 l3)] _ Tryz.func80 rfl (by kernel_rfl) h

/- loop.example/g00973/laws.markCellS -/

def laws_markCellS_L0 (n0 : Int) (n1 : Int) (l2 : List (List D)) : St :=
  { env := envOf 41 [(0, PV.al (AL.one (Leaf.sl (Tag.own 1000000000) 4 l2))), (1, PV.al (AL.one (Leaf.v (Value.int IntKind.i64 n1)))), (5, PV.al (AL.one (Leaf.v (Value.int IntKind.i64 n0))))], boxes := [] }

theorem laws_markCellS_L0_s0 (n2 : Int) (n3 : Int) (l4 : List (List D)) (d5 : D) (d6 : D) (d7 : D) (d8 : D) (d9 : D) (d10 : D) (d11 : D) (d12 : D) (d13 : D) (d14 : D) (d15 : D) (d16 : D) (d17 : D) (d18 : D) (d19 : D) (d20 : D)
    (h : Obs [decide (n2 < (↑l4.length : Int)) = true, 0 ≤ n2, n2 < (↑l4.length : Int), l4[n2.toNat]? = some [d5, d6, d7, d8], inInt IntKind.i64 (n3 + 1), 0 ≤ n2, n2 < (↑(l4.set n2.toNat [I n3, d6, d7, d8]).length : Int), (l4.set n2.toNat [I n3, d6, d7, d8])[n2.toNat]? = some [d9, d10, d11, d12], inInt IntKind.i64 (n3 + 1 + 1), 0 ≤ n2, n2 < (↑((l4.set n2.toNat [I n3, d6, d7, d8]).set n2.toNat [d9, I (n3 + 1), d11, d12]).length : Int), ((l4.set n2.toNat [I n3, d6, d7, d8]).set n2.toNat [d9, I (n3 + 1), d11, d12])[n2.toNat]? = some [d13, d14, d15, d16], inInt IntKind.i64 (n3 + 1 + 1 + 1), 0 ≤ n2, n2 < (↑(((l4.set n2.toNat [I n3, d6, d7, d8]).set n2.toNat [d9, I (n3 + 1), d11, d12]).set n2.toNat [d13, d14, I (n3 + 1 + 1), d16]).length : Int), (((l4.set n2.toNat [I n3, d6, d7, d8]).set n2.toNat [d9, I (n3 + 1), d11, d12]).set n2.toNat [d13, d14, I (n3 + 1 + 1), d16])[n2.toNat]? = some [d17, d18, d19, d20], inInt IntKind.i64 (n3 + 1 + 1 + 1 + 1), inInt IntKind.i64 (n2 + 1)]) :
    Tr Tryz.prog (loopOf Tryz.f79 0) (laws_markCellS_L0 n2 n3 l4) Ex.normal (laws_markCellS_L0 (n2 + 1) (n3 + 1 + 1 + 1 + 1) ((((l4.set n2.toNat [I n3, d6, d7, d8]).set n2.toNat [d9, I (n3 + 1), d11, d12]).set n2.toNat [d13, d14, I (n3 + 1 + 1), d16]).set n2.toNat [d17, d18, d19, I (n3 + 1 + 1 + 1)])) :=
  .of_loopc (ks := [5, 0, 1]) (bs := []) (ans := [Ans.br true, Ans.el [d5, d6, d7, d8], Ans.el [d9, d10, d11, d12], Ans.el [d13, d14, d15, d16], Ans.el [d17, d18, d19, d20]]) (by kernel_rfl) h

def laws_markCellS_X0 (n0 : Int) (l1 : List (List D)) : St :=
  { env := envOf 41 [(0, PV.al (AL.one (Leaf.sl (Tag.own 1000000000) 4 l1))), (1, PV.al (AL.one (Leaf.v (Value.int IntKind.i64 n0))))], boxes := [] }

theorem laws_markCellS_L0_x1 (n2 : Int) (n3 : Int) (l4 : List (List D))
    (h : Obs [decide (n2 < (↑l4.length : Int)) = false]) :
    Tr Tryz.prog (loopOf Tryz.f79 0) (laws_markCellS_L0 n2 n3 l4) (Ex.exit 0) (laws_markCellS_X0 n3 l4) :=
  .of_loopc (ks := [1, 0]) (bs := []) (ans := [Ans.br false]) (by kernel_rfl) h

theorem laws_markCellS_p0 (l0 : List (List D)) (n1 : Int) (n2 : Int) (l3 : List (List D))
    (h : Obs [LoopOk Tryz.prog (loopOf Tryz.f79 0) (laws_markCellS_L0 0 n1 l0) (Ex.exit 0) (laws_markCellS_X0 n2 l3)]) :
    RetG Tryz.prog 79 [GA.one (GC.gv 4 l0 (some l3)), GA.one (GC.ro (I n1))] [AD.one (I n2)] :=
  .of [Ans.loop [] [5, 0, 1] [] (Ex.exit 0) (laws_markCellS_X0 n2 l3)] _ Tryz.func79 rfl (by kernel_rfl) h

/- loop.example/g00973/laws.markBoolS -/

def laws_markBoolS_L0 (n0 : Int) (n1 : Int) (l2 : List (List D)) : St :=
  { env := envOf 21 [(0, PV.al (AL.one (Leaf.sl (Tag.own 1000000000) 1 l2))), (1, PV.al (AL.one (Leaf.v (Value.int IntKind.i64 n1)))), (5, PV.al (AL.one (Leaf.v (Value.int IntKind.i64 n0))))], boxes := [] }

theorem laws_markBoolS_L0_s0 (n2 : Int) (n3 : Int) (l4 : List (List D)) (d5 : D)
    (h : Obs [decide (n2 < (↑l4.length : Int)) = true, (3 : Int) ≠ 0, 0 ≤ n2, n2 < (↑l4.length : Int), l4[n2.toNat]? = some [d5], inInt IntKind.i64 (n3 + 1), inInt IntKind.i64 (n2 + 1)]) :
    Tr Tryz.prog (loopOf Tryz.f81 0) (laws_markBoolS_L0 n2 n3 l4) Ex.normal (laws_markBoolS_L0 (n2 + 1) (n3 + 1) (l4.set n2.toNat [B (n3.tmod 3 == 0)])) :=
  .of_loopc (ks := [5, 0, 1]) (bs := []) (ans := [Ans.br true, Ans.el [d5]]) (by kernel_rfl) h

def laws_markBoolS_X0 (n0 : Int) (l1 : List (List D)) : St :=
  { env := envOf 21 [(0, PV.al (AL.one (Leaf.sl (Tag.own 1000000000) 1 l1))), (1, PV.al (AL.one (Leaf.v (Value.int IntKind.i64 n0))))], boxes := [] }

theorem laws_markBoolS_L0_x1 (n2 : Int) (n3 : Int) (l4 : List (List D))
    (h : Obs [decide (n2 < (↑l4.length : Int)) = false]) :
    Tr Tryz.prog (loopOf Tryz.f81 0) (laws_markBoolS_L0 n2 n3 l4) (Ex.exit 0) (laws_markBoolS_X0 n3 l4) :=
  .of_loopc (ks := [1, 0]) (bs := []) (ans := [Ans.br false]) (by kernel_rfl) h

theorem laws_markBoolS_p0 (l0 : List (List D)) (n1 : Int) (n2 : Int) (l3 : List (List D))
    (h : Obs [LoopOk Tryz.prog (loopOf Tryz.f81 0) (laws_markBoolS_L0 0 n1 l0) (Ex.exit 0) (laws_markBoolS_X0 n2 l3)]) :
    RetG Tryz.prog 81 [GA.one (GC.gv 1 l0 (some l3)), GA.one (GC.ro (I n1))] [AD.one (I n2)] :=
  .of [Ans.loop [] [5, 0, 1] [] (Ex.exit 0) (laws_markBoolS_X0 n2 l3)] _ Tryz.func81 rfl (by kernel_rfl) h

/- loop.example/g00973/laws.markDoneS -/

def laws_markDoneS_L0 (n0 : Int) (n1 : Int) (l2 : List (List D)) : St :=
  { env := envOf 29 [(0, PV.al (AL.one (Leaf.sl (Tag.own 1000000000) 2 l2))), (1, PV.al (AL.one (Leaf.v (Value.int IntKind.i64 n1)))), (5, PV.al (AL.one (Leaf.v (Value.int IntKind.i64 n0))))], boxes := [] }

theorem laws_markDoneS_L0_s0 (n2 : Int) (n3 : Int) (l4 : List (List D)) (d5 : D) (d6 : D) (d7 : D) (d8 : D)
    (h : Obs [decide (n2 < (↑l4.length : Int)) = true, 0 ≤ n2, n2 < (↑l4.length : Int), l4[n2.toNat]? = some [d5, d6], inInt IntKind.i64 (n3 + 1), (3 : Int) ≠ 0, 0 ≤ n2, n2 < (↑(l4.set n2.toNat [I n3, d6]).length : Int), (l4.set n2.toNat [I n3, d6])[n2.toNat]? = some [d7, d8], inInt IntKind.i64 (n3 + 1 + 1), inInt IntKind.i64 (n2 + 1)]) :
    Tr Tryz.prog (loopOf Tryz.f82 0) (laws_markDoneS_L0 n2 n3 l4) Ex.normal (laws_markDoneS_L0 (n2 + 1) (n3 + 1 + 1) ((l4.set n2.toNat [I n3, d6]).set n2.toNat [d7, B ((n3 + 1).tmod 3 == 0)])) :=
  .of_loopc (ks := [5, 0, 1]) (bs := []) (ans := [Ans.br true, Ans.el [d5, d6], Ans.el [d7, d8]]) (by kernel_rfl) h

def laws_markDoneS_X0 (n0 : Int) (l1 : List (List D)) : St :=
  { env := envOf 29 [(0, PV.al (AL.one (Leaf.sl (Tag.own 1000000000) 2 l1))), (1, PV.al (AL.one (Leaf.v (Value.int IntKind.i64 n0))))], boxes := [] }

theorem laws_markDoneS_L0_x1 (n2 : Int) (n3 : Int) (l4 : List (List D))
    (h : Obs [decide (n2 < (↑l4.length : Int)) = false]) :
    Tr Tryz.prog (loopOf Tryz.f82 0) (laws_markDoneS_L0 n2 n3 l4) (Ex.exit 0) (laws_markDoneS_X0 n3 l4) :=
  .of_loopc (ks := [1, 0]) (bs := []) (ans := [Ans.br false]) (by kernel_rfl) h

theorem laws_markDoneS_p0 (l0 : List (List D)) (n1 : Int) (n2 : Int) (l3 : List (List D))
    (h : Obs [LoopOk Tryz.prog (loopOf Tryz.f82 0) (laws_markDoneS_L0 0 n1 l0) (Ex.exit 0) (laws_markDoneS_X0 n2 l3)]) :
    RetG Tryz.prog 82 [GA.one (GC.gv 2 l0 (some l3)), GA.one (GC.ro (I n1))] [AD.one (I n2)] :=
  .of [Ans.loop [] [5, 0, 1] [] (Ex.exit 0) (laws_markDoneS_X0 n2 l3)] _ Tryz.func82 rfl (by kernel_rfl) h

/- loop.example/g00973/laws.markTokenS -/

def laws_markTokenS_L0 (n0 : Int) (n1 : Int) (l2 : List (List D)) : St :=
  { env := envOf 54 [(0, PV.al (AL.one (Leaf.sl (Tag.own 1000000000) 5 l2))), (1, PV.al (AL.one (Leaf.v (Value.int IntKind.i64 n1)))), (5, PV.al (AL.one (Leaf.v (Value.int IntKind.i64 n0))))], boxes := [] }

theorem laws_markTokenS_L0_s0 (n2 : Int) (n3 : Int) (l4 : List (List D)) (d5 : D) (d6 : D) (d7 : D) (d8 : D) (d9 : D) (d10 : D) (d11 : D) (d12 : D) (d13 : D) (d14 : D) (d15 : D) (d16 : D) (d17 : D) (d18 : D) (d19 : D) (d20 : D) (d21 : D) (d22 : D) (d23 : D) (d24 : D) (d25 : D) (d26 : D) (d27 : D) (d28 : D) (d29 : D)
    (h : Obs [decide (n2 < (↑l4.length : Int)) = true, (3 : Int) ≠ 0, 0 ≤ n2, n2 < (↑l4.length : Int), l4[n2.toNat]? = some [d5, d6, d7, d8, d9], inInt IntKind.i64 (n3 + 1), 0 ≤ n2, n2 < (↑(l4.set n2.toNat [B (n3.tmod 3 == 0), d6, d7, d8, d9]).length : Int), (l4.set n2.toNat [B (n3.tmod 3 == 0), d6, d7, d8, d9])[n2.toNat]? = some [d10, d11, d12, d13, d14], inInt IntKind.i64 (n3 + 1 + 1), 0 ≤ n2, n2 < (↑((l4.set n2.toNat [B (n3.tmod 3 == 0), d6, d7, d8, d9]).set n2.toNat [d10, I (n3 + 1), d12, d13, d14]).length : Int), ((l4.set n2.toNat [B (n3.tmod 3 == 0), d6, d7, d8, d9]).set n2.toNat [d10, I (n3 + 1), d12, d13, d14])[n2.toNat]? = some [d15, d16, d17, d18, d19], inInt IntKind.i64 (n3 + 1 + 1 + 1), (3 : Int) ≠ 0, 0 ≤ n2, n2 < (↑(((l4.set n2.toNat [B (n3.tmod 3 == 0), d6, d7, d8, d9]).set n2.toNat [d10, I (n3 + 1), d12, d13, d14]).set n2.toNat [d15, d16, I (n3 + 1 + 1), d18, d19]).length : Int), (((l4.set n2.toNat [B (n3.tmod 3 == 0), d6, d7, d8, d9]).set n2.toNat [d10, I (n3 + 1), d12, d13, d14]).set n2.toNat [d15, d16, I (n3 + 1 + 1), d18, d19])[n2.toNat]? = some [d20, d21, d22, d23, d24], inInt IntKind.i64 (n3 + 1 + 1 + 1 + 1), (3 : Int) ≠ 0, 0 ≤ n2, n2 < (↑((((l4.set n2.toNat [B (n3.tmod 3 == 0), d6, d7, d8, d9]).set n2.toNat [d10, I (n3 + 1), d12, d13, d14]).set n2.toNat [d15, d16, I (n3 + 1 + 1), d18, d19]).set n2.toNat [d20, d21, d22, B ((n3 + 1 + 1 + 1).tmod 3 == 0), d24]).length : Int), ((((l4.set n2.toNat [B (n3.tmod 3 == 0), d6, d7, d8, d9]).set n2.toNat [d10, I (n3 + 1), d12, d13, d14]).set n2.toNat [d15, d16, I (n3 + 1 + 1), d18, d19]).set n2.toNat [d20, d21, d22, B ((n3 + 1 + 1 + 1).tmod 3 == 0), d24])[n2.toNat]? = some [d25, d26, d27, d28, d29], inInt IntKind.i64 (n3 + 1 + 1 + 1 + 1 + 1), inInt IntKind.i64 (n2 + 1)]) :
    Tr Tryz.prog (loopOf Tryz.f46 0) (laws_markTokenS_L0 n2 n3 l4) Ex.normal (laws_markTokenS_L0 (n2 + 1) (n3 + 1 + 1 + 1 + 1 + 1) (((((l4.set n2.toNat [B (n3.tmod 3 == 0), d6, d7, d8, d9]).set n2.toNat [d10, I (n3 + 1), d12, d13, d14]).set n2.toNat [d15, d16, I (n3 + 1 + 1), d18, d19]).set n2.toNat [d20, d21, d22, B ((n3 + 1 + 1 + 1).tmod 3 == 0), d24]).set n2.toNat [d25, d26, d27, d28, B ((n3 + 1 + 1 + 1 + 1).tmod 3 == 0)])) :=
  .of_loopc (ks := [5, 0, 1]) (bs := []) (ans := [Ans.br true, Ans.el [d5, d6, d7, d8, d9], Ans.el [d10, d11, d12, d13, d14], Ans.el [d15, d16, d17, d18, d19], Ans.el [d20, d21, d22, d23, d24], Ans.el [d25, d26, d27, d28, d29]]) (by kernel_rfl) h

def laws_markTokenS_X0 (n0 : Int) (l1 : List (List D)) : St :=
  { env := envOf 54 [(0, PV.al (AL.one (Leaf.sl (Tag.own 1000000000) 5 l1))), (1, PV.al (AL.one (Leaf.v (Value.int IntKind.i64 n0))))], boxes := [] }

theorem laws_markTokenS_L0_x1 (n2 : Int) (n3 : Int) (l4 : List (List D))
    (h : Obs [decide (n2 < (↑l4.length : Int)) = false]) :
    Tr Tryz.prog (loopOf Tryz.f46 0) (laws_markTokenS_L0 n2 n3 l4) (Ex.exit 0) (laws_markTokenS_X0 n3 l4) :=
  .of_loopc (ks := [1, 0]) (bs := []) (ans := [Ans.br false]) (by kernel_rfl) h

theorem laws_markTokenS_p0 (l0 : List (List D)) (n1 : Int) (n2 : Int) (l3 : List (List D))
    (h : Obs [LoopOk Tryz.prog (loopOf Tryz.f46 0) (laws_markTokenS_L0 0 n1 l0) (Ex.exit 0) (laws_markTokenS_X0 n2 l3)]) :
    RetG Tryz.prog 46 [GA.one (GC.gv 5 l0 (some l3)), GA.one (GC.ro (I n1))] [AD.one (I n2)] :=
  .of [Ans.loop [] [5, 0, 1] [] (Ex.exit 0) (laws_markTokenS_X0 n2 l3)] _ Tryz.func46 rfl (by kernel_rfl) h

/- loop.example/g00973/laws.markNodeS -/

def laws_markNodeS_L0 (n0 : Int) (n1 : Int) (l2 : List (List D)) : St :=
  { env := envOf 41 [(0, PV.al (AL.one (Leaf.sl (Tag.own 1000000000) 4 l2))), (1, PV.al (AL.one (Leaf.v (Value.int IntKind.i64 n1)))), (5, PV.al (AL.one (Leaf.v (Value.int IntKind.i64 n0))))], boxes := [] }

theorem laws_markNodeS_L0_s0 (n2 : Int) (n3 : Int) (l4 : List (List D)) (d5 : D) (d6 : D) (d7 : D) (d8 : D) (d9 : D) (d10 : D) (d11 : D) (d12 : D) (d13 : D) (d14 : D) (d15 : D) (d16 : D) (n17 : Int) (n18 : Int) (n19 : Int) (l20 : List (List D)) (l21 : List (List D)) (n22 : Int)
    (h : Obs [decide (n2 < (↑l4.length : Int)) = true, 0 ≤ n2, n2 < (↑l4.length : Int), l4[n2.toNat]? = some [d5, d6, d7, d8], inInt IntKind.i64 (n3 + 1), 0 ≤ n2, n2 < (↑(l4.set n2.toNat [I n3, d6, d7, d8]).length : Int), (l4.set n2.toNat [I n3, d6, d7, d8])[n2.toNat]? = some [d9, d10, d11, d12], inInt IntKind.i64 (n3 + 1 + 1), 0 ≤ n2, n2 < (↑((l4.set n2.toNat [I n3, d6, d7, d8]).set n2.toNat [d9, I (n3 + 1), d11, d12]).length : Int), ((l4.set n2.toNat [I n3, d6, d7, d8]).set n2.toNat [d9, I (n3 + 1), d11, d12])[n2.toNat]? = some [d13, d14, d15, d16], inInt IntKind.i64 (n3 + 1 + 1 + 1), 0 ≤ n2, n2 < (↑(((l4.set n2.toNat [I n3, d6, d7, d8]).set n2.toNat [d9, I (n3 + 1), d11, d12]).set n2.toNat [d13, d14, I (n3 + 1 + 1), d16]).length : Int), (((l4.set n2.toNat [I n3, d6, d7, d8]).set n2.toNat [d9, I (n3 + 1), d11, d12]).set n2.toNat [d13, d14, I (n3 + 1 + 1), d16])[n2.toNat]? = some [I n17, I n18, I n19, D.sl 1 l20], RetG Tryz.prog 80 [GA.one (GC.gv 1 l20 (some l21)), GA.one (GC.ro (I (n3 + 1 + 1 + 1)))] [AD.one (I n22)], (((l4.set n2.toNat [I n3, d6, d7, d8]).set n2.toNat [d9, I (n3 + 1), d11, d12]).set n2.toNat [d13, d14, I (n3 + 1 + 1), d16])[n2.toNat]? = some [I n17, I n18, I n19, D.sl 1 l20], n2.toNat = n2.toNat, inInt IntKind.i64 (n2 + 1)]) :
    Tr Tryz.prog (loopOf Tryz.f78 0) (laws_markNodeS_L0 n2 n3 l4) Ex.normal (laws_markNodeS_L0 (n2 + 1) n22 ((((l4.set n2.toNat [I n3, d6, d7, d8]).set n2.toNat [d9, I (n3 + 1), d11, d12]).set n2.toNat [d13, d14, I (n3 + 1 + 1), d16]).set n2.toNat [I n17, I n18, I n19, D.sl 1 l21])) :=
  .of_loopc (ks := [5, 0, 1]) (bs := []) (ans := [Ans.br true, Ans.el [d5, d6, d7, d8], Ans.el [d9, d10, d11, d12], Ans.el [d13, d14, d15, d16], Ans.sub, Ans.el [I n17, I n18, I n19, D.sl 1 l20], Ans.resG [[some (some l21)], [none]] 0 [I n17, I n18, I n19, D.sl 1 l20] [AD.one (I n22)]]) (by kernel_rfl) h

def laws_markNodeS_X0 (n0 : Int) (l1 : List (List D)) : St :=
  { env := envOf 41 [(0, PV.al (AL.one (Leaf.sl (Tag.own 1000000000) 4 l1))), (1, PV.al (AL.one (Leaf.v (Value.int IntKind.i64 n0))))], boxes := [] }

theorem laws_markNodeS_L0_x1 (n2 : Int) (n3 : Int) (l4 : List (List D))
    (h : Obs [decide (n2 < (↑l4.length : Int)) = false]) :
    Tr Tryz.prog (loopOf Tryz.f78 0) (laws_markNodeS_L0 n2 n3 l4) (Ex.exit 0) (laws_markNodeS_X0 n3 l4) :=
  .of_loopc (ks := [1, 0]) (bs := []) (ans := [Ans.br false]) (by kernel_rfl) h

theorem laws_markNodeS_p0 (l0 : List (List D)) (n1 : Int) (n2 : Int) (l3 : List (List D))
    (h : Obs [LoopOk Tryz.prog (loopOf Tryz.f78 0) (laws_markNodeS_L0 0 n1 l0) (Ex.exit 0) (laws_markNodeS_X0 n2 l3)]) :
    RetG Tryz.prog 78 [GA.one (GC.gv 4 l0 (some l3)), GA.one (GC.ro (I n1))] [AD.one (I n2)] :=
  .of [Ans.loop [] [5, 0, 1] [] (Ex.exit 0) (laws_markNodeS_X0 n2 l3)] _ Tryz.func78 rfl (by kernel_rfl) h

/- loop.example/g00973/laws.markLinkS -/

def laws_markLinkS_L0 (n0 : Int) (n1 : Int) (l2 : List (List D)) : St :=
  { env := envOf 55 [(0, PV.al (AL.one (Leaf.sl (Tag.own 1000000000) 6 l2))), (1, PV.al (AL.one (Leaf.v (Value.int IntKind.i64 n1)))), (5, PV.al (AL.one (Leaf.v (Value.int IntKind.i64 n0))))], boxes := [] }

theorem laws_markLinkS_L0_s0 (n2 : Int) (n3 : Int) (l4 : List (List D)) (d5 : D) (d6 : D) (d7 : D) (d8 : D) (d9 : D) (d10 : D) (n11 : Int) (l12 : List (List D)) (n13 : Int) (n14 : Int) (n15 : Int) (n16 : Int) (l17 : List (List D)) (n18 : Int) (d19 : D) (d20 : D) (d21 : D) (d22 : D) (d23 : D) (d24 : D) (d25 : D) (d26 : D) (d27 : D) (d28 : D) (d29 : D) (d30 : D) (d31 : D) (d32 : D) (d33 : D) (d34 : D) (d35 : D) (d36 : D) (d37 : D) (d38 : D) (d39 : D) (d40 : D) (d41 : D) (d42 : D)
    (h : Obs [decide (n2 < (↑l4.length : Int)) = true, 0 ≤ n2, n2 < (↑l4.length : Int), l4[n2.toNat]? = some [d5, d6, d7, d8, d9, d10], inInt IntKind.i64 (n3 + 1), 0 ≤ n2, n2 < (↑(l4.set n2.toNat [I n3, d6, d7, d8, d9, d10]).length : Int), (l4.set n2.toNat [I n3, d6, d7, d8, d9, d10])[n2.toNat]? = some [I n11, D.sl 5 l12, I n13, I n14, I n15, I n16], RetG Tryz.prog 14 [GA.one (GC.gv 5 l12 (some l17)), GA.one (GC.ro (I (n3 + 1)))] [AD.one (I n18)], (l4.set n2.toNat [I n3, d6, d7, d8, d9, d10])[n2.toNat]? = some [I n11, D.sl 5 l12, I n13, I n14, I n15, I n16], n2.toNat = n2.toNat, 0 ≤ n2, n2 < (↑((l4.set n2.toNat [I n3, d6, d7, d8, d9, d10]).set n2.toNat [I n11, D.sl 5 l17, I n13, I n14, I n15, I n16]).length : Int), ((l4.set n2.toNat [I n3, d6, d7, d8, d9, d10]).set n2.toNat [I n11, D.sl 5 l17, I n13, I n14, I n15, I n16])[n2.toNat]? = some [d19, d20, d21, d22, d23, d24], inInt IntKind.i64 (n18 + 1), 0 ≤ n2, n2 < (↑(((l4.set n2.toNat [I n3, d6, d7, d8, d9, d10]).set n2.toNat [I n11, D.sl 5 l17, I n13, I n14, I n15, I n16]).set n2.toNat [d19, d20, I n18, d22, d23, d24]).length : Int), (((l4.set n2.toNat [I n3, d6, d7, d8, d9, d10]).set n2.toNat [I n11, D.sl 5 l17, I n13, I n14, I n15, I n16]).set n2.toNat [d19, d20, I n18, d22, d23, d24])[n2.toNat]? = some [d25, d26, d27, d28, d29, d30], inInt IntKind.i64 (n18 + 1 + 1), 0 ≤ n2, n2 < (↑((((l4.set n2.toNat [I n3, d6, d7, d8, d9, d10]).set n2.toNat [I n11, D.sl 5 l17, I n13, I n14, I n15, I n16]).set n2.toNat [d19, d20, I n18, d22, d23, d24]).set n2.toNat [d25, d26, d27, I (n18 + 1), d29, d30]).length : Int), ((((l4.set n2.toNat [I n3, d6, d7, d8, d9, d10]).set n2.toNat [I n11, D.sl 5 l17, I n13, I n14, I n15, I n16]).set n2.toNat [d19, d20, I n18, d22, d23, d24]).set n2.toNat [d25, d26, d27, I (n18 + 1), d29, d30])[n2.toNat]? = some [d31, d32, d33, d34, d35, d36], inInt IntKind.i64 (n18 + 1 + 1 + 1), 0 ≤ n2, n2 < (↑(((((l4.set n2.toNat [I n3, d6, d7, d8, d9, d10]).set n2.toNat [I n11, D.sl 5 l17, I n13, I n14, I n15, I n16]).set n2.toNat [d19, d20, I n18, d22, d23, d24]).set n2.toNat [d25, d26, d27, I (n18 + 1), d29, d30]).set n2.toNat [d31, d32, d33, d34, I (n18 + 1 + 1), d36]).length : Int), (((((l4.set n2.toNat [I n3, d6, d7, d8, d9, d10]).set n2.toNat [I n11, D.sl 5 l17, I n13, I n14, I n15, I n16]).set n2.toNat [d19, d20, I n18, d22, d23, d24]).set n2.toNat [d25, d26, d27, I (n18 + 1), d29, d30]).set n2.toNat [d31, d32, d33, d34, I (n18 + 1 + 1), d36])[n2.toNat]? = some [d37, d38, d39, d40, d41, d42], inInt IntKind.i64 (n18 + 1 + 1 + 1 + 1), inInt IntKind.i64 (n2 + 1)]) :
    Tr Tryz.prog (loopOf Tryz.f45 0) (laws_markLinkS_L0 n2 n3 l4) Ex.normal (laws_markLinkS_L0 (n2 + 1) (n18 + 1 + 1 + 1 + 1) ((((((l4.set n2.toNat [I n3, d6, d7, d8, d9, d10]).set n2.toNat [I n11, D.sl 5 l17, I n13, I n14, I n15, I n16]).set n2.toNat [d19, d20, I n18, d22, d23, d24]).set n2.toNat [d25, d26, d27, I (n18 + 1), d29, d30]).set n2.toNat [d31, d32, d33, d34, I (n18 + 1 + 1), d36]).set n2.toNat [d37, d38, d39, d40, d41, I (n18 + 1 + 1 + 1)])) :=
  .of_loopc (ks := [5, 0, 1]) (bs := []) (ans := [Ans.br true, Ans.el [d5, d6, d7, d8, d9, d10], Ans.sub, Ans.el [I n11, D.sl 5 l12, I n13, I n14, I n15, I n16], Ans.resG [[some (some l17)], [none]] 0 [I n11, D.sl 5 l12, I n13, I n14, I n15, I n16] [AD.one (I n18)], Ans.el [d19, d20, d21, d22, d23, d24], Ans.el [d25, d26, d27, d28, d29, d30], Ans.el [d31, d32, d33, d34, d35, d36], Ans.el [d37, d38, d39, d40, d41, d42]]) (by kernel_rfl) h

def laws_markLinkS_X0 (n0 : Int) (l1 : List (List D)) : St :=
  { env := envOf 55 [(0, PV.al (AL.one (Leaf.sl (Tag.own 1000000000) 6 l1))), (1, PV.al (AL.one (Leaf.v (Value.int IntKind.i64 n0))))], boxes := [] }

theorem laws_markLinkS_L0_x1 (n2 : Int) (n3 : Int) (l4 : List (List D))
    (h : Obs [decide (n2 < (↑l4.length : Int)) = false]) :
    Tr Tryz.prog (loopOf Tryz.f45 0) (laws_markLinkS_L0 n2 n3 l4) (Ex.exit 0) (laws_markLinkS_X0 n3 l4) :=
  .of_loopc (ks := [1, 0]) (bs := []) (ans := [Ans.br false]) (by kernel_rfl) h

theorem laws_markLinkS_p0 (l0 : List (List D)) (n1 : Int) (n2 : Int) (l3 : List (List D))
    (h : Obs [LoopOk Tryz.prog (loopOf Tryz.f45 0) (laws_markLinkS_L0 0 n1 l0) (Ex.exit 0) (laws_markLinkS_X0 n2 l3)]) :
    RetG Tryz.prog 45 [GA.one (GC.gv 6 l0 (some l3)), GA.one (GC.ro (I n1))] [AD.one (I n2)] :=
  .of [Ans.loop [] [5, 0, 1] [] (Ex.exit 0) (laws_markLinkS_X0 n2 l3)] _ Tryz.func45 rfl (by kernel_rfl) h

/- loop.example/g00973/laws.markWorkerS -/

def laws_markWorkerS_L0 (n0 : Int) (n1 : Int) (l2 : List (List D)) : St :=
  { env := envOf 69 [(0, PV.al (AL.one (Leaf.sl (Tag.own 1000000000) 8 l2))), (1, PV.al (AL.one (Leaf.v (Value.int IntKind.i64 n1)))), (5, PV.al (AL.one (Leaf.v (Value.int IntKind.i64 n0))))], boxes := [] }

theorem laws_markWorkerS_L0_s0 (n2 : Int) (n3 : Int) (l4 : List (List D)) (l5 : List (List D)) (l6 : List (List D)) (l7 : List (List D)) (l8 : List (List D)) (l9 : List (List D)) (l10 : List (List D)) (l11 : List (List D)) (l12 : List (List D)) (l13 : List (List D)) (n14 : Int) (l15 : List (List D)) (l16 : List (List D)) (l17 : List (List D)) (l18 : List (List D)) (l19 : List (List D)) (l20 : List (List D)) (l21 : List (List D)) (l22 : List (List D)) (l23 : List (List D)) (n24 : Int) (l25 : List (List D)) (l26 : List (List D)) (l27 : List (List D)) (l28 : List (List D)) (l29 : List (List D)) (l30 : List (List D)) (l31 : List (List D)) (l32 : List (List D)) (l33 : List (List D)) (n34 : Int) (l35 : List (List D)) (l36 : List (List D)) (l37 : List (List D)) (l38 : List (List D)) (l39 : List (List D)) (l40 : List (List D)) (l41 : List (List D)) (l42 : List (List D)) (l43 : List (List D)) (n44 : Int) (l45 : List (List D)) (l46 : List (List D)) (l47 : List (List D)) (l48 : List (List D)) (l49 : List (List D)) (l50 : List (List D)) (l51 : List (List D)) (l52 : List (List D)) (l53 : List (List D)) (n54 : Int) (l55 : List (List D)) (l56 : List (List D)) (l57 : List (List D)) (l58 : List (List D)) (l59 : List (List D)) (l60 : List (List D)) (l61 : List (List D)) (l62 : List (List D)) (l63 : List (List D)) (n64 : Int) (l65 : List (List D)) (l66 : List (List D)) (l67 : List (List D)) (l68 : List (List D)) (l69 : List (List D)) (l70 : List (List D)) (l71 : List (List D)) (l72 : List (List D)) (l73 : List (List D)) (n74 : Int) (l75 : List (List D)) (l76 : List (List D)) (l77 : List (List D)) (l78 : List (List D)) (l79 : List (List D)) (l80 : List (List D)) (l81 : List (List D)) (l82 : List (List D)) (l83 : List (List D)) (n84 : Int)
    (h : Obs [decide (n2 < (↑l4.length : Int)) = true, 0 ≤ n2, n2 < (↑l4.length : Int), l4[n2.toNat]? = some [D.sl 5 l5, D.sl 5 l6, D.sl 5 l7, D.sl 4 l8, D.sl 1 l9, D.sl 1 l10, D.sl 1 l11, D.sl 2 l12], RetG Tryz.prog 14 [GA.one (GC.gv 5 l5 (some l13)), GA.one (GC.ro (I n3))] [AD.one (I n14)], l4[n2.toNat]? = some [D.sl 5 l5, D.sl 5 l6, D.sl 5 l7, D.sl 4 l8, D.sl 1 l9, D.sl 1 l10, D.sl 1 l11, D.sl 2 l12], n2.toNat = n2.toNat, 0 ≤ n2, n2 < (↑(l4.set n2.toNat [D.sl 5 l13, D.sl 5 l6, D.sl 5 l7, D.sl 4 l8, D.sl 1 l9, D.sl 1 l10, D.sl 1 l11, D.sl 2 l12]).length : Int), (l4.set n2.toNat [D.sl 5 l13, D.sl 5 l6, D.sl 5 l7, D.sl 4 l8, D.sl 1 l9, D.sl 1 l10, D.sl 1 l11, D.sl 2 l12])[n2.toNat]? = some [D.sl 5 l15, D.sl 5 l16, D.sl 5 l17, D.sl 4 l18, D.sl 1 l19, D.sl 1 l20, D.sl 1 l21, D.sl 2 l22], RetG Tryz.prog 14 [GA.one (GC.gv 5 l16 (some l23)), GA.one (GC.ro (I n14))] [AD.one (I n24)], (l4.set n2.toNat [D.sl 5 l13, D.sl 5 l6, D.sl 5 l7, D.sl 4 l8, D.sl 1 l9, D.sl 1 l10, D.sl 1 l11, D.sl 2 l12])[n2.toNat]? = some [D.sl 5 l15, D.sl 5 l16, D.sl 5 l17, D.sl 4 l18, D.sl 1 l19, D.sl 1 l20, D.sl 1 l21, D.sl 2 l22], n2.toNat = n2.toNat, 0 ≤ n2, n2 < (↑((l4.set n2.toNat [D.sl 5 l13, D.sl 5 l6, D.sl 5 l7, D.sl 4 l8, D.sl 1 l9, D.sl 1 l10, D.sl 1 l11, D.sl 2 l12]).set n2.toNat [D.sl 5 l15, D.sl 5 l23, D.sl 5 l17, D.sl 4 l18, D.sl 1 l19, D.sl 1 l20, D.sl 1 l21, D.sl 2 l22]).length : Int), ((l4.set n2.toNat [D.sl 5 l13, D.sl 5 l6, D.sl 5 l7, D.sl 4 l8, D.sl 1 l9, D.sl 1 l10, D.sl 1 l11, D.sl 2 l12]).set n2.toNat [D.sl 5 l15, D.sl 5 l23, D.sl 5 l17, D.sl 4 l18, D.sl 1 l19, D.sl 1 l20, D.sl 1 l21, D.sl 2 l22])[n2.toNat]? = some [D.sl 5 l25, D.sl 5 l26, D.sl 5 l27, D.sl 4 l28, D.sl 1 l29, D.sl 1 l30, D.sl 1 l31, D.sl 2 l32], RetG Tryz.prog 14 [GA.one (GC.gv 5 l27 (some l33)), GA.one (GC.ro (I n24))] [AD.one (I n34)], ((l4.set n2.toNat [D.sl 5 l13, D.sl 5 l6, D.sl 5 l7, D.sl 4 l8, D.sl 1 l9, D.sl 1 l10, D.sl 1 l11, D.sl 2 l12]).set n2.toNat [D.sl 5 l15, D.sl 5 l23, D.sl 5 l17, D.sl 4 l18, D.sl 1 l19, D.sl 1 l20, D.sl 1 l21, D.sl 2 l22])[n2.toNat]? = some [D.sl 5 l25, D.sl 5 l26, D.sl 5 l27, D.sl 4 l28, D.sl 1 l29, D.sl 1 l30, D.sl 1 l31, D.sl 2 l32], n2.toNat = n2.toNat, 0 ≤ n2, n2 < (↑(((l4.set n2.toNat [D.sl 5 l13, D.sl 5 l6, D.sl 5 l7, D.sl 4 l8, D.sl 1 l9, D.sl 1 l10, D.sl 1 l11, D.sl 2 l12]).set n2.toNat [D.sl 5 l15, D.sl 5 l23, D.sl 5 l17, D.sl 4 l18, D.sl 1 l19, D.sl 1 l20, D.sl 1 l21, D.sl 2 l22]).set n2.toNat [D.sl 5 l25, D.sl 5 l26, D.sl 5 l33, D.sl 4 l28, D.sl 1 l29, D.sl 1 l30, D.sl 1 l31, D.sl 2 l32]).length : Int), (((l4.set n2.toNat [D.sl 5 l13, D.sl 5 l6, D.sl 5 l7, D.sl 4 l8, D.sl 1 l9, D.sl 1 l10, D.sl 1 l11, D.sl 2 l12]).set n2.toNat [D.sl 5 l15, D.sl 5 l23, D.sl 5 l17, D.sl 4 l18, D.sl 1 l19, D.sl 1 l20, D.sl 1 l21, D.sl 2 l22]).set n2.toNat [D.sl 5 l25, D.sl 5 l26, D.sl 5 l33, D.sl 4 l28, D.sl 1 l29, D.sl 1 l30, D.sl 1 l31, D.sl 2 l32])[n2.toNat]? = some [D.sl 5 l35, D.sl 5 l36, D.sl 5 l37, D.sl 4 l38, D.sl 1 l39, D.sl 1 l40, D.sl 1 l41, D.sl 2 l42], RetG Tryz.prog 79 [GA.one (GC.gv 4 l38 (some l43)), GA.one (GC.ro (I n34))] [AD.one (I n44)], (((l4.set n2.toNat [D.sl 5 l13, D.sl 5 l6, D.sl 5 l7, D.sl 4 l8, D.sl 1 l9, D.sl 1 l10, D.sl 1 l11, D.sl 2 l12]).set n2.toNat [D.sl 5 l15, D.sl 5 l23, D.sl 5 l17, D.sl 4 l18, D.sl 1 l19, D.sl 1 l20, D.sl 1 l21, D.sl 2 l22]).set n2.toNat [D.sl 5 l25, D.sl 5 l26, D.sl 5 l33, D.sl 4 l28, D.sl 1 l29, D.sl 1 l30, D.sl 1 l31, D.sl 2 l32])[n2.toNat]? = some [D.sl 5 l35, D.sl 5 l36, D.sl 5 l37, D.sl 4 l38, D.sl 1 l39, D.sl 1 l40, D.sl 1 l41, D.sl 2 l42], n2.toNat = n2.toNat, 0 ≤ n2, n2 < (↑((((l4.set n2.toNat [D.sl 5 l13, D.sl 5 l6, D.sl 5 l7, D.sl 4 l8, D.sl 1 l9, D.sl 1 l10, D.sl 1 l11, D.sl 2 l12]).set n2.toNat [D.sl 5 l15, D.sl 5 l23, D.sl 5 l17, D.sl 4 l18, D.sl 1 l19, D.sl 1 l20, D.sl 1 l21, D.sl 2 l22]).set n2.toNat [D.sl 5 l25, D.sl 5 l26, D.sl 5 l33, D.sl 4 l28, D.sl 1 l29, D.sl 1 l30, D.sl 1 l31, D.sl 2 l32]).set n2.toNat [D.sl 5 l35, D.sl 5 l36, D.sl 5 l37, D.sl 4 l43, D.sl 1 l39, D.sl 1 l40, D.sl 1 l41, D.sl 2 l42]).length : Int), ((((l4.set n2.toNat [D.sl 5 l13, D.sl 5 l6, D.sl 5 l7, D.sl 4 l8, D.sl 1 l9, D.sl 1 l10, D.sl 1 l11, D.sl 2 l12]).set n2.toNat [D.sl 5 l15, D.sl 5 l23, D.sl 5 l17, D.sl 4 l18, D.sl 1 l19, D.sl 1 l20, D.sl 1 l21, D.sl 2 l22]).set n2.toNat [D.sl 5 l25, D.sl 5 l26, D.sl 5 l33, D.sl 4 l28, D.sl 1 l29, D.sl 1 l30, D.sl 1 l31, D.sl 2 l32]).set n2.toNat [D.sl 5 l35, D.sl 5 l36, D.sl 5 l37, D.sl 4 l43, D.sl 1 l39, D.sl 1 l40, D.sl 1 l41, D.sl 2 l42])[n2.toNat]? = some [D.sl 5 l45, D.sl 5 l46, D.sl 5 l47, D.sl 4 l48, D.sl 1 l49, D.sl 1 l50, D.sl 1 l51, D.sl 2 l52], RetG Tryz.prog 80 [GA.one (GC.gv 1 l49 (some l53)), GA.one (GC.ro (I n44))] [AD.one (I n54)], ((((l4.set n2.toNat [D.sl 5 l13, D.sl 5 l6, D.sl 5 l7, D.sl 4 l8, D.sl 1 l9, D.sl 1 l10, D.sl 1 l11, D.sl 2 l12]).set n2.toNat [D.sl 5 l15, D.sl 5 l23, D.sl 5 l17, D.sl 4 l18, D.sl 1 l19, D.sl 1 l20, D.sl 1 l21, D.sl 2 l22]).set n2.toNat [D.sl 5 l25, D.sl 5 l26, D.sl 5 l33, D.sl 4 l28, D.sl 1 l29, D.sl 1 l30, D.sl 1 l31, D.sl 2 l32]).set n2.toNat [D.sl 5 l35, D.sl 5 l36, D.sl 5 l37, D.sl 4 l43, D.sl 1 l39, D.sl 1 l40, D.sl 1 l41, D.sl 2 l42])[n2.toNat]? = some [D.sl 5 l45, D.sl 5 l46, D.sl 5 l47, D.sl 4 l48, D.sl 1 l49, D.sl 1 l50, D.sl 1 l51, D.sl 2 l52], n2.toNat = n2.toNat, 0 ≤ n2, n2 < (↑(((((l4.set n2.toNat [D.sl 5 l13, D.sl 5 l6, D.sl 5 l7, D.sl 4 l8, D.sl 1 l9, D.sl 1 l10, D.sl 1 l11, D.sl 2 l12]).set n2.toNat [D.sl 5 l15, D.sl 5 l23, D.sl 5 l17, D.sl 4 l18, D.sl 1 l19, D.sl 1 l20, D.sl 1 l21, D.sl 2 l22]).set n2.toNat [D.sl 5 l25, D.sl 5 l26, D.sl 5 l33, D.sl 4 l28, D.sl 1 l29, D.sl 1 l30, D.sl 1 l31, D.sl 2 l32]).set n2.toNat [D.sl 5 l35, D.sl 5 l36, D.sl 5 l37, D.sl 4 l43, D.sl 1 l39, D.sl 1 l40, D.sl 1 l41, D.sl 2 l42]).set n2.toNat [D.sl 5 l45, D.sl 5 l46, D.sl 5 l47, D.sl 4 l48, D.sl 1 l53, D.sl 1 l50, D.sl 1 l51, D.sl 2 l52]).length : Int), (((((l4.set n2.toNat [D.sl 5 l13, D.sl 5 l6, D.sl 5 l7, D.sl 4 l8, D.sl 1 l9, D.sl 1 l10, D.sl 1 l11, D.sl 2 l12]).set n2.toNat [D.sl 5 l15, D.sl 5 l23, D.sl 5 l17, D.sl 4 l18, D.sl 1 l19, D.sl 1 l20, D.sl 1 l21, D.sl 2 l22]).set n2.toNat [D.sl 5 l25, D.sl 5 l26, D.sl 5 l33, D.sl 4 l28, D.sl 1 l29, D.sl 1 l30, D.sl 1 l31, D.sl 2 l32]).set n2.toNat [D.sl 5 l35, D.sl 5 l36, D.sl 5 l37, D.sl 4 l43, D.sl 1 l39, D.sl 1 l40, D.sl 1 l41, D.sl 2 l42]).set n2.toNat [D.sl 5 l45, D.sl 5 l46, D.sl 5 l47, D.sl 4 l48, D.sl 1 l53, D.sl 1 l50, D.sl 1 l51, D.sl 2 l52])[n2.toNat]? = some [D.sl 5 l55, D.sl 5 l56, D.sl 5 l57, D.sl 4 l58, D.sl 1 l59, D.sl 1 l60, D.sl 1 l61, D.sl 2 l62], RetG Tryz.prog 81 [GA.one (GC.gv 1 l60 (some l63)), GA.one (GC.ro (I n54))] [AD.one (I n64)], (((((l4.set n2.toNat [D.sl 5 l13, D.sl 5 l6, D.sl 5 l7, D.sl 4 l8, D.sl 1 l9, D.sl 1 l10, D.sl 1 l11, D.sl 2 l12]).set n2.toNat [D.sl 5 l15, D.sl 5 l23, D.sl 5 l17, D.sl 4 l18, D.sl 1 l19, D.sl 1 l20, D.sl 1 l21, D.sl 2 l22]).set n2.toNat [D.sl 5 l25, D.sl 5 l26, D.sl 5 l33, D.sl 4 l28, D.sl 1 l29, D.sl 1 l30, D.sl 1 l31, D.sl 2 l32]).set n2.toNat [D.sl 5 l35, D.sl 5 l36, D.sl 5 l37, D.sl 4 l43, D.sl 1 l39, D.sl 1 l40, D.sl 1 l41, D.sl 2 l42]).set n2.toNat [D.sl 5 l45, D.sl 5 l46, D.sl 5 l47, D.sl 4 l48, D.sl 1 l53, D.sl 1 l50, D.sl 1 l51, D.sl 2 l52])[n2.toNat]? = some [D.sl 5 l55, D.sl 5 l56, D.sl 5 l57, D.sl 4 l58, D.sl 1 l59, D.sl 1 l60, D.sl 1 l61, D.sl 2 l62], n2.toNat = n2.toNat, 0 ≤ n2, n2 < (↑((((((l4.set n2.toNat [D.sl 5 l13, D.sl 5 l6, D.sl 5 l7, D.sl 4 l8, D.sl 1 l9, D.sl 1 l10, D.sl 1 l11, D.sl 2 l12]).set n2.toNat [D.sl 5 l15, D.sl 5 l23, D.sl 5 l17, D.sl 4 l18, D.sl 1 l19, D.sl 1 l20, D.sl 1 l21, D.sl 2 l22]).set n2.toNat [D.sl 5 l25, D.sl 5 l26, D.sl 5 l33, D.sl 4 l28, D.sl 1 l29, D.sl 1 l30, D.sl 1 l31, D.sl 2 l32]).set n2.toNat [D.sl 5 l35, D.sl 5 l36, D.sl 5 l37, D.sl 4 l43, D.sl 1 l39, D.sl 1 l40, D.sl 1 l41, D.sl 2 l42]).set n2.toNat [D.sl 5 l45, D.sl 5 l46, D.sl 5 l47, D.sl 4 l48, D.sl 1 l53, D.sl 1 l50, D.sl 1 l51, D.sl 2 l52]).set n2.toNat [D.sl 5 l55, D.sl 5 l56, D.sl 5 l57, D.sl 4 l58, D.sl 1 l59, D.sl 1 l63, D.sl 1 l61, D.sl 2 l62]).length : Int), ((((((l4.set n2.toNat [D.sl 5 l13, D.sl 5 l6, D.sl 5 l7, D.sl 4 l8, D.sl 1 l9, D.sl 1 l10, D.sl 1 l11, D.sl 2 l12]).set n2.toNat [D.sl 5 l15, D.sl 5 l23, D.sl 5 l17, D.sl 4 l18, D.sl 1 l19, D.sl 1 l20, D.sl 1 l21, D.sl 2 l22]).set n2.toNat [D.sl 5 l25, D.sl 5 l26, D.sl 5 l33, D.sl 4 l28, D.sl 1 l29, D.sl 1 l30, D.sl 1 l31, D.sl 2 l32]).set n2.toNat [D.sl 5 l35, D.sl 5 l36, D.sl 5 l37, D.sl 4 l43, D.sl 1 l39, D.sl 1 l40, D.sl 1 l41, D.sl 2 l42]).set n2.toNat [D.sl 5 l45, D.sl 5 l46, D.sl 5 l47, D.sl 4 l48, D.sl 1 l53, D.sl 1 l50, D.sl 1 l51, D.sl 2 l52]).set n2.toNat [D.sl 5 l55, D.sl 5 l56, D.sl 5 l57, D.sl 4 l58, D.sl 1 l59, D.sl 1 l63, D.sl 1 l61, D.sl 2 l62])[n2.toNat]? = some [D.sl 5 l65, D.sl 5 l66, D.sl 5 l67, D.sl 4 l68, D.sl 1 l69, D.sl 1 l70, D.sl 1 l71, D.sl 2 l72], RetG Tryz.prog 81 [GA.one (GC.gv 1 l71 (some l73)), GA.one (GC.ro (I n64))] [AD.one (I n74)], ((((((l4.set n2.toNat [D.sl 5 l13, D.sl 5 l6, D.sl 5 l7, D.sl 4 l8, D.sl 1 l9, D.sl 1 l10, D.sl 1 l11, D.sl 2 l12]).set n2.toNat [D.sl 5 l15, D.sl 5 l23, D.sl 5 l17, D.sl 4 l18, D.sl 1 l19, D.sl 1 l20, D.sl 1 l21, D.sl 2 l22]).set n2.toNat [D.sl 5 l25, D.sl 5 l26, D.sl 5 l33, D.sl 4 l28, D.sl 1 l29, D.sl 1 l30, D.sl 1 l31, D.sl 2 l32]).set n2.toNat [D.sl 5 l35, D.sl 5 l36, D.sl 5 l37, D.sl 4 l43, D.sl 1 l39, D.sl 1 l40, D.sl 1 l41, D.sl 2 l42]).set n2.toNat [D.sl 5 l45, D.sl 5 l46, D.sl 5 l47, D.sl 4 l48, D.sl 1 l53, D.sl 1 l50, D.sl 1 l51, D.sl 2 l52]).set n2.toNat [D.sl 5 l55, D.sl 5 l56, D.sl 5 l57, D.sl 4 l58, D.sl 1 l59, D.sl 1 l63, D.sl 1 l61, D.sl 2 l62])[n2.toNat]? = some [D.sl 5 l65, D.sl 5 l66, D.sl 5 l67, D.sl 4 l68, D.sl 1 l69, D.sl 1 l70, D.sl 1 l71, D.sl 2 l72], n2.toNat = n2.toNat, 0 ≤ n2, n2 < (↑(((((((l4.set n2.toNat [D.sl 5 l13, D.sl 5 l6, D.sl 5 l7, D.sl 4 l8, D.sl 1 l9, D.sl 1 l10, D.sl 1 l11, D.sl 2 l12]).set n2.toNat [D.sl 5 l15, D.sl 5 l23, D.sl 5 l17, D.sl 4 l18, D.sl 1 l19, D.sl 1 l20, D.sl 1 l21, D.sl 2 l22]).set n2.toNat [D.sl 5 l25, D.sl 5 l26, D.sl 5 l33, D.sl 4 l28, D.sl 1 l29, D.sl 1 l30, D.sl 1 l31, D.sl 2 l32]).set n2.toNat [D.sl 5 l35, D.sl 5 l36, D.sl 5 l37, D.sl 4 l43, D.sl 1 l39, D.sl 1 l40, D.sl 1 l41, D.sl 2 l42]).set n2.toNat [D.sl 5 l45, D.sl 5 l46, D.sl 5 l47, D.sl 4 l48, D.sl 1 l53, D.sl 1 l50, D.sl 1 l51, D.sl 2 l52]).set n2.toNat [D.sl 5 l55, D.sl 5 l56, D.sl 5 l57, D.sl 4 l58, D.sl 1 l59, D.sl 1 l63, D.sl 1 l61, D.sl 2 l62]).set n2.toNat [D.sl 5 l65, D.sl 5 l66, D.sl 5 l67, D.sl 4 l68, D.sl 1 l69, D.sl 1 l70, D.sl 1 l73, D.sl 2 l72]).length : Int), (((((((l4.set n2.toNat [D.sl 5 l13, D.sl 5 l6, D.sl 5 l7, D.sl 4 l8, D.sl 1 l9, D.sl 1 l10, D.sl 1 l11, D.sl 2 l12]).set n2.toNat [D.sl 5 l15, D.sl 5 l23, D.sl 5 l17, D.sl 4 l18, D.sl 1 l19, D.sl 1 l20, D.sl 1 l21, D.sl 2 l22]).set n2.toNat [D.sl 5 l25, D.sl 5 l26, D.sl 5 l33, D.sl 4 l28, D.sl 1 l29, D.sl 1 l30, D.sl 1 l31, D.sl 2 l32]).set n2.toNat [D.sl 5 l35, D.sl 5 l36, D.sl 5 l37, D.sl 4 l43, D.sl 1 l39, D.sl 1 l40, D.sl 1 l41, D.sl 2 l42]).set n2.toNat [D.sl 5 l45, D.sl 5 l46, D.sl 5 l47, D.sl 4 l48, D.sl 1 l53, D.sl 1 l50, D.sl 1 l51, D.sl 2 l52]).set n2.toNat [D.sl 5 l55, D.sl 5 l56, D.sl 5 l57, D.sl 4 l58, D.sl 1 l59, D.sl 1 l63, D.sl 1 l61, D.sl 2 l62]).set n2.toNat [D.sl 5 l65, D.sl 5 l66, D.sl 5 l67, D.sl 4 l68, D.sl 1 l69, D.sl 1 l70, D.sl 1 l73, D.sl 2 l72])[n2.toNat]? = some [D.sl 5 l75, D.sl 5 l76, D.sl 5 l77, D.sl 4 l78, D.sl 1 l79, D.sl 1 l80, D.sl 1 l81, D.sl 2 l82], RetG Tryz.prog 82 [GA.one (GC.gv 2 l82 (some l83)), GA.one (GC.ro (I n74))] [AD.one (I n84)], (((((((l4.set n2.toNat [D.sl 5 l13, D.sl 5 l6, D.sl 5 l7, D.sl 4 l8, D.sl 1 l9, D.sl 1 l10, D.sl 1 l11, D.sl 2 l12]).set n2.toNat [D.sl 5 l15, D.sl 5 l23, D.sl 5 l17, D.sl 4 l18, D.sl 1 l19, D.sl 1 l20, D.sl 1 l21, D.sl 2 l22]).set n2.toNat [D.sl 5 l25, D.sl 5 l26, D.sl 5 l33, D.sl 4 l28, D.sl 1 l29, D.sl 1 l30, D.sl 1 l31, D.sl 2 l32]).set n2.toNat [D.sl 5 l35, D.sl 5 l36, D.sl 5 l37, D.sl 4 l43, D.sl 1 l39, D.sl 1 l40, D.sl 1 l41, D.sl 2 l42]).set n2.toNat [D.sl 5 l45, D.sl 5 l46, D.sl 5 l47, D.sl 4 l48, D.sl 1 l53, D.sl 1 l50, D.sl 1 l51, D.sl 2 l52]).set n2.toNat [D.sl 5 l55, D.sl 5 l56, D.sl 5 l57, D.sl 4 l58, D.sl 1 l59, D.sl 1 l63, D.sl 1 l61, D.sl 2 l62]).set n2.toNat [D.sl 5 l65, D.sl 5 l66, D.sl 5 l67, D.sl 4 l68, D.sl 1 l69, D.sl 1 l70, D.sl 1 l73, D.sl 2 l72])[n2.toNat]? = some [D.sl 5 l75, D.sl 5 l76, D.sl 5 l77, D.sl 4 l78, D.sl 1 l79, D.sl 1 l80, D.sl 1 l81, D.sl 2 l82], n2.toNat = n2.toNat, inInt IntKind.i64 (n2 + 1)]) :
    Tr Tryz.prog (loopOf Tryz.f44 0) (laws_markWorkerS_L0 n2 n3 l4) Ex.normal (laws_markWorkerS_L0 (n2 + 1) n84 ((((((((l4.set n2.toNat [D.sl 5 l13, D.sl 5 l6, D.sl 5 l7, D.sl 4 l8, D.sl 1 l9, D.sl 1 l10, D.sl 1 l11, D.sl 2 l12]).set n2.toNat [D.sl 5 l15, D.sl 5 l23, D.sl 5 l17, D.sl 4 l18, D.sl 1 l19, D.sl 1 l20, D.sl 1 l21, D.sl 2 l22]).set n2.toNat [D.sl 5 l25, D.sl 5 l26, D.sl 5 l33, D.sl 4 l28, D.sl 1 l29, D.sl 1 l30, D.sl 1 l31, D.sl 2 l32]).set n2.toNat [D.sl 5 l35, D.sl 5 l36, D.sl 5 l37, D.sl 4 l43, D.sl 1 l39, D.sl 1 l40, D.sl 1 l41, D.sl 2 l42]).set n2.toNat [D.sl 5 l45, D.sl 5 l46, D.sl 5 l47, D.sl 4 l48, D.sl 1 l53, D.sl 1 l50, D.sl 1 l51, D.sl 2 l52]).set n2.toNat [D.sl 5 l55, D.sl 5 l56, D.sl 5 l57, D.sl 4 l58, D.sl 1 l59, D.sl 1 l63, D.sl 1 l61, D.sl 2 l62]).set n2.toNat [D.sl 5 l65, D.sl 5 l66, D.sl 5 l67, D.sl 4 l68, D.sl 1 l69, D.sl 1 l70, D.sl 1 l73, D.sl 2 l72]).set n2.toNat [D.sl 5 l75, D.sl 5 l76, D.sl 5 l77, D.sl 4 l78, D.sl 1 l79, D.sl 1 l80, D.sl 1 l81, D.sl 2 l83])) :=
  .of_loopc (ks := [5, 0, 1]) (bs := []) (ans := [Ans.br true, Ans.sub, Ans.el [D.sl 5 l5, D.sl 5 l6, D.sl 5 l7, D.sl 4 l8, D.sl 1 l9, D.sl 1 l10, D.sl 1 l11, D.sl 2 l12], Ans.resG [[some (some l13)], [none]] 0 [D.sl 5 l5, D.sl 5 l6, D.sl 5 l7, D.sl 4 l8, D.sl 1 l9, D.sl 1 l10, D.sl 1 l11, D.sl 2 l12] [AD.one (I n14)], Ans.sub, Ans.el [D.sl 5 l15, D.sl 5 l16, D.sl 5 l17, D.sl 4 l18, D.sl 1 l19, D.sl 1 l20, D.sl 1 l21, D.sl 2 l22], Ans.resG [[some (some l23)], [none]] 0 [D.sl 5 l15, D.sl 5 l16, D.sl 5 l17, D.sl 4 l18, D.sl 1 l19, D.sl 1 l20, D.sl 1 l21, D.sl 2 l22] [AD.one (I n24)], Ans.sub, Ans.el [D.sl 5 l25, D.sl 5 l26, D.sl 5 l27, D.sl 4 l28, D.sl 1 l29, D.sl 1 l30, D.sl 1 l31, D.sl 2 l32], Ans.resG [[some (some l33)], [none]] 0 [D.sl 5 l25, D.sl 5 l26, D.sl 5 l27, D.sl 4 l28, D.sl 1 l29, D.sl 1 l30, D.sl 1 l31, D.sl 2 l32] [AD.one (I n34)], Ans.sub, Ans.el [D.sl 5 l35, D.sl 5 l36, D.sl 5 l37, D.sl 4 l38, D.sl 1 l39, D.sl 1 l40, D.sl 1 l41, D.sl 2 l42], Ans.resG [[some (some l43)], [none]] 0 [D.sl 5 l35, D.sl 5 l36, D.sl 5 l37, D.sl 4 l38, D.sl 1 l39, D.sl 1 l40, D.sl 1 l41, D.sl 2 l42] [AD.one (I n44)], Ans.sub, Ans.el [D.sl 5 l45, D.sl 5 l46, D.sl 5 l47, D.sl 4 l48, D.sl 1 l49, D.sl 1 l50, D.sl 1 l51, D.sl 2 l52], Ans.resG [[some (some l53)], [none]] 0 [D.sl 5 l45, D.sl 5 l46, D.sl 5 l47, D.sl 4 l48, D.sl 1 l49, D.sl 1 l50, D.sl 1 l51, D.sl 2 l52] [AD.one (I n54)], Ans.sub, Ans.el [D.sl 5 l55, D.sl 5 l56, D.sl 5 l57, D.sl 4 l58, D.sl 1 l59, D.sl 1 l60, D.sl 1 l61, D.sl 2 l62], Ans.resG [[some (some l63)], [none]] 0 [D.sl 5 l55, D.sl 5 l56, D.sl 5 l57, D.sl 4 l58, D.sl 1 l59, D.sl 1 l60, D.sl 1 l61, D.sl 2 l62] [AD.one (I n64)], Ans.sub, Ans.el [D.sl 5 l65, D.sl 5 l66, D.sl 5 l67, D.sl 4 l68, D.sl 1 l69, D.sl 1 l70, D.sl 1 l71, D.sl 2 l72], Ans.resG [[some (some l73)], [none]] 0 [D.sl 5 l65, D.sl 5 l66, D.sl 5 l67, D.sl 4 l68, D.sl 1 l69, D.sl 1 l70, D.sl 1 l71, D.sl 2 l72] [AD.one (I n74)], Ans.sub, Ans.el [D.sl 5 l75, D.sl 5 l76, D.sl 5 l77, D.sl 4 l78, D.sl 1 l79, D.sl 1 l80, D.sl 1 l81, D.sl 2 l82], Ans.resG [[some (some l83)], [none]] 0 [D.sl 5 l75, D.sl 5 l76, D.sl 5 l77, D.sl 4 l78, D.sl 1 l79, D.sl 1 l80, D.sl 1 l81, D.sl 2 l82] [AD.one (I n84)]]) (by kernel_rfl) h

def laws_markWorkerS_X0 (n0 : Int) (l1 : List (List D)) : St :=
  { env := envOf 69 [(0, PV.al (AL.one (Leaf.sl (Tag.own 1000000000) 8 l1))), (1, PV.al (AL.one (Leaf.v (Value.int IntKind.i64 n0))))], boxes := [] }

theorem laws_markWorkerS_L0_x1 (n2 : Int) (n3 : Int) (l4 : List (List D))
    (h : Obs [decide (n2 < (↑l4.length : Int)) = false]) :
    Tr Tryz.prog (loopOf Tryz.f44 0) (laws_markWorkerS_L0 n2 n3 l4) (Ex.exit 0) (laws_markWorkerS_X0 n3 l4) :=
  .of_loopc (ks := [1, 0]) (bs := []) (ans := [Ans.br false]) (by kernel_rfl) h

theorem laws_markWorkerS_p0 (l0 : List (List D)) (n1 : Int) (n2 : Int) (l3 : List (List D))
    (h : Obs [LoopOk Tryz.prog (loopOf Tryz.f44 0) (laws_markWorkerS_L0 0 n1 l0) (Ex.exit 0) (laws_markWorkerS_X0 n2 l3)]) :
    RetG Tryz.prog 44 [GA.one (GC.gv 8 l0 (some l3)), GA.one (GC.ro (I n1))] [AD.one (I n2)] :=
  .of [Ans.loop [] [5, 0, 1] [] (Ex.exit 0) (laws_markWorkerS_X0 n2 l3)] _ Tryz.func44 rfl (by kernel_rfl) h

/- loop.example/g00973/laws.markGraph -/

theorem laws_markGraph_p0 (l0 : List (List D)) (n1 : Int) (n2 : Int) (n3 : Int) (l4 : List (List D)) (n5 : Int)
    (h : Obs [RetG Tryz.prog 78 [GA.one (GC.gv 4 l0 (some l4)), GA.one (GC.ro (I n3))] [AD.one (I n5)]]) :
    RetG Tryz.prog 43 [GA.agg [GC.gv 4 l0 (some l4), GC.ro (I n1), GC.ro (I n2)], GA.one (GC.ro (I n3))] [AD.one (I n5)] :=
  .of [Ans.resG [[some (some l4)], [none]] 0 [] [AD.one (I n5)]] _ Tryz.func43 rfl (by kernel_rfl) h

/- loop.example/g00973/laws.markCluster -/

theorem laws_markCluster_p0 (l0 : List (List D)) (n1 : Int) (n2 : Int) (l3 : List (List D)) (l4 : List (List D)) (l5 : List (List D)) (l6 : List (List D)) (n7 : Int) (l8 : List (List D)) (n9 : Int) (l10 : List (List D)) (n11 : Int) (l12 : List (List D)) (n13 : Int) (l14 : List (List D)) (n15 : Int) (l16 : List (List D)) (n17 : Int)
    (h : Obs [RetG Tryz.prog 43 [GA.agg [GC.gv 4 l0 (some l8), GC.ro (I n1), GC.ro (I n2)], GA.one (GC.ro (I n7))] [AD.one (I n9)], RetG Tryz.prog 44 [GA.one (GC.gv 8 l3 (some l10)), GA.one (GC.ro (I n9))] [AD.one (I n11)], RetG Tryz.prog 45 [GA.one (GC.gv 6 l4 (some l12)), GA.one (GC.ro (I n11))] [AD.one (I n13)], RetG Tryz.prog 46 [GA.one (GC.gv 5 l5 (some l14)), GA.one (GC.ro (I n13))] [AD.one (I n15)], RetG Tryz.prog 47 [GA.one (GC.gv 3 l6 (some l16)), GA.one (GC.ro (I n15))] [AD.one (I n17)]]) :
    RetG Tryz.prog 13 [GA.agg [GC.gv 4 l0 (some l8), GC.ro (I n1), GC.ro (I n2), GC.gv 8 l3 (some l10), GC.gv 6 l4 (some l12), GC.gv 5 l5 (some l14), GC.gv 3 l6 (some l16)], GA.one (GC.ro (I n7))] [AD.one (I n17)] :=
  .of [Ans.resG [[some (some l8), none, none], [none]] 0 [] [AD.one (I n9)], Ans.resG [[some (some l10)], [none]] 0 [] [AD.one (I n11)], Ans.resG [[some (some l12)], [none]] 0 [] [AD.one (I n13)], Ans.resG [[some (some l14)], [none]] 0 [] [AD.one (I n15)], Ans.resG [[some (some l16)], [none]] 0 [] [AD.one (I n17)]] _ Tryz.func13 rfl (by kernel_rfl) h

/- loop.example/g00973/laws.markStampS -/

def laws_markStampS_L0 (n0 : Int) (n1 : Int) (l2 : List (List D)) : St :=
  { env := envOf 27 [(0, PV.al (AL.one (Leaf.sl (Tag.own 1000000000) 2 l2))), (1, PV.al (AL.one (Leaf.v (Value.int IntKind.i64 n1)))), (5, PV.al (AL.one (Leaf.v (Value.int IntKind.i64 n0))))], boxes := [] }

theorem laws_markStampS_L0_s0 (n2 : Int) (n3 : Int) (l4 : List (List D)) (d5 : D) (d6 : D) (d7 : D) (d8 : D)
    (h : Obs [decide (n2 < (↑l4.length : Int)) = true, 0 ≤ n2, n2 < (↑l4.length : Int), l4[n2.toNat]? = some [d5, d6], inInt IntKind.i64 (n3 + 1), 0 ≤ n2, n2 < (↑(l4.set n2.toNat [I n3, d6]).length : Int), (l4.set n2.toNat [I n3, d6])[n2.toNat]? = some [d7, d8], inInt IntKind.i64 (n3 + 1 + 1), inInt IntKind.i64 (n2 + 1)]) :
    Tr Tryz.prog (loopOf Tryz.f21 0) (laws_markStampS_L0 n2 n3 l4) Ex.normal (laws_markStampS_L0 (n2 + 1) (n3 + 1 + 1) ((l4.set n2.toNat [I n3, d6]).set n2.toNat [d7, I (n3 + 1)])) :=
  .of_loopc (ks := [5, 0, 1]) (bs := []) (ans := [Ans.br true, Ans.el [d5, d6], Ans.el [d7, d8]]) (by kernel_rfl) h

def laws_markStampS_X0 (n0 : Int) (l1 : List (List D)) : St :=
  { env := envOf 27 [(0, PV.al (AL.one (Leaf.sl (Tag.own 1000000000) 2 l1))), (1, PV.al (AL.one (Leaf.v (Value.int IntKind.i64 n0))))], boxes := [] }

theorem laws_markStampS_L0_x1 (n2 : Int) (n3 : Int) (l4 : List (List D))
    (h : Obs [decide (n2 < (↑l4.length : Int)) = false]) :
    Tr Tryz.prog (loopOf Tryz.f21 0) (laws_markStampS_L0 n2 n3 l4) (Ex.exit 0) (laws_markStampS_X0 n3 l4) :=
  .of_loopc (ks := [1, 0]) (bs := []) (ans := [Ans.br false]) (by kernel_rfl) h

theorem laws_markStampS_p0 (l0 : List (List D)) (n1 : Int) (n2 : Int) (l3 : List (List D))
    (h : Obs [LoopOk Tryz.prog (loopOf Tryz.f21 0) (laws_markStampS_L0 0 n1 l0) (Ex.exit 0) (laws_markStampS_X0 n2 l3)]) :
    RetG Tryz.prog 21 [GA.one (GC.gv 2 l0 (some l3)), GA.one (GC.ro (I n1))] [AD.one (I n2)] :=
  .of [Ans.loop [] [5, 0, 1] [] (Ex.exit 0) (laws_markStampS_X0 n2 l3)] _ Tryz.func21 rfl (by kernel_rfl) h

/- loop.example/g00973/laws.heldRecordS -/

def laws_heldRecordS_L0 (l0 : List (List D)) (n1 : Int) (n2 : Int) : St :=
  { env := envOf 60 [(0, PV.al (AL.one (Leaf.sl Tag.free 5 l0))), (1, PV.al (AL.one (Leaf.v (Value.int IntKind.i64 n2)))), (5, PV.al (AL.one (Leaf.v (Value.int IntKind.i64 n1))))], boxes := [] }

def laws_heldRecordS_X0 (n0 : Int) : St :=
  { env := envOf 60 [(4, PV.al (AL.one (Leaf.v (Value.int IntKind.i64 n0))))], boxes := [] }

theorem laws_heldRecordS_L0_x0 (l0 : List (List D)) (n2 : Int) (n3 : Int) (n4 : Int) (n5 : Int) (n6 : Int) (n7 : Int) (n8 : Int)
    (h : Obs [decide (n2 < (↑l0.length : Int)) = true, 0 ≤ n2, n2 < (↑l0.length : Int), l0[n2.toNat]? = some [I n4, I n5, I n6, I n7, I n8], (n4 != n3) = true]) :
    Tr Tryz.prog (loopOf Tryz.f15 0) (laws_heldRecordS_L0 l0 n2 n3) Ex.ret (laws_heldRecordS_X0 (-1)) :=
  .of_loopc (ks := [4]) (bs := []) (ans := [Ans.br true, Ans.el [I n4, I n5, I n6, I n7, I n8], Ans.br true]) (by kernel_rfl) h

theorem laws_heldRecordS_L0_x1 (l0 : List (List D)) (n2 : Int) (n3 : Int) (n4 : Int) (n5 : Int) (n6 : Int) (n7 : Int) (n8 : Int) (n9 : Int) (n10 : Int) (n11 : Int) (n12 : Int) (n13 : Int)
    (h : Obs [decide (n2 < (↑l0.length : Int)) = true, 0 ≤ n2, n2 < (↑l0.length : Int), l0[n2.toNat]? = some [I n4, I n5, I n6, I n7, I n8], (n4 != n3) = false, inInt IntKind.i64 (n3 + 1), 0 ≤ n2, n2 < (↑l0.length : Int), l0[n2.toNat]? = some [I n9, I n10, I n11, I n12, I n13], (n10 != n3 + 1) = true]) :
    Tr Tryz.prog (loopOf Tryz.f15 0) (laws_heldRecordS_L0 l0 n2 n3) Ex.ret (laws_heldRecordS_X0 (-1)) :=
  .of_loopc (ks := [4]) (bs := []) (ans := [Ans.br true, Ans.el [I n4, I n5, I n6, I n7, I n8], Ans.br false, Ans.el [I n9, I n10, I n11, I n12, I n13], Ans.br true]) (by kernel_rfl) h

theorem laws_heldRecordS_L0_x2 (l0 : List (List D)) (n2 : Int) (n3 : Int) (n4 : Int) (n5 : Int) (n6 : Int) (n7 : Int) (n8 : Int) (n9 : Int) (n10 : Int) (n11 : Int) (n12 : Int) (n13 : Int) (n14 : Int) (n15 : Int) (n16 : Int) (n17 : Int) (n18 : Int)
    (h : Obs [decide (n2 < (↑l0.length : Int)) = true, 0 ≤ n2, n2 < (↑l0.length : Int), l0[n2.toNat]? = some [I n4, I n5, I n6, I n7, I n8], (n4 != n3) = false, inInt IntKind.i64 (n3 + 1), 0 ≤ n2, n2 < (↑l0.length : Int), l0[n2.toNat]? = some [I n9, I n10, I n11, I n12, I n13], (n10 != n3 + 1) = false, inInt IntKind.i64 (n3 + 1 + 1), 0 ≤ n2, n2 < (↑l0.length : Int), l0[n2.toNat]? = some [I n14, I n15, I n16, I n17, I n18], (n16 != n3 + 1 + 1) = true]) :
    Tr Tryz.prog (loopOf Tryz.f15 0) (laws_heldRecordS_L0 l0 n2 n3) Ex.ret (laws_heldRecordS_X0 (-1)) :=
  .of_loopc (ks := [4]) (bs := []) (ans := [Ans.br true, Ans.el [I n4, I n5, I n6, I n7, I n8], Ans.br false, Ans.el [I n9, I n10, I n11, I n12, I n13], Ans.br false, Ans.el [I n14, I n15, I n16, I n17, I n18], Ans.br true]) (by kernel_rfl) h

theorem laws_heldRecordS_L0_x3 (l0 : List (List D)) (n2 : Int) (n3 : Int) (n4 : Int) (n5 : Int) (n6 : Int) (n7 : Int) (n8 : Int) (n9 : Int) (n10 : Int) (n11 : Int) (n12 : Int) (n13 : Int) (n14 : Int) (n15 : Int) (n16 : Int) (n17 : Int) (n18 : Int) (n19 : Int) (n20 : Int) (n21 : Int) (n22 : Int) (n23 : Int)
    (h : Obs [decide (n2 < (↑l0.length : Int)) = true, 0 ≤ n2, n2 < (↑l0.length : Int), l0[n2.toNat]? = some [I n4, I n5, I n6, I n7, I n8], (n4 != n3) = false, inInt IntKind.i64 (n3 + 1), 0 ≤ n2, n2 < (↑l0.length : Int), l0[n2.toNat]? = some [I n9, I n10, I n11, I n12, I n13], (n10 != n3 + 1) = false, inInt IntKind.i64 (n3 + 1 + 1), 0 ≤ n2, n2 < (↑l0.length : Int), l0[n2.toNat]? = some [I n14, I n15, I n16, I n17, I n18], (n16 != n3 + 1 + 1) = false, inInt IntKind.i64 (n3 + 1 + 1 + 1), 0 ≤ n2, n2 < (↑l0.length : Int), l0[n2.toNat]? = some [I n19, I n20, I n21, I n22, I n23], (n22 != n3 + 1 + 1 + 1) = true]) :
    Tr Tryz.prog (loopOf Tryz.f15 0) (laws_heldRecordS_L0 l0 n2 n3) Ex.ret (laws_heldRecordS_X0 (-1)) :=
  .of_loopc (ks := [4]) (bs := []) (ans := [Ans.br true, Ans.el [I n4, I n5, I n6, I n7, I n8], Ans.br false, Ans.el [I n9, I n10, I n11, I n12, I n13], Ans.br false, Ans.el [I n14, I n15, I n16, I n17, I n18], Ans.br false, Ans.el [I n19, I n20, I n21, I n22, I n23], Ans.br true]) (by kernel_rfl) h

theorem laws_heldRecordS_L0_x4 (l0 : List (List D)) (n2 : Int) (n3 : Int) (n4 : Int) (n5 : Int) (n6 : Int) (n7 : Int) (n8 : Int) (n9 : Int) (n10 : Int) (n11 : Int) (n12 : Int) (n13 : Int) (n14 : Int) (n15 : Int) (n16 : Int) (n17 : Int) (n18 : Int) (n19 : Int) (n20 : Int) (n21 : Int) (n22 : Int) (n23 : Int) (n24 : Int) (n25 : Int) (n26 : Int) (n27 : Int) (n28 : Int)
    (h : Obs [decide (n2 < (↑l0.length : Int)) = true, 0 ≤ n2, n2 < (↑l0.length : Int), l0[n2.toNat]? = some [I n4, I n5, I n6, I n7, I n8], (n4 != n3) = false, inInt IntKind.i64 (n3 + 1), 0 ≤ n2, n2 < (↑l0.length : Int), l0[n2.toNat]? = some [I n9, I n10, I n11, I n12, I n13], (n10 != n3 + 1) = false, inInt IntKind.i64 (n3 + 1 + 1), 0 ≤ n2, n2 < (↑l0.length : Int), l0[n2.toNat]? = some [I n14, I n15, I n16, I n17, I n18], (n16 != n3 + 1 + 1) = false, inInt IntKind.i64 (n3 + 1 + 1 + 1), 0 ≤ n2, n2 < (↑l0.length : Int), l0[n2.toNat]? = some [I n19, I n20, I n21, I n22, I n23], (n22 != n3 + 1 + 1 + 1) = false, inInt IntKind.i64 (n3 + 1 + 1 + 1 + 1), 0 ≤ n2, n2 < (↑l0.length : Int), l0[n2.toNat]? = some [I n24, I n25, I n26, I n27, I n28], (n28 != n3 + 1 + 1 + 1 + 1) = true]) :
    Tr Tryz.prog (loopOf Tryz.f15 0) (laws_heldRecordS_L0 l0 n2 n3) Ex.ret (laws_heldRecordS_X0 (-1)) :=
  .of_loopc (ks := [4]) (bs := []) (ans := [Ans.br true, Ans.el [I n4, I n5, I n6, I n7, I n8], Ans.br false, Ans.el [I n9, I n10, I n11, I n12, I n13], Ans.br false, Ans.el [I n14, I n15, I n16, I n17, I n18], Ans.br false, Ans.el [I n19, I n20, I n21, I n22, I n23], Ans.br false, Ans.el [I n24, I n25, I n26, I n27, I n28], Ans.br true]) (by kernel_rfl) h

theorem laws_heldRecordS_L0_s5 (l0 : List (List D)) (n2 : Int) (n3 : Int) (n4 : Int) (n5 : Int) (n6 : Int) (n7 : Int) (n8 : Int) (n9 : Int) (n10 : Int) (n11 : Int) (n12 : Int) (n13 : Int) (n14 : Int) (n15 : Int) (n16 : Int) (n17 : Int) (n18 : Int) (n19 : Int) (n20 : Int) (n21 : Int) (n22 : Int) (n23 : Int) (n24 : Int) (n25 : Int) (n26 : Int) (n27 : Int) (n28 : Int)
    (h : Obs [decide (n2 < (↑l0.length : Int)) = true, 0 ≤ n2, n2 < (↑l0.length : Int), l0[n2.toNat]? = some [I n4, I n5, I n6, I n7, I n8], (n4 != n3) = false, inInt IntKind.i64 (n3 + 1), 0 ≤ n2, n2 < (↑l0.length : Int), l0[n2.toNat]? = some [I n9, I n10, I n11, I n12, I n13], (n10 != n3 + 1) = false, inInt IntKind.i64 (n3 + 1 + 1), 0 ≤ n2, n2 < (↑l0.length : Int), l0[n2.toNat]? = some [I n14, I n15, I n16, I n17, I n18], (n16 != n3 + 1 + 1) = false, inInt IntKind.i64 (n3 + 1 + 1 + 1), 0 ≤ n2, n2 < (↑l0.length : Int), l0[n2.toNat]? = some [I n19, I n20, I n21, I n22, I n23], (n22 != n3 + 1 + 1 + 1) = false, inInt IntKind.i64 (n3 + 1 + 1 + 1 + 1), 0 ≤ n2, n2 < (↑l0.length : Int), l0[n2.toNat]? = some [I n24, I n25, I n26, I n27, I n28], (n28 != n3 + 1 + 1 + 1 + 1) = false, inInt IntKind.i64 (n3 + 1 + 1 + 1 + 1 + 1), inInt IntKind.i64 (n2 + 1)]) :
    Tr Tryz.prog (loopOf Tryz.f15 0) (laws_heldRecordS_L0 l0 n2 n3) Ex.normal (laws_heldRecordS_L0 l0 (n2 + 1) (n3 + 1 + 1 + 1 + 1 + 1)) :=
  .of_loopc (ks := [5, 0, 1]) (bs := []) (ans := [Ans.br true, Ans.el [I n4, I n5, I n6, I n7, I n8], Ans.br false, Ans.el [I n9, I n10, I n11, I n12, I n13], Ans.br false, Ans.el [I n14, I n15, I n16, I n17, I n18], Ans.br false, Ans.el [I n19, I n20, I n21, I n22, I n23], Ans.br false, Ans.el [I n24, I n25, I n26, I n27, I n28], Ans.br false]) (by kernel_rfl) h

def laws_heldRecordS_X0v2 (n0 : Int) : St :=
  { env := envOf 60 [(1, PV.al (AL.one (Leaf.v (Value.int IntKind.i64 n0))))], boxes := [] }

theorem laws_heldRecordS_L0_x6 (l0 : List (List D)) (n2 : Int) (n3 : Int)
    (h : Obs [decide (n2 < (↑l0.length : Int)) = false]) :
    Tr Tryz.prog (loopOf Tryz.f15 0) (laws_heldRecordS_L0 l0 n2 n3) (Ex.exit 0) (laws_heldRecordS_X0v2 n3) :=
  .of_loopc (ks := [1]) (bs := []) (ans := [Ans.br false]) (by kernel_rfl) h

theorem laws_heldRecordS_p0 (l0 : List (List D)) (n1 : Int) (n2 : Int)
    (h : Obs [LoopOk Tryz.prog (loopOf Tryz.f15 0) (laws_heldRecordS_L0 l0 0 n1) Ex.ret (laws_heldRecordS_X0 n2)]) :
    Ret Tryz.prog 15 [AD.one (D.sl 5 l0), AD.one (I n1)] [AD.one (I n2)] :=
  .of [Ans.loop [] [5, 0, 1] [] Ex.ret (laws_heldRecordS_X0 n2)] _ Tryz.func15 rfl (by kernel_rfl) h

theorem laws_heldRecordS_p1 (l0 : List (List D)) (n1 : Int) (n2 : Int)
    (h : Obs [LoopOk Tryz.prog (loopOf Tryz.f15 0) (laws_heldRecordS_L0 l0 0 n1) (Ex.exit 0) (laws_heldRecordS_X0v2 n2)]) :
    Ret Tryz.prog 15 [AD.one (D.sl 5 l0), AD.one (I n1)] [AD.one (I n2)] :=
  .of [Ans.loop [] [5, 0, 1] [] (Ex.exit 0) (laws_heldRecordS_X0v2 n2)] _ Tryz.func15 rfl (by kernel_rfl) h

/- loop.example/g00973/laws.heldStampS -/

def laws_heldStampS_L0 (l0 : List (List D)) (n1 : Int) (n2 : Int) : St :=
  { env := envOf 31 [(0, PV.al (AL.one (Leaf.sl Tag.free 2 l0))), (1, PV.al (AL.one (Leaf.v (Value.int IntKind.i64 n2)))), (5, PV.al (AL.one (Leaf.v (Value.int IntKind.i64 n1))))], boxes := [] }

def laws_heldStampS_X0 (n0 : Int) : St :=
  { env := envOf 31 [(4, PV.al (AL.one (Leaf.v (Value.int IntKind.i64 n0))))], boxes := [] }

theorem laws_heldStampS_L0_x0 (l0 : List (List D)) (n2 : Int) (n3 : Int) (n4 : Int) (n5 : Int)
    (h : Obs [decide (n2 < (↑l0.length : Int)) = true, 0 ≤ n2, n2 < (↑l0.length : Int), l0[n2.toNat]? = some [I n4, I n5], (n4 != n3) = true]) :
    Tr Tryz.prog (loopOf Tryz.f22 0) (laws_heldStampS_L0 l0 n2 n3) Ex.ret (laws_heldStampS_X0 (-1)) :=
  .of_loopc (ks := [4]) (bs := []) (ans := [Ans.br true, Ans.el [I n4, I n5], Ans.br true]) (by kernel_rfl) h

theorem laws_heldStampS_L0_x1 (l0 : List (List D)) (n2 : Int) (n3 : Int) (n4 : Int) (n5 : Int) (n6 : Int) (n7 : Int)
    (h : Obs [decide (n2 < (↑l0.length : Int)) = true, 0 ≤ n2, n2 < (↑l0.length : Int), l0[n2.toNat]? = some [I n4, I n5], (n4 != n3) = false, inInt IntKind.i64 (n3 + 1), 0 ≤ n2, n2 < (↑l0.length : Int), l0[n2.toNat]? = some [I n6, I n7], (n7 != n3 + 1) = true]) :
    Tr Tryz.prog (loopOf Tryz.f22 0) (laws_heldStampS_L0 l0 n2 n3) Ex.ret (laws_heldStampS_X0 (-1)) :=
  .of_loopc (ks := [4]) (bs := []) (ans := [Ans.br true, Ans.el [I n4, I n5], Ans.br false, Ans.el [I n6, I n7], Ans.br true]) (by kernel_rfl) h

theorem laws_heldStampS_L0_s2 (l0 : List (List D)) (n2 : Int) (n3 : Int) (n4 : Int) (n5 : Int) (n6 : Int) (n7 : Int)
    (h : Obs [decide (n2 < (↑l0.length : Int)) = true, 0 ≤ n2, n2 < (↑l0.length : Int), l0[n2.toNat]? = some [I n4, I n5], (n4 != n3) = false, inInt IntKind.i64 (n3 + 1), 0 ≤ n2, n2 < (↑l0.length : Int), l0[n2.toNat]? = some [I n6, I n7], (n7 != n3 + 1) = false, inInt IntKind.i64 (n3 + 1 + 1), inInt IntKind.i64 (n2 + 1)]) :
    Tr Tryz.prog (loopOf Tryz.f22 0) (laws_heldStampS_L0 l0 n2 n3) Ex.normal (laws_heldStampS_L0 l0 (n2 + 1) (n3 + 1 + 1)) :=
  .of_loopc (ks := [5, 0, 1]) (bs := []) (ans := [Ans.br true, Ans.el [I n4, I n5], Ans.br false, Ans.el [I n6, I n7], Ans.br false]) (by kernel_rfl) h

def laws_heldStampS_X0v2 (n0 : Int) : St :=
  { env := envOf 31 [(1, PV.al (AL.one (Leaf.v (Value.int IntKind.i64 n0))))], boxes := [] }

theorem laws_heldStampS_L0_x3 (l0 : List (List D)) (n2 : Int) (n3 : Int)
    (h : Obs [decide (n2 < (↑l0.length : Int)) = false]) :
    Tr Tryz.prog (loopOf Tryz.f22 0) (laws_heldStampS_L0 l0 n2 n3) (Ex.exit 0) (laws_heldStampS_X0v2 n3) :=
  .of_loopc (ks := [1]) (bs := []) (ans := [Ans.br false]) (by kernel_rfl) h

theorem laws_heldStampS_p0 (l0 : List (List D)) (n1 : Int) (n2 : Int)
    (h : Obs [LoopOk Tryz.prog (loopOf Tryz.f22 0) (laws_heldStampS_L0 l0 0 n1) Ex.ret (laws_heldStampS_X0 n2)]) :
    Ret Tryz.prog 22 [AD.one (D.sl 2 l0), AD.one (I n1)] [AD.one (I n2)] :=
  .of [Ans.loop [] [5, 0, 1] [] Ex.ret (laws_heldStampS_X0 n2)] _ Tryz.func22 rfl (by kernel_rfl) h

theorem laws_heldStampS_p1 (l0 : List (List D)) (n1 : Int) (n2 : Int)
    (h : Obs [LoopOk Tryz.prog (loopOf Tryz.f22 0) (laws_heldStampS_L0 l0 0 n1) (Ex.exit 0) (laws_heldStampS_X0v2 n2)]) :
    Ret Tryz.prog 22 [AD.one (D.sl 2 l0), AD.one (I n1)] [AD.one (I n2)] :=
  .of [Ans.loop [] [5, 0, 1] [] (Ex.exit 0) (laws_heldStampS_X0v2 n2)] _ Tryz.func22 rfl (by kernel_rfl) h


end Go.Proofs.YtbbjajmimckabaaGreat
