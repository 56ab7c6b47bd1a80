import Derived.Test.YtbbjajmimckabaaRows
import Derived.Test.YtbbjajmimckabaaR23
set_option linter.unusedVariables false
set_option linter.unusedSimpArgs false
namespace Go.Proofs.Ytbbjajmimckabaa
open Go.Sx Go.RowKit

/- loop.example/g00973/laws.markRecordS -/

def laws_markRecordS_L0 (n0 : Int) (n1 : Int) (l2 : List (List D)) : St :=
  { env := envOf 50 [(0, PV.al (AL.one (Leaf.sl (Tag.own 1000000000) 5 l2))), (1, PV.al (AL.one (Leaf.v (Value.int IntKind.i64 n1)))), (5, PV.al (AL.one (Leaf.v (Value.int IntKind.i64 n0))))], boxes := [] }

theorem laws_markRecordS_L0_s0 (n2 : Int) (n3 : Int) (l4 : List (List D)) (d5 : D) (d6 : D) (d7 : D) (d8 : D) (d9 : D) (d10 : D) (d11 : D) (d12 : D) (d13 : D) (d14 : D) (d15 : D) (d16 : D) (d17 : D) (d18 : D) (d19 : D) (d20 : D) (d21 : D) (d22 : D) (d23 : D) (d24 : D) (d25 : D) (d26 : D) (d27 : D) (d28 : D) (d29 : D)
    (h : Obs [decide (n2 < (↑l4.length : Int)) = true, 0 ≤ n2, n2 < (↑l4.length : Int), l4[n2.toNat]? = some [d5, d6, d7, d8, d9], inInt IntKind.i64 (n3 + 1), 0 ≤ n2, n2 < (↑(l4.set n2.toNat [I n3, d6, d7, d8, d9]).length : Int), (l4.set n2.toNat [I n3, d6, d7, d8, d9])[n2.toNat]? = some [d10, d11, d12, d13, d14], inInt IntKind.i64 (n3 + 1 + 1), 0 ≤ n2, n2 < (↑((l4.set n2.toNat [I n3, d6, d7, d8, d9]).set n2.toNat [d10, I (n3 + 1), d12, d13, d14]).length : Int), ((l4.set n2.toNat [I n3, d6, d7, d8, d9]).set n2.toNat [d10, I (n3 + 1), d12, d13, d14])[n2.toNat]? = some [d15, d16, d17, d18, d19], inInt IntKind.i64 (n3 + 1 + 1 + 1), 0 ≤ n2, n2 < (↑(((l4.set n2.toNat [I n3, d6, d7, d8, d9]).set n2.toNat [d10, I (n3 + 1), d12, d13, d14]).set n2.toNat [d15, d16, I (n3 + 1 + 1), d18, d19]).length : Int), (((l4.set n2.toNat [I n3, d6, d7, d8, d9]).set n2.toNat [d10, I (n3 + 1), d12, d13, d14]).set n2.toNat [d15, d16, I (n3 + 1 + 1), d18, d19])[n2.toNat]? = some [d20, d21, d22, d23, d24], inInt IntKind.i64 (n3 + 1 + 1 + 1 + 1), 0 ≤ n2, n2 < (↑((((l4.set n2.toNat [I n3, d6, d7, d8, d9]).set n2.toNat [d10, I (n3 + 1), d12, d13, d14]).set n2.toNat [d15, d16, I (n3 + 1 + 1), d18, d19]).set n2.toNat [d20, d21, d22, I (n3 + 1 + 1 + 1), d24]).length : Int), ((((l4.set n2.toNat [I n3, d6, d7, d8, d9]).set n2.toNat [d10, I (n3 + 1), d12, d13, d14]).set n2.toNat [d15, d16, I (n3 + 1 + 1), d18, d19]).set n2.toNat [d20, d21, d22, I (n3 + 1 + 1 + 1), d24])[n2.toNat]? = some [d25, d26, d27, d28, d29], inInt IntKind.i64 (n3 + 1 + 1 + 1 + 1 + 1), inInt IntKind.i64 (n2 + 1)]) :
    Tr Try.prog (loopOf Try.f17 0) (laws_markRecordS_L0 n2 n3 l4) Ex.normal (laws_markRecordS_L0 (n2 + 1) (n3 + 1 + 1 + 1 + 1 + 1) (((((l4.set n2.toNat [I n3, d6, d7, d8, d9]).set n2.toNat [d10, I (n3 + 1), d12, d13, d14]).set n2.toNat [d15, d16, I (n3 + 1 + 1), d18, d19]).set n2.toNat [d20, d21, d22, I (n3 + 1 + 1 + 1), d24]).set n2.toNat [d25, d26, d27, d28, I (n3 + 1 + 1 + 1 + 1)])) :=
  .of_loopc (ks := [5, 0, 1]) (bs := []) (ans := [Ans.br true, Ans.el [d5, d6, d7, d8, d9], Ans.el [d10, d11, d12, d13, d14], Ans.el [d15, d16, d17, d18, d19], Ans.el [d20, d21, d22, d23, d24], Ans.el [d25, d26, d27, d28, d29]]) (by kernel_rfl) h

def laws_markRecordS_X0 (n0 : Int) (l1 : List (List D)) : St :=
  { env := envOf 50 [(0, PV.al (AL.one (Leaf.sl (Tag.own 1000000000) 5 l1))), (1, PV.al (AL.one (Leaf.v (Value.int IntKind.i64 n0))))], boxes := [] }

theorem laws_markRecordS_L0_x1 (n2 : Int) (n3 : Int) (l4 : List (List D))
    (h : Obs [decide (n2 < (↑l4.length : Int)) = false]) :
    Tr Try.prog (loopOf Try.f17 0) (laws_markRecordS_L0 n2 n3 l4) (Ex.exit 0) (laws_markRecordS_X0 n3 l4) :=
  .of_loopc (ks := [1, 0]) (bs := []) (ans := [Ans.br false]) (by kernel_rfl) h

theorem laws_markRecordS_p0 (l0 : List (List D)) (n1 : Int) (n2 : Int) (l3 : List (List D))
    (h : Obs [LoopOk Try.prog (loopOf Try.f17 0) (laws_markRecordS_L0 0 n1 l0) (Ex.exit 0) (laws_markRecordS_X0 n2 l3)]) :
    RetG Try.prog 17 [GA.one (GC.gv 5 l0 (some l3)), GA.one (GC.ro (I n1))] [AD.one (I n2)] :=
  .of [Ans.loop [] [5, 0, 1] [] (Ex.exit 0) (laws_markRecordS_X0 n2 l3)] _ Try.func17 rfl (by kernel_rfl) h

/- loop.example/g00973/laws.markNewsS -/

/- loop.example/g00973/laws.markIntS -/

def laws_markIntS_L0 (n0 : Int) (n1 : Int) (l2 : List (List D)) : St :=
  { env := envOf 19 [(0, PV.al (AL.one (Leaf.sl (Tag.own 1000000000) 1 l2))), (1, PV.al (AL.one (Leaf.v (Value.int IntKind.i64 n1)))), (5, PV.al (AL.one (Leaf.v (Value.int IntKind.i64 n0))))], boxes := [] }

theorem laws_markIntS_L0_s0 (n2 : Int) (n3 : Int) (l4 : List (List D)) (d5 : D)
    (h : Obs [decide (n2 < (↑l4.length : Int)) = true, 0 ≤ n2, n2 < (↑l4.length : Int), l4[n2.toNat]? = some [d5], inInt IntKind.i64 (n3 + 1), inInt IntKind.i64 (n2 + 1)]) :
    Tr Try.prog (loopOf Try.f97 0) (laws_markIntS_L0 n2 n3 l4) Ex.normal (laws_markIntS_L0 (n2 + 1) (n3 + 1) (l4.set n2.toNat [I n3])) :=
  .of_loopc (ks := [5, 0, 1]) (bs := []) (ans := [Ans.br true, Ans.el [d5]]) (by kernel_rfl) h

def laws_markIntS_X0 (n0 : Int) (l1 : List (List D)) : St :=
  { env := envOf 19 [(0, PV.al (AL.one (Leaf.sl (Tag.own 1000000000) 1 l1))), (1, PV.al (AL.one (Leaf.v (Value.int IntKind.i64 n0))))], boxes := [] }

theorem laws_markIntS_L0_x1 (n2 : Int) (n3 : Int) (l4 : List (List D))
    (h : Obs [decide (n2 < (↑l4.length : Int)) = false]) :
    Tr Try.prog (loopOf Try.f97 0) (laws_markIntS_L0 n2 n3 l4) (Ex.exit 0) (laws_markIntS_X0 n3 l4) :=
  .of_loopc (ks := [1, 0]) (bs := []) (ans := [Ans.br false]) (by kernel_rfl) h

theorem laws_markIntS_p0 (l0 : List (List D)) (n1 : Int) (n2 : Int) (l3 : List (List D))
    (h : Obs [LoopOk Try.prog (loopOf Try.f97 0) (laws_markIntS_L0 0 n1 l0) (Ex.exit 0) (laws_markIntS_X0 n2 l3)]) :
    RetG Try.prog 97 [GA.one (GC.gv 1 l0 (some l3)), GA.one (GC.ro (I n1))] [AD.one (I n2)] :=
  .of [Ans.loop [] [5, 0, 1] [] (Ex.exit 0) (laws_markIntS_X0 n2 l3)] _ Try.func97 rfl (by kernel_rfl) h

/- loop.example/g00973/laws.markCellS -/

def laws_markCellS_L0 (n0 : Int) (n1 : Int) (l2 : List (List D)) : St :=
  { env := envOf 41 [(0, PV.al (AL.one (Leaf.sl (Tag.own 1000000000) 4 l2))), (1, PV.al (AL.one (Leaf.v (Value.int IntKind.i64 n1)))), (5, PV.al (AL.one (Leaf.v (Value.int IntKind.i64 n0))))], boxes := [] }

theorem laws_markCellS_L0_s0 (n2 : Int) (n3 : Int) (l4 : List (List D)) (d5 : D) (d6 : D) (d7 : D) (d8 : D) (d9 : D) (d10 : D) (d11 : D) (d12 : D) (d13 : D) (d14 : D) (d15 : D) (d16 : D) (d17 : D) (d18 : D) (d19 : D) (d20 : D)
    (h : Obs [decide (n2 < (↑l4.length : Int)) = true, 0 ≤ n2, n2 < (↑l4.length : Int), l4[n2.toNat]? = some [d5, d6, d7, d8], inInt IntKind.i64 (n3 + 1), 0 ≤ n2, n2 < (↑(l4.set n2.toNat [I n3, d6, d7, d8]).length : Int), (l4.set n2.toNat [I n3, d6, d7, d8])[n2.toNat]? = some [d9, d10, d11, d12], inInt IntKind.i64 (n3 + 1 + 1), 0 ≤ n2, n2 < (↑((l4.set n2.toNat [I n3, d6, d7, d8]).set n2.toNat [d9, I (n3 + 1), d11, d12]).length : Int), ((l4.set n2.toNat [I n3, d6, d7, d8]).set n2.toNat [d9, I (n3 + 1), d11, d12])[n2.toNat]? = some [d13, d14, d15, d16], inInt IntKind.i64 (n3 + 1 + 1 + 1), 0 ≤ n2, n2 < (↑(((l4.set n2.toNat [I n3, d6, d7, d8]).set n2.toNat [d9, I (n3 + 1), d11, d12]).set n2.toNat [d13, d14, I (n3 + 1 + 1), d16]).length : Int), (((l4.set n2.toNat [I n3, d6, d7, d8]).set n2.toNat [d9, I (n3 + 1), d11, d12]).set n2.toNat [d13, d14, I (n3 + 1 + 1), d16])[n2.toNat]? = some [d17, d18, d19, d20], inInt IntKind.i64 (n3 + 1 + 1 + 1 + 1), inInt IntKind.i64 (n2 + 1)]) :
    Tr Try.prog (loopOf Try.f35 0) (laws_markCellS_L0 n2 n3 l4) Ex.normal (laws_markCellS_L0 (n2 + 1) (n3 + 1 + 1 + 1 + 1) ((((l4.set n2.toNat [I n3, d6, d7, d8]).set n2.toNat [d9, I (n3 + 1), d11, d12]).set n2.toNat [d13, d14, I (n3 + 1 + 1), d16]).set n2.toNat [d17, d18, d19, I (n3 + 1 + 1 + 1)])) :=
  .of_loopc (ks := [5, 0, 1]) (bs := []) (ans := [Ans.br true, Ans.el [d5, d6, d7, d8], Ans.el [d9, d10, d11, d12], Ans.el [d13, d14, d15, d16], Ans.el [d17, d18, d19, d20]]) (by kernel_rfl) h

def laws_markCellS_X0 (n0 : Int) (l1 : List (List D)) : St :=
  { env := envOf 41 [(0, PV.al (AL.one (Leaf.sl (Tag.own 1000000000) 4 l1))), (1, PV.al (AL.one (Leaf.v (Value.int IntKind.i64 n0))))], boxes := [] }

theorem laws_markCellS_L0_x1 (n2 : Int) (n3 : Int) (l4 : List (List D))
    (h : Obs [decide (n2 < (↑l4.length : Int)) = false]) :
    Tr Try.prog (loopOf Try.f35 0) (laws_markCellS_L0 n2 n3 l4) (Ex.exit 0) (laws_markCellS_X0 n3 l4) :=
  .of_loopc (ks := [1, 0]) (bs := []) (ans := [Ans.br false]) (by kernel_rfl) h

theorem laws_markCellS_p0 (l0 : List (List D)) (n1 : Int) (n2 : Int) (l3 : List (List D))
    (h : Obs [LoopOk Try.prog (loopOf Try.f35 0) (laws_markCellS_L0 0 n1 l0) (Ex.exit 0) (laws_markCellS_X0 n2 l3)]) :
    RetG Try.prog 35 [GA.one (GC.gv 4 l0 (some l3)), GA.one (GC.ro (I n1))] [AD.one (I n2)] :=
  .of [Ans.loop [] [5, 0, 1] [] (Ex.exit 0) (laws_markCellS_X0 n2 l3)] _ Try.func35 rfl (by kernel_rfl) h

/- loop.example/g00973/laws.markBoolS -/

/- loop.example/g00973/laws.markDoneS -/

/- loop.example/g00973/laws.markTokenS -/

/- loop.example/g00973/laws.markNodeS -/

def laws_markNodeS_L0 (n0 : Int) (n1 : Int) (l2 : List (List D)) : St :=
  { env := envOf 41 [(0, PV.al (AL.one (Leaf.sl (Tag.own 1000000000) 4 l2))), (1, PV.al (AL.one (Leaf.v (Value.int IntKind.i64 n1)))), (5, PV.al (AL.one (Leaf.v (Value.int IntKind.i64 n0))))], boxes := [] }

theorem laws_markNodeS_L0_s0 (n2 : Int) (n3 : Int) (l4 : List (List D)) (d5 : D) (d6 : D) (d7 : D) (d8 : D) (d9 : D) (d10 : D) (d11 : D) (d12 : D) (d13 : D) (d14 : D) (d15 : D) (d16 : D) (n17 : Int) (n18 : Int) (n19 : Int) (l20 : List (List D)) (l21 : List (List D)) (n22 : Int)
    (h : Obs [decide (n2 < (↑l4.length : Int)) = true, 0 ≤ n2, n2 < (↑l4.length : Int), l4[n2.toNat]? = some [d5, d6, d7, d8], inInt IntKind.i64 (n3 + 1), 0 ≤ n2, n2 < (↑(l4.set n2.toNat [I n3, d6, d7, d8]).length : Int), (l4.set n2.toNat [I n3, d6, d7, d8])[n2.toNat]? = some [d9, d10, d11, d12], inInt IntKind.i64 (n3 + 1 + 1), 0 ≤ n2, n2 < (↑((l4.set n2.toNat [I n3, d6, d7, d8]).set n2.toNat [d9, I (n3 + 1), d11, d12]).length : Int), ((l4.set n2.toNat [I n3, d6, d7, d8]).set n2.toNat [d9, I (n3 + 1), d11, d12])[n2.toNat]? = some [d13, d14, d15, d16], inInt IntKind.i64 (n3 + 1 + 1 + 1), 0 ≤ n2, n2 < (↑(((l4.set n2.toNat [I n3, d6, d7, d8]).set n2.toNat [d9, I (n3 + 1), d11, d12]).set n2.toNat [d13, d14, I (n3 + 1 + 1), d16]).length : Int), (((l4.set n2.toNat [I n3, d6, d7, d8]).set n2.toNat [d9, I (n3 + 1), d11, d12]).set n2.toNat [d13, d14, I (n3 + 1 + 1), d16])[n2.toNat]? = some [I n17, I n18, I n19, D.sl 1 l20], RetG Try.prog 97 [GA.one (GC.gv 1 l20 (some l21)), GA.one (GC.ro (I (n3 + 1 + 1 + 1)))] [AD.one (I n22)], (((l4.set n2.toNat [I n3, d6, d7, d8]).set n2.toNat [d9, I (n3 + 1), d11, d12]).set n2.toNat [d13, d14, I (n3 + 1 + 1), d16])[n2.toNat]? = some [I n17, I n18, I n19, D.sl 1 l20], n2.toNat = n2.toNat, inInt IntKind.i64 (n2 + 1)]) :
    Tr Try.prog (loopOf Try.f86 0) (laws_markNodeS_L0 n2 n3 l4) Ex.normal (laws_markNodeS_L0 (n2 + 1) n22 ((((l4.set n2.toNat [I n3, d6, d7, d8]).set n2.toNat [d9, I (n3 + 1), d11, d12]).set n2.toNat [d13, d14, I (n3 + 1 + 1), d16]).set n2.toNat [I n17, I n18, I n19, D.sl 1 l21])) :=
  .of_loopc (ks := [5, 0, 1]) (bs := []) (ans := [Ans.br true, Ans.el [d5, d6, d7, d8], Ans.el [d9, d10, d11, d12], Ans.el [d13, d14, d15, d16], Ans.sub, Ans.el [I n17, I n18, I n19, D.sl 1 l20], Ans.resG [[some (some l21)], [none]] 0 [I n17, I n18, I n19, D.sl 1 l20] [AD.one (I n22)]]) (by kernel_rfl) h

def laws_markNodeS_X0 (n0 : Int) (l1 : List (List D)) : St :=
  { env := envOf 41 [(0, PV.al (AL.one (Leaf.sl (Tag.own 1000000000) 4 l1))), (1, PV.al (AL.one (Leaf.v (Value.int IntKind.i64 n0))))], boxes := [] }

theorem laws_markNodeS_L0_x1 (n2 : Int) (n3 : Int) (l4 : List (List D))
    (h : Obs [decide (n2 < (↑l4.length : Int)) = false]) :
    Tr Try.prog (loopOf Try.f86 0) (laws_markNodeS_L0 n2 n3 l4) (Ex.exit 0) (laws_markNodeS_X0 n3 l4) :=
  .of_loopc (ks := [1, 0]) (bs := []) (ans := [Ans.br false]) (by kernel_rfl) h

theorem laws_markNodeS_p0 (l0 : List (List D)) (n1 : Int) (n2 : Int) (l3 : List (List D))
    (h : Obs [LoopOk Try.prog (loopOf Try.f86 0) (laws_markNodeS_L0 0 n1 l0) (Ex.exit 0) (laws_markNodeS_X0 n2 l3)]) :
    RetG Try.prog 86 [GA.one (GC.gv 4 l0 (some l3)), GA.one (GC.ro (I n1))] [AD.one (I n2)] :=
  .of [Ans.loop [] [5, 0, 1] [] (Ex.exit 0) (laws_markNodeS_X0 n2 l3)] _ Try.func86 rfl (by kernel_rfl) h

/- loop.example/g00973/laws.markLinkS -/

/- loop.example/g00973/laws.markWorkerS -/

/- loop.example/g00973/laws.markGraph -/

theorem laws_markGraph_p0 (l0 : List (List D)) (n1 : Int) (n2 : Int) (n3 : Int) (l4 : List (List D)) (n5 : Int)
    (h : Obs [RetG Try.prog 86 [GA.one (GC.gv 4 l0 (some l4)), GA.one (GC.ro (I n3))] [AD.one (I n5)]]) :
    RetG Try.prog 46 [GA.agg [GC.gv 4 l0 (some l4), GC.ro (I n1), GC.ro (I n2)], GA.one (GC.ro (I n3))] [AD.one (I n5)] :=
  .of [Ans.resG [[some (some l4)], [none]] 0 [] [AD.one (I n5)]] _ Try.func46 rfl (by kernel_rfl) h

/- loop.example/g00973/laws.markCluster -/

/- loop.example/g00973/laws.markPickS -/

/- loop.example/g00973/laws.heldRecordS -/

/- loop.example/g00973/laws.heldCellS -/

def laws_heldCellS_L0 (l0 : List (List D)) (n1 : Int) (n2 : Int) : St :=
  { env := envOf 49 [(0, PV.al (AL.one (Leaf.sl Tag.free 4 l0))), (1, PV.al (AL.one (Leaf.v (Value.int IntKind.i64 n2)))), (5, PV.al (AL.one (Leaf.v (Value.int IntKind.i64 n1))))], boxes := [] }

theorem laws_heldCellS_L0_s4 (l0 : List (List D)) (n2 : Int) (n3 : Int) (n4 : Int) (n5 : Int) (n6 : Int) (n7 : Int) (n8 : Int) (n9 : Int) (n10 : Int) (n11 : Int) (n12 : Int) (n13 : Int) (n14 : Int) (n15 : Int) (n16 : Int) (n17 : Int) (n18 : Int) (n19 : Int)
    (h : Obs [decide (n2 < (↑l0.length : Int)) = true, 0 ≤ n2, n2 < (↑l0.length : Int), l0[n2.toNat]? = some [I n4, I n5, I n6, I n7], (n4 != n3) = false, inInt IntKind.i64 (n3 + 1), 0 ≤ n2, n2 < (↑l0.length : Int), l0[n2.toNat]? = some [I n8, I n9, I n10, I n11], (n9 != n3 + 1) = false, inInt IntKind.i64 (n3 + 1 + 1), 0 ≤ n2, n2 < (↑l0.length : Int), l0[n2.toNat]? = some [I n12, I n13, I n14, I n15], (n14 != n3 + 1 + 1) = false, inInt IntKind.i64 (n3 + 1 + 1 + 1), 0 ≤ n2, n2 < (↑l0.length : Int), l0[n2.toNat]? = some [I n16, I n17, I n18, I n19], (n19 != n3 + 1 + 1 + 1) = false, inInt IntKind.i64 (n3 + 1 + 1 + 1 + 1), inInt IntKind.i64 (n2 + 1)]) :
    Tr Try.prog (loopOf Try.f36 0) (laws_heldCellS_L0 l0 n2 n3) Ex.normal (laws_heldCellS_L0 l0 (n2 + 1) (n3 + 1 + 1 + 1 + 1)) :=
  .of_loopc (ks := [5, 0, 1]) (bs := []) (ans := [Ans.br true, Ans.el [I n4, I n5, I n6, I n7], Ans.br false, Ans.el [I n8, I n9, I n10, I n11], Ans.br false, Ans.el [I n12, I n13, I n14, I n15], Ans.br false, Ans.el [I n16, I n17, I n18, I n19], Ans.br false]) (by kernel_rfl) h

def laws_heldCellS_X0v2 (n0 : Int) : St :=
  { env := envOf 49 [(1, PV.al (AL.one (Leaf.v (Value.int IntKind.i64 n0))))], boxes := [] }

theorem laws_heldCellS_L0_x5 (l0 : List (List D)) (n2 : Int) (n3 : Int)
    (h : Obs [decide (n2 < (↑l0.length : Int)) = false]) :
    Tr Try.prog (loopOf Try.f36 0) (laws_heldCellS_L0 l0 n2 n3) (Ex.exit 0) (laws_heldCellS_X0v2 n3) :=
  .of_loopc (ks := [1]) (bs := []) (ans := [Ans.br false]) (by kernel_rfl) h

theorem laws_heldCellS_p1 (l0 : List (List D)) (n1 : Int) (n2 : Int)
    (h : Obs [LoopOk Try.prog (loopOf Try.f36 0) (laws_heldCellS_L0 l0 0 n1) (Ex.exit 0) (laws_heldCellS_X0v2 n2)]) :
    Ret Try.prog 36 [AD.one (D.sl 4 l0), AD.one (I n1)] [AD.one (I n2)] :=
  .of [Ans.loop [] [5, 0, 1] [] (Ex.exit 0) (laws_heldCellS_X0v2 n2)] _ Try.func36 rfl (by kernel_rfl) h

/- loop.example/g00973/laws.heldPickS -/

end Go.Proofs.Ytbbjajmimckabaa
