import Derived.Test.YtbbjajmimckabaaGreatRows
import Derived.Test.YtbbjajmimckabaaGreatR23
set_option linter.unusedVariables false
set_option linter.unusedSimpArgs false
namespace Go.Proofs.YtbbjajmimckabaaGreat
open Go.Sx Go.RowKit

/- loop.example/g00973/laws.toRecord -/

theorem laws_toRecord_p0 (n0 : Int) (n1 : Int) (n2 : Int) (n3 : Int) (n4 : Int) (n5 : Int) (n6 : Int)
    (h : Obs [Ret Tryz.prog 145 [AD.agg [I n1, I n2]] [AD.agg [I n5, I n6]]]) :
    Ret Tryz.prog 120 [AD.agg [I n0, I n1, I n2, I n3, I n4]] [AD.agg [I n0, I n5, I n6, I n3, I n4]] :=
  .of [Ans.res [AD.agg [I n5, I n6]]] _ Tryz.func120 rfl (by kernel_rfl) h

/- loop.example/g00973/laws.toRecordS -/

def laws_toRecordS_L0 (l0 : List (List D)) (n1 : Int) (l2 : List (List D)) : St :=
  { env := envOf 23 [(0, PV.al (AL.one (Leaf.sl Tag.free 5 l0))), (3, PV.al (AL.one (Leaf.sl (Tag.own 7) 5 l2))), (4, PV.al (AL.one (Leaf.v (Value.int IntKind.i64 n1))))], boxes := [] }

theorem laws_toRecordS_L0_s0 (l0 : List (List D)) (n1 : Int) (l2 : List (List D)) (n3 : Int) (n4 : Int) (n5 : Int) (n6 : Int) (n7 : Int) (n8 : Int) (n9 : Int) (n10 : Int) (n11 : Int) (n12 : Int) (d13 : D) (d14 : D) (d15 : D) (d16 : D) (d17 : D)
    (h : Obs [decide (n1 < (↑l0.length : Int)) = true, 0 ≤ n1, n1 < (↑l0.length : Int), l0[n1.toNat]? = some [I n3, I n4, I n5, I n6, I n7], Ret Tryz.prog 120 [AD.agg [I n3, I n4, I n5, I n6, I n7]] [AD.agg [I n8, I n9, I n10, I n11, I n12]], 0 ≤ n1, n1 < (↑l2.length : Int), l2[n1.toNat]? = some [d13, d14, d15, d16, d17], inInt IntKind.i64 (n1 + 1)]) :
    Tr Tryz.prog (loopOf Tryz.f102 0) (laws_toRecordS_L0 l0 n1 l2) Ex.normal (laws_toRecordS_L0 l0 (n1 + 1) (l2.set n1.toNat [I n8, I n9, I n10, I n11, I n12])) :=
  .of_loopc (ks := [4, 0, 3]) (bs := []) (ans := [Ans.br true, Ans.el [I n3, I n4, I n5, I n6, I n7], Ans.res [AD.agg [I n8, I n9, I n10, I n11, I n12]], Ans.el [d13, d14, d15, d16, d17]]) (by kernel_rfl) h

def laws_toRecordS_X0 (l0 : List (List D)) : St :=
  { env := envOf 23 [(3, PV.al (AL.one (Leaf.sl (Tag.own 7) 5 l0)))], boxes := [] }

theorem laws_toRecordS_L0_x1 (l0 : List (List D)) (n1 : Int) (l2 : List (List D))
    (h : Obs [decide (n1 < (↑l0.length : Int)) = false]) :
    Tr Tryz.prog (loopOf Tryz.f102 0) (laws_toRecordS_L0 l0 n1 l2) (Ex.exit 0) (laws_toRecordS_X0 l2) :=
  .of_loopc (ks := [3]) (bs := []) (ans := [Ans.br false]) (by kernel_rfl) h

theorem laws_toRecordS_p0 (l0 : List (List D)) (l1 : List (List D))
    (h : Obs [0 ≤ (↑l0.length : Int), (↑l0.length : Int) ≤ (↑l0.length : Int), (↑40 : Int) * (↑l0.length : Int) ≤ 281474976710656, (↑l0.length : Int) ≤ 9223372036854775807, LoopOk Tryz.prog (loopOf Tryz.f102 0) (laws_toRecordS_L0 l0 0 (List.replicate l0.length [I 0, I 0, I 0, I 0, I 0])) (Ex.exit 0) (laws_toRecordS_X0 l1)]) :
    Ret Tryz.prog 102 [AD.one (D.sl 5 l0)] [AD.one (D.sl 5 l1)] :=
  .of [Ans.loop [] [4, 0, 3] [] (Ex.exit 0) (laws_toRecordS_X0 l1)] _ Tryz.func102 rfl (by kernel_rfl) h

/- loop.example/g00973/laws.toCell -/

theorem laws_toCell_p0 (n0 : Int) (n1 : Int) (n2 : Int) (n3 : Int)
    (h : Obs []) :
    Ret Tryz.prog 121 [AD.agg [I n0, I n1, I n2, I n3]] [AD.agg [I n0, I n1, I n2, I n3]] :=
  .of [] _ Tryz.func121 rfl (by kernel_rfl) h

/- loop.example/g00973/laws.toCellS -/

def laws_toCellS_L0 (l0 : List (List D)) (n1 : Int) (l2 : List (List D)) : St :=
  { env := envOf 23 [(0, PV.al (AL.one (Leaf.sl Tag.free 4 l0))), (3, PV.al (AL.one (Leaf.sl (Tag.own 7) 4 l2))), (4, PV.al (AL.one (Leaf.v (Value.int IntKind.i64 n1))))], boxes := [] }

theorem laws_toCellS_L0_s0 (l0 : List (List D)) (n1 : Int) (l2 : List (List D)) (n3 : Int) (n4 : Int) (n5 : Int) (n6 : Int) (n7 : Int) (n8 : Int) (n9 : Int) (n10 : Int) (d11 : D) (d12 : D) (d13 : D) (d14 : D)
    (h : Obs [decide (n1 < (↑l0.length : Int)) = true, 0 ≤ n1, n1 < (↑l0.length : Int), l0[n1.toNat]? = some [I n3, I n4, I n5, I n6], Ret Tryz.prog 121 [AD.agg [I n3, I n4, I n5, I n6]] [AD.agg [I n7, I n8, I n9, I n10]], 0 ≤ n1, n1 < (↑l2.length : Int), l2[n1.toNat]? = some [d11, d12, d13, d14], inInt IntKind.i64 (n1 + 1)]) :
    Tr Tryz.prog (loopOf Tryz.f103 0) (laws_toCellS_L0 l0 n1 l2) Ex.normal (laws_toCellS_L0 l0 (n1 + 1) (l2.set n1.toNat [I n7, I n8, I n9, I n10])) :=
  .of_loopc (ks := [4, 0, 3]) (bs := []) (ans := [Ans.br true, Ans.el [I n3, I n4, I n5, I n6], Ans.res [AD.agg [I n7, I n8, I n9, I n10]], Ans.el [d11, d12, d13, d14]]) (by kernel_rfl) h

def laws_toCellS_X0 (l0 : List (List D)) : St :=
  { env := envOf 23 [(3, PV.al (AL.one (Leaf.sl (Tag.own 7) 4 l0)))], boxes := [] }

theorem laws_toCellS_L0_x1 (l0 : List (List D)) (n1 : Int) (l2 : List (List D))
    (h : Obs [decide (n1 < (↑l0.length : Int)) = false]) :
    Tr Tryz.prog (loopOf Tryz.f103 0) (laws_toCellS_L0 l0 n1 l2) (Ex.exit 0) (laws_toCellS_X0 l2) :=
  .of_loopc (ks := [3]) (bs := []) (ans := [Ans.br false]) (by kernel_rfl) h

theorem laws_toCellS_p0 (l0 : List (List D)) (l1 : List (List D))
    (h : Obs [0 ≤ (↑l0.length : Int), (↑l0.length : Int) ≤ (↑l0.length : Int), (↑32 : Int) * (↑l0.length : Int) ≤ 281474976710656, (↑l0.length : Int) ≤ 9223372036854775807, LoopOk Tryz.prog (loopOf Tryz.f103 0) (laws_toCellS_L0 l0 0 (List.replicate l0.length [I 0, I 0, I 0, I 0])) (Ex.exit 0) (laws_toCellS_X0 l1)]) :
    Ret Tryz.prog 103 [AD.one (D.sl 4 l0)] [AD.one (D.sl 4 l1)] :=
  .of [Ans.loop [] [4, 0, 3] [] (Ex.exit 0) (laws_toCellS_X0 l1)] _ Tryz.func103 rfl (by kernel_rfl) h

/- loop.example/g00973/laws.toIntS -/

def laws_toIntS_L0 (l0 : List (List D)) (n1 : Int) (l2 : List (List D)) : St :=
  { env := envOf 22 [(0, PV.al (AL.one (Leaf.sl Tag.free 1 l0))), (3, PV.al (AL.one (Leaf.sl (Tag.own 7) 1 l2))), (4, PV.al (AL.one (Leaf.v (Value.int IntKind.i64 n1))))], boxes := [] }

theorem laws_toIntS_L0_s0 (l0 : List (List D)) (n1 : Int) (l2 : List (List D)) (n3 : Int) (d4 : D)
    (h : Obs [decide (n1 < (↑l0.length : Int)) = true, 0 ≤ n1, n1 < (↑l0.length : Int), l0[n1.toNat]? = some [I n3], 0 ≤ n1, n1 < (↑l2.length : Int), l2[n1.toNat]? = some [d4], inInt IntKind.i64 (n1 + 1)]) :
    Tr Tryz.prog (loopOf Tryz.f104 0) (laws_toIntS_L0 l0 n1 l2) Ex.normal (laws_toIntS_L0 l0 (n1 + 1) (l2.set n1.toNat [I n3])) :=
  .of_loopc (ks := [4, 0, 3]) (bs := []) (ans := [Ans.br true, Ans.el [I n3], Ans.el [d4]]) (by kernel_rfl) h

def laws_toIntS_X0 (l0 : List (List D)) : St :=
  { env := envOf 22 [(3, PV.al (AL.one (Leaf.sl (Tag.own 7) 1 l0)))], boxes := [] }

theorem laws_toIntS_L0_x1 (l0 : List (List D)) (n1 : Int) (l2 : List (List D))
    (h : Obs [decide (n1 < (↑l0.length : Int)) = false]) :
    Tr Tryz.prog (loopOf Tryz.f104 0) (laws_toIntS_L0 l0 n1 l2) (Ex.exit 0) (laws_toIntS_X0 l2) :=
  .of_loopc (ks := [3]) (bs := []) (ans := [Ans.br false]) (by kernel_rfl) h

theorem laws_toIntS_p0 (l0 : List (List D)) (l1 : List (List D))
    (h : Obs [0 ≤ (↑l0.length : Int), (↑l0.length : Int) ≤ (↑l0.length : Int), (↑8 : Int) * (↑l0.length : Int) ≤ 281474976710656, (↑l0.length : Int) ≤ 9223372036854775807, LoopOk Tryz.prog (loopOf Tryz.f104 0) (laws_toIntS_L0 l0 0 (List.replicate l0.length [I 0])) (Ex.exit 0) (laws_toIntS_X0 l1)]) :
    Ret Tryz.prog 104 [AD.one (D.sl 1 l0)] [AD.one (D.sl 1 l1)] :=
  .of [Ans.loop [] [4, 0, 3] [] (Ex.exit 0) (laws_toIntS_X0 l1)] _ Tryz.func104 rfl (by kernel_rfl) h

/- loop.example/g00973/laws.toBoolS -/

def laws_toBoolS_L0 (l0 : List (List D)) (n1 : Int) (l2 : List (List D)) : St :=
  { env := envOf 22 [(0, PV.al (AL.one (Leaf.sl Tag.free 1 l0))), (3, PV.al (AL.one (Leaf.sl (Tag.own 7) 1 l2))), (4, PV.al (AL.one (Leaf.v (Value.int IntKind.i64 n1))))], boxes := [] }

theorem laws_toBoolS_L0_s0 (l0 : List (List D)) (n1 : Int) (l2 : List (List D)) (b3 : Bool) (d4 : D)
    (h : Obs [decide (n1 < (↑l0.length : Int)) = true, 0 ≤ n1, n1 < (↑l0.length : Int), l0[n1.toNat]? = some [B b3], 0 ≤ n1, n1 < (↑l2.length : Int), l2[n1.toNat]? = some [d4], inInt IntKind.i64 (n1 + 1)]) :
    Tr Tryz.prog (loopOf Tryz.f105 0) (laws_toBoolS_L0 l0 n1 l2) Ex.normal (laws_toBoolS_L0 l0 (n1 + 1) (l2.set n1.toNat [B b3])) :=
  .of_loopc (ks := [4, 0, 3]) (bs := []) (ans := [Ans.br true, Ans.el [B b3], Ans.el [d4]]) (by kernel_rfl) h

def laws_toBoolS_X0 (l0 : List (List D)) : St :=
  { env := envOf 22 [(3, PV.al (AL.one (Leaf.sl (Tag.own 7) 1 l0)))], boxes := [] }

theorem laws_toBoolS_L0_x1 (l0 : List (List D)) (n1 : Int) (l2 : List (List D))
    (h : Obs [decide (n1 < (↑l0.length : Int)) = false]) :
    Tr Tryz.prog (loopOf Tryz.f105 0) (laws_toBoolS_L0 l0 n1 l2) (Ex.exit 0) (laws_toBoolS_X0 l2) :=
  .of_loopc (ks := [3]) (bs := []) (ans := [Ans.br false]) (by kernel_rfl) h

theorem laws_toBoolS_p0 (l0 : List (List D)) (l1 : List (List D))
    (h : Obs [0 ≤ (↑l0.length : Int), (↑l0.length : Int) ≤ (↑l0.length : Int), (↑1 : Int) * (↑l0.length : Int) ≤ 281474976710656, (↑l0.length : Int) ≤ 9223372036854775807, LoopOk Tryz.prog (loopOf Tryz.f105 0) (laws_toBoolS_L0 l0 0 (List.replicate l0.length [B false])) (Ex.exit 0) (laws_toBoolS_X0 l1)]) :
    Ret Tryz.prog 105 [AD.one (D.sl 1 l0)] [AD.one (D.sl 1 l1)] :=
  .of [Ans.loop [] [4, 0, 3] [] (Ex.exit 0) (laws_toBoolS_X0 l1)] _ Tryz.func105 rfl (by kernel_rfl) h

/- loop.example/g00973/laws.toDone -/

theorem laws_toDone_p0 (n0 : Int) (b1 : Bool)
    (h : Obs []) :
    Ret Tryz.prog 122 [AD.agg [I n0, B b1]] [AD.agg [I n0, B b1]] :=
  .of [] _ Tryz.func122 rfl (by kernel_rfl) h

/- loop.example/g00973/laws.toDoneS -/

def laws_toDoneS_L0 (l0 : List (List D)) (n1 : Int) (l2 : List (List D)) : St :=
  { env := envOf 23 [(0, PV.al (AL.one (Leaf.sl Tag.free 2 l0))), (3, PV.al (AL.one (Leaf.sl (Tag.own 7) 2 l2))), (4, PV.al (AL.one (Leaf.v (Value.int IntKind.i64 n1))))], boxes := [] }

theorem laws_toDoneS_L0_s0 (l0 : List (List D)) (n1 : Int) (l2 : List (List D)) (n3 : Int) (b4 : Bool) (n5 : Int) (b6 : Bool) (d7 : D) (d8 : D)
    (h : Obs [decide (n1 < (↑l0.length : Int)) = true, 0 ≤ n1, n1 < (↑l0.length : Int), l0[n1.toNat]? = some [I n3, B b4], Ret Tryz.prog 122 [AD.agg [I n3, B b4]] [AD.agg [I n5, B b6]], 0 ≤ n1, n1 < (↑l2.length : Int), l2[n1.toNat]? = some [d7, d8], inInt IntKind.i64 (n1 + 1)]) :
    Tr Tryz.prog (loopOf Tryz.f106 0) (laws_toDoneS_L0 l0 n1 l2) Ex.normal (laws_toDoneS_L0 l0 (n1 + 1) (l2.set n1.toNat [I n5, B b6])) :=
  .of_loopc (ks := [4, 0, 3]) (bs := []) (ans := [Ans.br true, Ans.el [I n3, B b4], Ans.res [AD.agg [I n5, B b6]], Ans.el [d7, d8]]) (by kernel_rfl) h

def laws_toDoneS_X0 (l0 : List (List D)) : St :=
  { env := envOf 23 [(3, PV.al (AL.one (Leaf.sl (Tag.own 7) 2 l0)))], boxes := [] }

theorem laws_toDoneS_L0_x1 (l0 : List (List D)) (n1 : Int) (l2 : List (List D))
    (h : Obs [decide (n1 < (↑l0.length : Int)) = false]) :
    Tr Tryz.prog (loopOf Tryz.f106 0) (laws_toDoneS_L0 l0 n1 l2) (Ex.exit 0) (laws_toDoneS_X0 l2) :=
  .of_loopc (ks := [3]) (bs := []) (ans := [Ans.br false]) (by kernel_rfl) h

theorem laws_toDoneS_p0 (l0 : List (List D)) (l1 : List (List D))
    (h : Obs [0 ≤ (↑l0.length : Int), (↑l0.length : Int) ≤ (↑l0.length : Int), (↑16 : Int) * (↑l0.length : Int) ≤ 281474976710656, (↑l0.length : Int) ≤ 9223372036854775807, LoopOk Tryz.prog (loopOf Tryz.f106 0) (laws_toDoneS_L0 l0 0 (List.replicate l0.length [I 0, B false])) (Ex.exit 0) (laws_toDoneS_X0 l1)]) :
    Ret Tryz.prog 106 [AD.one (D.sl 2 l0)] [AD.one (D.sl 2 l1)] :=
  .of [Ans.loop [] [4, 0, 3] [] (Ex.exit 0) (laws_toDoneS_X0 l1)] _ Tryz.func106 rfl (by kernel_rfl) h

/- loop.example/g00973/laws.toToken -/

theorem laws_toToken_p0 (b0 : Bool) (n1 : Int) (n2 : Int) (b3 : Bool) (b4 : Bool)
    (h : Obs []) :
    Ret Tryz.prog 68 [AD.agg [B b0, I n1, I n2, B b3, B b4]] [AD.agg [B b0, I n1, I n2, B b3, B b4]] :=
  .of [] _ Tryz.func68 rfl (by kernel_rfl) h

/- loop.example/g00973/laws.toTokenS -/

def laws_toTokenS_L0 (l0 : List (List D)) (n1 : Int) (l2 : List (List D)) : St :=
  { env := envOf 23 [(0, PV.al (AL.one (Leaf.sl Tag.free 5 l0))), (3, PV.al (AL.one (Leaf.sl (Tag.own 7) 5 l2))), (4, PV.al (AL.one (Leaf.v (Value.int IntKind.i64 n1))))], boxes := [] }

theorem laws_toTokenS_L0_s0 (l0 : List (List D)) (n1 : Int) (l2 : List (List D)) (b3 : Bool) (n4 : Int) (n5 : Int) (b6 : Bool) (b7 : Bool) (b8 : Bool) (n9 : Int) (n10 : Int) (b11 : Bool) (b12 : Bool) (d13 : D) (d14 : D) (d15 : D) (d16 : D) (d17 : D)
    (h : Obs [decide (n1 < (↑l0.length : Int)) = true, 0 ≤ n1, n1 < (↑l0.length : Int), l0[n1.toNat]? = some [B b3, I n4, I n5, B b6, B b7], Ret Tryz.prog 68 [AD.agg [B b3, I n4, I n5, B b6, B b7]] [AD.agg [B b8, I n9, I n10, B b11, B b12]], 0 ≤ n1, n1 < (↑l2.length : Int), l2[n1.toNat]? = some [d13, d14, d15, d16, d17], inInt IntKind.i64 (n1 + 1)]) :
    Tr Tryz.prog (loopOf Tryz.f34 0) (laws_toTokenS_L0 l0 n1 l2) Ex.normal (laws_toTokenS_L0 l0 (n1 + 1) (l2.set n1.toNat [B b8, I n9, I n10, B b11, B b12])) :=
  .of_loopc (ks := [4, 0, 3]) (bs := []) (ans := [Ans.br true, Ans.el [B b3, I n4, I n5, B b6, B b7], Ans.res [AD.agg [B b8, I n9, I n10, B b11, B b12]], Ans.el [d13, d14, d15, d16, d17]]) (by kernel_rfl) h

def laws_toTokenS_X0 (l0 : List (List D)) : St :=
  { env := envOf 23 [(3, PV.al (AL.one (Leaf.sl (Tag.own 7) 5 l0)))], boxes := [] }

theorem laws_toTokenS_L0_x1 (l0 : List (List D)) (n1 : Int) (l2 : List (List D))
    (h : Obs [decide (n1 < (↑l0.length : Int)) = false]) :
    Tr Tryz.prog (loopOf Tryz.f34 0) (laws_toTokenS_L0 l0 n1 l2) (Ex.exit 0) (laws_toTokenS_X0 l2) :=
  .of_loopc (ks := [3]) (bs := []) (ans := [Ans.br false]) (by kernel_rfl) h

theorem laws_toTokenS_p0 (l0 : List (List D)) (l1 : List (List D))
    (h : Obs [0 ≤ (↑l0.length : Int), (↑l0.length : Int) ≤ (↑l0.length : Int), (↑32 : Int) * (↑l0.length : Int) ≤ 281474976710656, (↑l0.length : Int) ≤ 9223372036854775807, LoopOk Tryz.prog (loopOf Tryz.f34 0) (laws_toTokenS_L0 l0 0 (List.replicate l0.length [B false, I 0, I 0, B false, B false])) (Ex.exit 0) (laws_toTokenS_X0 l1)]) :
    Ret Tryz.prog 34 [AD.one (D.sl 5 l0)] [AD.one (D.sl 5 l1)] :=
  .of [Ans.loop [] [4, 0, 3] [] (Ex.exit 0) (laws_toTokenS_X0 l1)] _ Tryz.func34 rfl (by kernel_rfl) h

/- loop.example/g00973/laws.toNews -/

theorem laws_toNews_p0 (n0 : Int) (n1 : Int) (b2 : Bool)
    (h : Obs []) :
    Ret Tryz.prog 69 [AD.agg [I n0, I n1, B b2]] [AD.agg [I n0, I n1, B b2]] :=
  .of [] _ Tryz.func69 rfl (by kernel_rfl) h

/- loop.example/g00973/laws.toNewsS -/

def laws_toNewsS_L0 (l0 : List (List D)) (n1 : Int) (l2 : List (List D)) : St :=
  { env := envOf 23 [(0, PV.al (AL.one (Leaf.sl Tag.free 3 l0))), (3, PV.al (AL.one (Leaf.sl (Tag.own 7) 3 l2))), (4, PV.al (AL.one (Leaf.v (Value.int IntKind.i64 n1))))], boxes := [] }

theorem laws_toNewsS_L0_s0 (l0 : List (List D)) (n1 : Int) (l2 : List (List D)) (n3 : Int) (n4 : Int) (b5 : Bool) (n6 : Int) (n7 : Int) (b8 : Bool) (d9 : D) (d10 : D) (d11 : D)
    (h : Obs [decide (n1 < (↑l0.length : Int)) = true, 0 ≤ n1, n1 < (↑l0.length : Int), l0[n1.toNat]? = some [I n3, I n4, B b5], Ret Tryz.prog 69 [AD.agg [I n3, I n4, B b5]] [AD.agg [I n6, I n7, B b8]], 0 ≤ n1, n1 < (↑l2.length : Int), l2[n1.toNat]? = some [d9, d10, d11], inInt IntKind.i64 (n1 + 1)]) :
    Tr Tryz.prog (loopOf Tryz.f35 0) (laws_toNewsS_L0 l0 n1 l2) Ex.normal (laws_toNewsS_L0 l0 (n1 + 1) (l2.set n1.toNat [I n6, I n7, B b8])) :=
  .of_loopc (ks := [4, 0, 3]) (bs := []) (ans := [Ans.br true, Ans.el [I n3, I n4, B b5], Ans.res [AD.agg [I n6, I n7, B b8]], Ans.el [d9, d10, d11]]) (by kernel_rfl) h

def laws_toNewsS_X0 (l0 : List (List D)) : St :=
  { env := envOf 23 [(3, PV.al (AL.one (Leaf.sl (Tag.own 7) 3 l0)))], boxes := [] }

theorem laws_toNewsS_L0_x1 (l0 : List (List D)) (n1 : Int) (l2 : List (List D))
    (h : Obs [decide (n1 < (↑l0.length : Int)) = false]) :
    Tr Tryz.prog (loopOf Tryz.f35 0) (laws_toNewsS_L0 l0 n1 l2) (Ex.exit 0) (laws_toNewsS_X0 l2) :=
  .of_loopc (ks := [3]) (bs := []) (ans := [Ans.br false]) (by kernel_rfl) h

theorem laws_toNewsS_p0 (l0 : List (List D)) (l1 : List (List D))
    (h : Obs [0 ≤ (↑l0.length : Int), (↑l0.length : Int) ≤ (↑l0.length : Int), (↑24 : Int) * (↑l0.length : Int) ≤ 281474976710656, (↑l0.length : Int) ≤ 9223372036854775807, LoopOk Tryz.prog (loopOf Tryz.f35 0) (laws_toNewsS_L0 l0 0 (List.replicate l0.length [I 0, I 0, B false])) (Ex.exit 0) (laws_toNewsS_X0 l1)]) :
    Ret Tryz.prog 35 [AD.one (D.sl 3 l0)] [AD.one (D.sl 3 l1)] :=
  .of [Ans.loop [] [4, 0, 3] [] (Ex.exit 0) (laws_toNewsS_X0 l1)] _ Tryz.func35 rfl (by kernel_rfl) h

/- loop.example/g00973/laws.toNode -/

theorem laws_toNode_p0 (n0 : Int) (n1 : Int) (n2 : Int) (l3 : List (List D)) (l4 : List (List D))
    (h : Obs [Ret Tryz.prog 104 [AD.one (D.sl 1 l3)] [AD.one (D.sl 1 l4)]]) :
    Ret Tryz.prog 101 [AD.agg [I n0, I n1, I n2, D.sl 1 l3]] [AD.agg [I n0, I n1, I n2, D.sl 1 l4]] :=
  .of [Ans.res [AD.one (D.sl 1 l4)]] _ Tryz.func101 rfl (by kernel_rfl) h

/- loop.example/g00973/laws.toNodeS -/

def laws_toNodeS_L0 (l0 : List (List D)) (n1 : Int) (l2 : List (List D)) : St :=
  { env := envOf 23 [(0, PV.al (AL.one (Leaf.sl Tag.free 4 l0))), (3, PV.al (AL.one (Leaf.sl (Tag.own 7) 4 l2))), (4, PV.al (AL.one (Leaf.v (Value.int IntKind.i64 n1))))], boxes := [] }

theorem laws_toNodeS_L0_s0 (l0 : List (List D)) (n1 : Int) (l2 : List (List D)) (n3 : Int) (n4 : Int) (n5 : Int) (l6 : List (List D)) (n7 : Int) (n8 : Int) (n9 : Int) (l10 : List (List D)) (d11 : D) (d12 : D) (d13 : D) (d14 : D)
    (h : Obs [decide (n1 < (↑l0.length : Int)) = true, 0 ≤ n1, n1 < (↑l0.length : Int), l0[n1.toNat]? = some [I n3, I n4, I n5, D.sl 1 l6], Ret Tryz.prog 101 [AD.agg [I n3, I n4, I n5, D.sl 1 l6]] [AD.agg [I n7, I n8, I n9, D.sl 1 l10]], 0 ≤ n1, n1 < (↑l2.length : Int), l2[n1.toNat]? = some [d11, d12, d13, d14], inInt IntKind.i64 (n1 + 1)]) :
    Tr Tryz.prog (loopOf Tryz.f65 0) (laws_toNodeS_L0 l0 n1 l2) Ex.normal (laws_toNodeS_L0 l0 (n1 + 1) (l2.set n1.toNat [I n7, I n8, I n9, D.sl 1 l10])) :=
  .of_loopc (ks := [4, 0, 3]) (bs := []) (ans := [Ans.br true, Ans.el [I n3, I n4, I n5, D.sl 1 l6], Ans.res [AD.agg [I n7, I n8, I n9, D.sl 1 l10]], Ans.el [d11, d12, d13, d14]]) (by kernel_rfl) h

def laws_toNodeS_X0 (l0 : List (List D)) : St :=
  { env := envOf 23 [(3, PV.al (AL.one (Leaf.sl (Tag.own 7) 4 l0)))], boxes := [] }

theorem laws_toNodeS_L0_x1 (l0 : List (List D)) (n1 : Int) (l2 : List (List D))
    (h : Obs [decide (n1 < (↑l0.length : Int)) = false]) :
    Tr Tryz.prog (loopOf Tryz.f65 0) (laws_toNodeS_L0 l0 n1 l2) (Ex.exit 0) (laws_toNodeS_X0 l2) :=
  .of_loopc (ks := [3]) (bs := []) (ans := [Ans.br false]) (by kernel_rfl) h

theorem laws_toNodeS_p0 (l0 : List (List D)) (l1 : List (List D))
    (h : Obs [0 ≤ (↑l0.length : Int), (↑l0.length : Int) ≤ (↑l0.length : Int), (↑48 : Int) * (↑l0.length : Int) ≤ 281474976710656, (↑l0.length : Int) ≤ 9223372036854775807, LoopOk Tryz.prog (loopOf Tryz.f65 0) (laws_toNodeS_L0 l0 0 (List.replicate l0.length [I 0, I 0, I 0, D.v (Value.slice none 0 0)])) (Ex.exit 0) (laws_toNodeS_X0 l1)]) :
    Ret Tryz.prog 65 [AD.one (D.sl 4 l0)] [AD.one (D.sl 4 l1)] :=
  .of [Ans.loop [] [4, 0, 3] [] (Ex.exit 0) (laws_toNodeS_X0 l1)] _ Tryz.func65 rfl (by kernel_rfl) h

/- loop.example/g00973/laws.toLink -/

theorem laws_toLink_p0 (n0 : Int) (l1 : List (List D)) (n2 : Int) (n3 : Int) (n4 : Int) (n5 : Int) (l6 : List (List D))
    (h : Obs [Ret Tryz.prog 102 [AD.one (D.sl 5 l1)] [AD.one (D.sl 5 l6)]]) :
    Ret Tryz.prog 67 [AD.agg [I n0, D.sl 5 l1, I n2, I n3, I n4, I n5]] [AD.agg [I n0, D.sl 5 l6, I n2, I n3, I n4, I n5]] :=
  .of [Ans.res [AD.one (D.sl 5 l6)]] _ Tryz.func67 rfl (by kernel_rfl) h

/- loop.example/g00973/laws.toLinkS -/

def laws_toLinkS_L0 (l0 : List (List D)) (n1 : Int) (l2 : List (List D)) : St :=
  { env := envOf 23 [(0, PV.al (AL.one (Leaf.sl Tag.free 6 l0))), (3, PV.al (AL.one (Leaf.sl (Tag.own 7) 6 l2))), (4, PV.al (AL.one (Leaf.v (Value.int IntKind.i64 n1))))], boxes := [] }

theorem laws_toLinkS_L0_s0 (l0 : List (List D)) (n1 : Int) (l2 : List (List D)) (n3 : Int) (l4 : List (List D)) (n5 : Int) (n6 : Int) (n7 : Int) (n8 : Int) (n9 : Int) (l10 : List (List D)) (n11 : Int) (n12 : Int) (n13 : Int) (n14 : Int) (d15 : D) (d16 : D) (d17 : D) (d18 : D) (d19 : D) (d20 : D)
    (h : Obs [decide (n1 < (↑l0.length : Int)) = true, 0 ≤ n1, n1 < (↑l0.length : Int), l0[n1.toNat]? = some [I n3, D.sl 5 l4, I n5, I n6, I n7, I n8], Ret Tryz.prog 67 [AD.agg [I n3, D.sl 5 l4, I n5, I n6, I n7, I n8]] [AD.agg [I n9, D.sl 5 l10, I n11, I n12, I n13, I n14]], 0 ≤ n1, n1 < (↑l2.length : Int), l2[n1.toNat]? = some [d15, d16, d17, d18, d19, d20], inInt IntKind.i64 (n1 + 1)]) :
    Tr Tryz.prog (loopOf Tryz.f33 0) (laws_toLinkS_L0 l0 n1 l2) Ex.normal (laws_toLinkS_L0 l0 (n1 + 1) (l2.set n1.toNat [I n9, D.sl 5 l10, I n11, I n12, I n13, I n14])) :=
  .of_loopc (ks := [4, 0, 3]) (bs := []) (ans := [Ans.br true, Ans.el [I n3, D.sl 5 l4, I n5, I n6, I n7, I n8], Ans.res [AD.agg [I n9, D.sl 5 l10, I n11, I n12, I n13, I n14]], Ans.el [d15, d16, d17, d18, d19, d20]]) (by kernel_rfl) h

def laws_toLinkS_X0 (l0 : List (List D)) : St :=
  { env := envOf 23 [(3, PV.al (AL.one (Leaf.sl (Tag.own 7) 6 l0)))], boxes := [] }

theorem laws_toLinkS_L0_x1 (l0 : List (List D)) (n1 : Int) (l2 : List (List D))
    (h : Obs [decide (n1 < (↑l0.length : Int)) = false]) :
    Tr Tryz.prog (loopOf Tryz.f33 0) (laws_toLinkS_L0 l0 n1 l2) (Ex.exit 0) (laws_toLinkS_X0 l2) :=
  .of_loopc (ks := [3]) (bs := []) (ans := [Ans.br false]) (by kernel_rfl) h

theorem laws_toLinkS_p0 (l0 : List (List D)) (l1 : List (List D))
    (h : Obs [0 ≤ (↑l0.length : Int), (↑l0.length : Int) ≤ (↑l0.length : Int), (↑64 : Int) * (↑l0.length : Int) ≤ 281474976710656, (↑l0.length : Int) ≤ 9223372036854775807, LoopOk Tryz.prog (loopOf Tryz.f33 0) (laws_toLinkS_L0 l0 0 (List.replicate l0.length [I 0, D.v (Value.slice none 0 0), I 0, I 0, I 0, I 0])) (Ex.exit 0) (laws_toLinkS_X0 l1)]) :
    Ret Tryz.prog 33 [AD.one (D.sl 6 l0)] [AD.one (D.sl 6 l1)] :=
  .of [Ans.loop [] [4, 0, 3] [] (Ex.exit 0) (laws_toLinkS_X0 l1)] _ Tryz.func33 rfl (by kernel_rfl) h

/- loop.example/g00973/laws.toGraph -/

theorem laws_toGraph_p0 (l0 : List (List D)) (n1 : Int) (n2 : Int) (l3 : List (List D))
    (h : Obs [Ret Tryz.prog 65 [AD.one (D.sl 4 l0)] [AD.one (D.sl 4 l3)]]) :
    Ret Tryz.prog 31 [AD.agg [D.sl 4 l0, I n1, I n2]] [AD.agg [D.sl 4 l3, I n1, I n2]] :=
  .of [Ans.res [AD.one (D.sl 4 l3)]] _ Tryz.func31 rfl (by kernel_rfl) h

/- loop.example/g00973/laws.toWorker -/

theorem laws_toWorker_p0 (l0 : List (List D)) (l1 : List (List D)) (l2 : List (List D)) (l3 : List (List D)) (l4 : List (List D)) (l5 : List (List D)) (l6 : List (List D)) (l7 : List (List D)) (l8 : List (List D)) (l9 : List (List D)) (l10 : List (List D)) (l11 : List (List D)) (l12 : List (List D)) (l13 : List (List D)) (l14 : List (List D)) (l15 : List (List D))
    (h : Obs [Ret Tryz.prog 102 [AD.one (D.sl 5 l0)] [AD.one (D.sl 5 l8)], Ret Tryz.prog 102 [AD.one (D.sl 5 l1)] [AD.one (D.sl 5 l9)], Ret Tryz.prog 102 [AD.one (D.sl 5 l2)] [AD.one (D.sl 5 l10)], Ret Tryz.prog 103 [AD.one (D.sl 4 l3)] [AD.one (D.sl 4 l11)], Ret Tryz.prog 104 [AD.one (D.sl 1 l4)] [AD.one (D.sl 1 l12)], Ret Tryz.prog 105 [AD.one (D.sl 1 l5)] [AD.one (D.sl 1 l13)], Ret Tryz.prog 105 [AD.one (D.sl 1 l6)] [AD.one (D.sl 1 l14)], Ret Tryz.prog 106 [AD.one (D.sl 2 l7)] [AD.one (D.sl 2 l15)]]) :
    Ret Tryz.prog 66 [AD.agg [D.sl 5 l0, D.sl 5 l1, D.sl 5 l2, D.sl 4 l3, D.sl 1 l4, D.sl 1 l5, D.sl 1 l6, D.sl 2 l7]] [AD.agg [D.sl 5 l8, D.sl 5 l9, D.sl 5 l10, D.sl 4 l11, D.sl 1 l12, D.sl 1 l13, D.sl 1 l14, D.sl 2 l15]] :=
  .of [Ans.res [AD.one (D.sl 5 l8)], Ans.res [AD.one (D.sl 5 l9)], Ans.res [AD.one (D.sl 5 l10)], Ans.res [AD.one (D.sl 4 l11)], Ans.res [AD.one (D.sl 1 l12)], Ans.res [AD.one (D.sl 1 l13)], Ans.res [AD.one (D.sl 1 l14)], Ans.res [AD.one (D.sl 2 l15)]] _ Tryz.func66 rfl (by kernel_rfl) h

/- loop.example/g00973/laws.toWorkerS -/

def laws_toWorkerS_L0 (l0 : List (List D)) (n1 : Int) (l2 : List (List D)) : St :=
  { env := envOf 23 [(0, PV.al (AL.one (Leaf.sl Tag.free 8 l0))), (3, PV.al (AL.one (Leaf.sl (Tag.own 7) 8 l2))), (4, PV.al (AL.one (Leaf.v (Value.int IntKind.i64 n1))))], boxes := [] }

theorem laws_toWorkerS_L0_s0 (l0 : List (List D)) (n1 : Int) (l2 : List (List D)) (l3 : List (List D)) (l4 : List (List D)) (l5 : List (List D)) (l6 : List (List D)) (l7 : List (List D)) (l8 : List (List D)) (l9 : List (List D)) (l10 : List (List D)) (l11 : List (List D)) (l12 : List (List D)) (l13 : List (List D)) (l14 : List (List D)) (l15 : List (List D)) (l16 : List (List D)) (l17 : List (List D)) (l18 : List (List D)) (d19 : D) (d20 : D) (d21 : D) (d22 : D) (d23 : D) (d24 : D) (d25 : D) (d26 : D)
    (h : Obs [decide (n1 < (↑l0.length : Int)) = true, 0 ≤ n1, n1 < (↑l0.length : Int), l0[n1.toNat]? = some [D.sl 5 l3, D.sl 5 l4, D.sl 5 l5, D.sl 4 l6, D.sl 1 l7, D.sl 1 l8, D.sl 1 l9, D.sl 2 l10], Ret Tryz.prog 66 [AD.agg [D.sl 5 l3, D.sl 5 l4, D.sl 5 l5, D.sl 4 l6, D.sl 1 l7, D.sl 1 l8, D.sl 1 l9, D.sl 2 l10]] [AD.agg [D.sl 5 l11, D.sl 5 l12, D.sl 5 l13, D.sl 4 l14, D.sl 1 l15, D.sl 1 l16, D.sl 1 l17, D.sl 2 l18]], 0 ≤ n1, n1 < (↑l2.length : Int), l2[n1.toNat]? = some [d19, d20, d21, d22, d23, d24, d25, d26], inInt IntKind.i64 (n1 + 1)]) :
    Tr Tryz.prog (loopOf Tryz.f32 0) (laws_toWorkerS_L0 l0 n1 l2) Ex.normal (laws_toWorkerS_L0 l0 (n1 + 1) (l2.set n1.toNat [D.sl 5 l11, D.sl 5 l12, D.sl 5 l13, D.sl 4 l14, D.sl 1 l15, D.sl 1 l16, D.sl 1 l17, D.sl 2 l18])) :=
  .of_loopc (ks := [4, 0, 3]) (bs := []) (ans := [Ans.br true, Ans.el [D.sl 5 l3, D.sl 5 l4, D.sl 5 l5, D.sl 4 l6, D.sl 1 l7, D.sl 1 l8, D.sl 1 l9, D.sl 2 l10], Ans.res [AD.agg [D.sl 5 l11, D.sl 5 l12, D.sl 5 l13, D.sl 4 l14, D.sl 1 l15, D.sl 1 l16, D.sl 1 l17, D.sl 2 l18]], Ans.el [d19, d20, d21, d22, d23, d24, d25, d26]]) (by kernel_rfl) h

def laws_toWorkerS_X0 (l0 : List (List D)) : St :=
  { env := envOf 23 [(3, PV.al (AL.one (Leaf.sl (Tag.own 7) 8 l0)))], boxes := [] }

theorem laws_toWorkerS_L0_x1 (l0 : List (List D)) (n1 : Int) (l2 : List (List D))
    (h : Obs [decide (n1 < (↑l0.length : Int)) = false]) :
    Tr Tryz.prog (loopOf Tryz.f32 0) (laws_toWorkerS_L0 l0 n1 l2) (Ex.exit 0) (laws_toWorkerS_X0 l2) :=
  .of_loopc (ks := [3]) (bs := []) (ans := [Ans.br false]) (by kernel_rfl) h

theorem laws_toWorkerS_p0 (l0 : List (List D)) (l1 : List (List D))
    (h : Obs [0 ≤ (↑l0.length : Int), (↑l0.length : Int) ≤ (↑l0.length : Int), (↑192 : Int) * (↑l0.length : Int) ≤ 281474976710656, (↑l0.length : Int) ≤ 9223372036854775807, LoopOk Tryz.prog (loopOf Tryz.f32 0) (laws_toWorkerS_L0 l0 0 (List.replicate l0.length [D.v (Value.slice none 0 0), D.v (Value.slice none 0 0), D.v (Value.slice none 0 0), D.v (Value.slice none 0 0), D.v (Value.slice none 0 0), D.v (Value.slice none 0 0), D.v (Value.slice none 0 0), D.v (Value.slice none 0 0)])) (Ex.exit 0) (laws_toWorkerS_X0 l1)]) :
    Ret Tryz.prog 32 [AD.one (D.sl 8 l0)] [AD.one (D.sl 8 l1)] :=
  .of [Ans.loop [] [4, 0, 3] [] (Ex.exit 0) (laws_toWorkerS_X0 l1)] _ Tryz.func32 rfl (by kernel_rfl) h

/- loop.example/g00973/laws.toCluster -/

theorem laws_toCluster_p0 (l0 : List (List D)) (n1 : Int) (n2 : Int) (l3 : List (List D)) (l4 : List (List D)) (l5 : List (List D)) (l6 : List (List D)) (l7 : List (List D)) (n8 : Int) (n9 : Int) (l10 : List (List D)) (l11 : List (List D)) (l12 : List (List D)) (l13 : List (List D))
    (h : Obs [Ret Tryz.prog 31 [AD.agg [D.sl 4 l0, I n1, I n2]] [AD.agg [D.sl 4 l7, I n8, I n9]], Ret Tryz.prog 32 [AD.one (D.sl 8 l3)] [AD.one (D.sl 8 l10)], Ret Tryz.prog 33 [AD.one (D.sl 6 l4)] [AD.one (D.sl 6 l11)], Ret Tryz.prog 34 [AD.one (D.sl 5 l5)] [AD.one (D.sl 5 l12)], Ret Tryz.prog 35 [AD.one (D.sl 3 l6)] [AD.one (D.sl 3 l13)]]) :
    Ret Tryz.prog 9 [AD.agg [D.sl 4 l0, I n1, I n2, D.sl 8 l3, D.sl 6 l4, D.sl 5 l5, D.sl 3 l6]] [AD.agg [D.sl 4 l7, I n8, I n9, D.sl 8 l10, D.sl 6 l11, D.sl 5 l12, D.sl 3 l13]] :=
  .of [Ans.res [AD.agg [D.sl 4 l7, I n8, I n9]], Ans.res [AD.one (D.sl 8 l10)], Ans.res [AD.one (D.sl 6 l11)], Ans.res [AD.one (D.sl 5 l12)], Ans.res [AD.one (D.sl 3 l13)]] _ Tryz.func9 rfl (by kernel_rfl) h

/- loop.example/g00973/laws.toStamp -/

theorem laws_toStamp_p0 (n0 : Int) (n1 : Int)
    (h : Obs []) :
    Ret Tryz.prog 145 [AD.agg [I n0, I n1]] [AD.agg [I n0, I n1]] :=
  .of [] _ Tryz.func145 rfl (by kernel_rfl) h


end Go.Proofs.YtbbjajmimckabaaGreat
