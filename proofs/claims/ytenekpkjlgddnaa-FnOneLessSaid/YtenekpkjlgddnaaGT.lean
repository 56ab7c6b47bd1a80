import Derived.Test.YtenekpkjlgddnaaRows
import Derived.Test.YtenekpkjlgddnaaR22
import Derived.Test.YtenekpkjlgddnaaR33
set_option linter.unusedVariables false
set_option linter.unusedSimpArgs false
namespace Go.Proofs.Ytenekpkjlgddnaa
open Go.Sx Go.RowKit

/- slices.Equal[[]loop.example/g00973/impl.Record,loop.example/g00973/impl.Record] -/

theorem slices_Equal_Record_p0 (l0 : List (List D)) (l1 : List (List D))
    (h : Obs [((↑l0.length : Int) != (↑l1.length : Int)) = true]) :
    Ret Try.prog 38 [AD.one (D.sl 5 l0), AD.one (D.sl 5 l1)] [AD.one (B false)] :=
  .of [Ans.br true] _ Try.func38 rfl (by kernel_rfl) h

def slices_Equal_Record_L0 (l0 : List (List D)) (l1 : List (List D)) (n2 : Int) : St :=
  { env := envOf 26 [(0, PV.al (AL.one (Leaf.sl Tag.free 5 l0))), (1, PV.al (AL.one (Leaf.sl Tag.free 5 l1))), (12, PV.al (AL.one (Leaf.v (Value.int IntKind.i64 (↑l0.length : Int))))), (13, PV.al (AL.one (Leaf.v (Value.int IntKind.i64 n2))))], boxes := [] }

def slices_Equal_Record_X0 (b0 : Bool) : St :=
  { env := envOf 26 [(4, PV.al (AL.one (Leaf.sb b0)))], boxes := [] }

theorem slices_Equal_Record_L0_x0 (l0 : List (List D)) (l1 : List (List D)) (n2 : Int) (n3 : Int) (n4 : Int) (n5 : Int) (n6 : Int) (n7 : Int) (n8 : Int) (n9 : Int) (n10 : Int) (n11 : Int) (n12 : Int)
    (h : Obs [decide (n2 < (↑l0.length : Int)) = true, 0 ≤ n2, n2 < (↑l0.length : Int), l0[n2.toNat]? = some [I n3, I n4, I n5, I n6, I n7], 0 ≤ n2, n2 < (↑l1.length : Int), l1[n2.toNat]? = some [I n8, I n9, I n10, I n11, I n12], (!(n3 == n8 && (n4 == n9 && n5 == n10 && (n6 == n11 && n7 == n12)))) = true]) :
    Tr Try.prog (loopOf Try.f38 0) (slices_Equal_Record_L0 l0 l1 n2) Ex.ret (slices_Equal_Record_X0 false) :=
  .of_loopc (ks := [4]) (bs := []) (ans := [Ans.br true, Ans.el [I n3, I n4, I n5, I n6, I n7], Ans.el [I n8, I n9, I n10, I n11, I n12], Ans.br true]) (by kernel_rfl) h

theorem slices_Equal_Record_L0_s1 (l0 : List (List D)) (l1 : List (List D)) (n2 : Int) (n3 : Int) (n4 : Int) (n5 : Int) (n6 : Int) (n7 : Int) (n8 : Int) (n9 : Int) (n10 : Int) (n11 : Int) (n12 : Int)
    (h : Obs [decide (n2 < (↑l0.length : Int)) = true, 0 ≤ n2, n2 < (↑l0.length : Int), l0[n2.toNat]? = some [I n3, I n4, I n5, I n6, I n7], 0 ≤ n2, n2 < (↑l1.length : Int), l1[n2.toNat]? = some [I n8, I n9, I n10, I n11, I n12], (!(n3 == n8 && (n4 == n9 && n5 == n10 && (n6 == n11 && n7 == n12)))) = false, inInt IntKind.i64 (n2 + 1)]) :
    Tr Try.prog (loopOf Try.f38 0) (slices_Equal_Record_L0 l0 l1 n2) Ex.normal (slices_Equal_Record_L0 l0 l1 (n2 + 1)) :=
  .of_loopc (ks := [13, 12, 0, 1]) (bs := []) (ans := [Ans.br true, Ans.el [I n3, I n4, I n5, I n6, I n7], Ans.el [I n8, I n9, I n10, I n11, I n12], Ans.br false]) (by kernel_rfl) h

def slices_Equal_Record_X0v2 : St :=
  { env := envOf 26 [], boxes := [] }

theorem slices_Equal_Record_L0_x2 (l0 : List (List D)) (l1 : List (List D)) (n2 : Int)
    (h : Obs [decide (n2 < (↑l0.length : Int)) = false]) :
    Tr Try.prog (loopOf Try.f38 0) (slices_Equal_Record_L0 l0 l1 n2) (Ex.exit 0) slices_Equal_Record_X0v2 :=
  .of_loopc (ks := []) (bs := []) (ans := [Ans.br false]) (by kernel_rfl) h

theorem slices_Equal_Record_p1 (l0 : List (List D)) (l1 : List (List D)) (b2 : Bool)
    (h : Obs [((↑l0.length : Int) != (↑l1.length : Int)) = false, LoopOk Try.prog (loopOf Try.f38 0) (slices_Equal_Record_L0 l0 l1 0) Ex.ret (slices_Equal_Record_X0 b2)]) :
    Ret Try.prog 38 [AD.one (D.sl 5 l0), AD.one (D.sl 5 l1)] [AD.one (B b2)] :=
  .of [Ans.br false, Ans.loop [] [13, 12, 0, 1] [] Ex.ret (slices_Equal_Record_X0 b2)] _ Try.func38 rfl (by kernel_rfl) h

theorem slices_Equal_Record_p2 (l0 : List (List D)) (l1 : List (List D))
    (h : Obs [((↑l0.length : Int) != (↑l1.length : Int)) = false, LoopOk Try.prog (loopOf Try.f38 0) (slices_Equal_Record_L0 l0 l1 0) (Ex.exit 0) slices_Equal_Record_X0v2]) :
    Ret Try.prog 38 [AD.one (D.sl 5 l0), AD.one (D.sl 5 l1)] [AD.one (B true)] :=
  .of [Ans.br false, Ans.loop [] [13, 12, 0, 1] [] (Ex.exit 0) slices_Equal_Record_X0v2] _ Try.func38 rfl (by kernel_rfl) h

/- loop.example/g00973/laws.sameRecords -/

theorem laws_sameRecords_p0 (l0 : List (List D)) (l1 : List (List D))
    (h : Obs [((↑l0.length : Int) != (↑l1.length : Int)) = true]) :
    Ret Try.prog 18 [AD.one (D.sl 5 l0), AD.one (D.sl 5 l1)] [AD.one (B false)] :=
  .of [Ans.br true] _ Try.func18 rfl (by kernel_rfl) h

def laws_sameRecords_L0 (l0 : List (List D)) (l1 : List (List D)) (n2 : Int) : St :=
  { env := envOf 26 [(0, PV.al (AL.one (Leaf.sl Tag.free 5 l0))), (1, PV.al (AL.one (Leaf.sl Tag.free 5 l1))), (5, PV.al (AL.one (Leaf.v (Value.int IntKind.i64 n2))))], boxes := [] }

def laws_sameRecords_X0 (b0 : Bool) : St :=
  { env := envOf 26 [(4, PV.al (AL.one (Leaf.sb b0)))], boxes := [] }

theorem laws_sameRecords_L0_x0 (l0 : List (List D)) (l1 : List (List D)) (n2 : Int) (n3 : Int) (n4 : Int) (n5 : Int) (n6 : Int) (n7 : Int) (n8 : Int) (n9 : Int) (n10 : Int) (n11 : Int) (n12 : Int)
    (h : Obs [decide (n2 < (↑l0.length : Int)) = true, 0 ≤ n2, n2 < (↑l0.length : Int), l0[n2.toNat]? = some [I n3, I n4, I n5, I n6, I n7], 0 ≤ n2, n2 < (↑l1.length : Int), l1[n2.toNat]? = some [I n8, I n9, I n10, I n11, I n12], (!(n3 == n8 && (n4 == n9 && n5 == n10 && (n6 == n11 && n7 == n12)))) = true]) :
    Tr Try.prog (loopOf Try.f18 0) (laws_sameRecords_L0 l0 l1 n2) Ex.ret (laws_sameRecords_X0 false) :=
  .of_loopc (ks := [4]) (bs := []) (ans := [Ans.br true, Ans.el [I n3, I n4, I n5, I n6, I n7], Ans.el [I n8, I n9, I n10, I n11, I n12], Ans.br true]) (by kernel_rfl) h

theorem laws_sameRecords_L0_s1 (l0 : List (List D)) (l1 : List (List D)) (n2 : Int) (n3 : Int) (n4 : Int) (n5 : Int) (n6 : Int) (n7 : Int) (n8 : Int) (n9 : Int) (n10 : Int) (n11 : Int) (n12 : Int)
    (h : Obs [decide (n2 < (↑l0.length : Int)) = true, 0 ≤ n2, n2 < (↑l0.length : Int), l0[n2.toNat]? = some [I n3, I n4, I n5, I n6, I n7], 0 ≤ n2, n2 < (↑l1.length : Int), l1[n2.toNat]? = some [I n8, I n9, I n10, I n11, I n12], (!(n3 == n8 && (n4 == n9 && n5 == n10 && (n6 == n11 && n7 == n12)))) = false, inInt IntKind.i64 (n2 + 1)]) :
    Tr Try.prog (loopOf Try.f18 0) (laws_sameRecords_L0 l0 l1 n2) Ex.normal (laws_sameRecords_L0 l0 l1 (n2 + 1)) :=
  .of_loopc (ks := [5, 0, 1]) (bs := []) (ans := [Ans.br true, Ans.el [I n3, I n4, I n5, I n6, I n7], Ans.el [I n8, I n9, I n10, I n11, I n12], Ans.br false]) (by kernel_rfl) h

def laws_sameRecords_X0v2 : St :=
  { env := envOf 26 [], boxes := [] }

theorem laws_sameRecords_L0_x2 (l0 : List (List D)) (l1 : List (List D)) (n2 : Int)
    (h : Obs [decide (n2 < (↑l0.length : Int)) = false]) :
    Tr Try.prog (loopOf Try.f18 0) (laws_sameRecords_L0 l0 l1 n2) (Ex.exit 0) laws_sameRecords_X0v2 :=
  .of_loopc (ks := []) (bs := []) (ans := [Ans.br false]) (by kernel_rfl) h

theorem laws_sameRecords_p1 (l0 : List (List D)) (l1 : List (List D)) (b2 : Bool)
    (h : Obs [((↑l0.length : Int) != (↑l1.length : Int)) = false, LoopOk Try.prog (loopOf Try.f18 0) (laws_sameRecords_L0 l0 l1 0) Ex.ret (laws_sameRecords_X0 b2)]) :
    Ret Try.prog 18 [AD.one (D.sl 5 l0), AD.one (D.sl 5 l1)] [AD.one (B b2)] :=
  .of [Ans.br false, Ans.loop [] [5, 0, 1] [] Ex.ret (laws_sameRecords_X0 b2)] _ Try.func18 rfl (by kernel_rfl) h

theorem laws_sameRecords_p2 (l0 : List (List D)) (l1 : List (List D))
    (h : Obs [((↑l0.length : Int) != (↑l1.length : Int)) = false, LoopOk Try.prog (loopOf Try.f18 0) (laws_sameRecords_L0 l0 l1 0) (Ex.exit 0) laws_sameRecords_X0v2]) :
    Ret Try.prog 18 [AD.one (D.sl 5 l0), AD.one (D.sl 5 l1)] [AD.one (B true)] :=
  .of [Ans.br false, Ans.loop [] [5, 0, 1] [] (Ex.exit 0) laws_sameRecords_X0v2] _ Try.func18 rfl (by kernel_rfl) h

end Go.Proofs.Ytenekpkjlgddnaa
