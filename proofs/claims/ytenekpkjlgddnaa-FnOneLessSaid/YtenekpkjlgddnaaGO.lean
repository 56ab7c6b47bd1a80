import Derived.Test.YtenekpkjlgddnaaRows
import Derived.Test.YtenekpkjlgddnaaR22
import Derived.Test.YtenekpkjlgddnaaR33
set_option linter.unusedVariables false
set_option linter.unusedSimpArgs false
namespace Go.Proofs.Ytenekpkjlgddnaa
open Go.Sx Go.RowKit

/- loop.example/g00973/laws.big -/

theorem laws_big_p0 (l0 : List (List D))
    (h : Obs []) :
    Ret Try.prog 14 [AD.one (D.sl 1 l0)] [AD.one (B (decide ((↑l0.length : Int) > 1048576)))] :=
  .of [] _ Try.func14 rfl (by kernel_rfl) h

/- loop.example/g00973/laws.FnOneLess -/

theorem laws_FnOneLess_p0 (l0 : List (List D)) (b1 : Bool)
    (h : Obs [Ret Try.prog 14 [AD.one (D.sl 1 l0)] [AD.one (B b1)], b1 = true]) :
    Ret Try.prog 4 [AD.one (D.sl 1 l0)] [AD.one (B true)] :=
  .of [Ans.res [AD.one (B b1)], Ans.br true] _ Try.func4 rfl (by kernel_rfl) h

def laws_FnOneLess_L0 (l0 : List (List D)) (n1 : Int) (n2 : Int) (n3 : Int) (n4 : Int) (n5 : Int) (l6 : List (List D)) (n7 : Int) (n8 : Int) : St :=
  { env := envOf 71 [(3, PV.al (AL.one (Leaf.sl (Tag.own 130000) 5 l0))), (4, PV.al (AL.one (Leaf.ptr 4 0))), (5, PV.al (AL.one (Leaf.sl (Tag.own 180000) 5 l6))), (6, PV.al (AL.one (Leaf.v (Value.int IntKind.i64 n8)))), (7, PV.al (AL.one (Leaf.v (Value.int IntKind.i64 n7))))], boxes := [(4, [Leaf.v (Value.int IntKind.i64 n1), Leaf.v (Value.int IntKind.i64 n2), Leaf.v (Value.int IntKind.i64 n3), Leaf.v (Value.int IntKind.i64 n4), Leaf.v (Value.int IntKind.i64 n5)])] }

theorem laws_FnOneLess_L0_s0 (l2 : List (List D)) (n3 : Int) (n4 : Int) (n5 : Int) (n6 : Int) (n7 : Int) (l8 : List (List D)) (n9 : Int) (n10 : Int) (n11 : Int) (n12 : Int) (n13 : Int) (n14 : Int) (n15 : Int)
    (h : Obs [decide (n9 < (↑l2.length : Int)) = true, 0 ≤ n9, n9 < (↑l2.length : Int), l2[n9.toNat]? = some [I n11, I n12, I n13, I n14, I n15], (n11 == n3 && (n12 == n4 && n13 == n5 && (n14 == n6 && n15 == n7))) = true, inInt IntKind.i64 (n9 + 1)]) :
    Tr Try.prog (loopOf Try.f4 0) (laws_FnOneLess_L0 l2 n3 n4 n5 n6 n7 l8 n9 n10) Ex.normal (laws_FnOneLess_L0 l2 n3 n4 n5 n6 n7 l8 (n9 + 1) 1) :=
  .of_loopc (ks := [7, 3, 4, 5, 6]) (bs := [4]) (ans := [Ans.br true, Ans.el [I n11, I n12, I n13, I n14, I n15], Ans.br true]) (by kernel_rfl) h

theorem laws_FnOneLess_L0_s1 (l2 : List (List D)) (n3 : Int) (n4 : Int) (n5 : Int) (n6 : Int) (n7 : Int) (l8 : List (List D)) (n9 : Int) (n10 : Int) (n11 : Int) (n12 : Int) (n13 : Int) (n14 : Int) (n15 : Int)
    (h : Obs [decide (n9 < (↑l2.length : Int)) = true, 0 ≤ n9, n9 < (↑l2.length : Int), l2[n9.toNat]? = some [I n11, I n12, I n13, I n14, I n15], (n11 == n3 && (n12 == n4 && n13 == n5 && (n14 == n6 && n15 == n7))) = false, inInt IntKind.i64 (n9 + 1)]) :
    Tr Try.prog (loopOf Try.f4 0) (laws_FnOneLess_L0 l2 n3 n4 n5 n6 n7 l8 n9 n10) Ex.normal (laws_FnOneLess_L0 l2 n3 n4 n5 n6 n7 l8 (n9 + 1) n10) :=
  .of_loopc (ks := [7, 3, 4, 5, 6]) (bs := [4]) (ans := [Ans.br true, Ans.el [I n11, I n12, I n13, I n14, I n15], Ans.br false]) (by kernel_rfl) h

def laws_FnOneLess_X0 (l0 : List (List D)) (n1 : Int) (n2 : Int) (n3 : Int) (n4 : Int) (n5 : Int) (l6 : List (List D)) (n7 : Int) : St :=
  { env := envOf 71 [(3, PV.al (AL.one (Leaf.sl (Tag.own 130000) 5 l0))), (4, PV.al (AL.one (Leaf.ptr 4 0))), (5, PV.al (AL.one (Leaf.sl (Tag.own 180000) 5 l6))), (6, PV.al (AL.one (Leaf.v (Value.int IntKind.i64 n7))))], boxes := [(4, [Leaf.v (Value.int IntKind.i64 n1), Leaf.v (Value.int IntKind.i64 n2), Leaf.v (Value.int IntKind.i64 n3), Leaf.v (Value.int IntKind.i64 n4), Leaf.v (Value.int IntKind.i64 n5)])] }

theorem laws_FnOneLess_L0_x2 (l2 : List (List D)) (n3 : Int) (n4 : Int) (n5 : Int) (n6 : Int) (n7 : Int) (l8 : List (List D)) (n9 : Int) (n10 : Int)
    (h : Obs [decide (n9 < (↑l2.length : Int)) = false]) :
    Tr Try.prog (loopOf Try.f4 0) (laws_FnOneLess_L0 l2 n3 n4 n5 n6 n7 l8 n9 n10) (Ex.exit 0) (laws_FnOneLess_X0 l2 n3 n4 n5 n6 n7 l8 n10) :=
  .of_loopc (ks := [5, 3, 6, 4]) (bs := [4]) (ans := [Ans.br false]) (by kernel_rfl) h

theorem laws_FnOneLess_p3 (l0 : List (List D)) (b1 : Bool) (l2 : List (List D)) (n3 : Int) (n4 : Int) (n5 : Int) (n6 : Int) (n7 : Int) (l8 : List (List D)) (n9 : Int) (b10 : Bool) (l11 : List (List D)) (b12 : Bool)
    (h : Obs [Ret Try.prog 14 [AD.one (D.sl 1 l0)] [AD.one (B b1)], b1 = false, Ret Try.prog 15 [AD.one (D.sl 1 l0)] [AD.one (D.sl 5 l2), AD.agg [I n3, I n4, I n5, I n6, I n7]], Ret Try.prog 16 [AD.one (D.sl 5 l2), AD.agg [I n3, I n4, I n5, I n6, I n7]] [AD.one (D.sl 5 l8)], LoopOk Try.prog (loopOf Try.f4 0) (laws_FnOneLess_L0 l2 n3 n4 n5 n6 n7 l8 0 0) (Ex.exit 0) (laws_FnOneLess_X0 l2 n3 n4 n5 n6 n7 l8 n9), inInt IntKind.i64 ((↑l2.length : Int) - n9), ((↑l8.length : Int) == (↑l2.length : Int) - n9) = true, (n9 == 0) = true, decide (n9 > 0) = false, Ret Try.prog 18 [AD.one (D.sl 5 l8), AD.one (D.sl 5 l2)] [AD.one (B b10)], b10 = true, Ret Try.prog 16 [AD.one (D.sl 5 [[I 0, I 0, I 0, I 1, I 0]]), AD.agg [I 0, I 0, I 0, I 1, I 0]] [AD.one (D.sl 5 l11)], ((↑l11.length : Int) == 0) = true, Ret Try.prog 17 [AD.one (D.v (Value.slice none 0 0)), AD.one (D.v (Value.slice none 0 0))] [AD.one (B b12)]]) :
    Ret Try.prog 4 [AD.one (D.sl 1 l0)] [AD.one (B b12)] :=
  .of [Ans.res [AD.one (B b1)], Ans.br false, Ans.res [AD.one (D.sl 5 l2), AD.agg [I n3, I n4, I n5, I n6, I n7]], Ans.res [AD.one (D.sl 5 l8)], Ans.loop [] [7, 3, 4, 5, 6] [4] (Ex.exit 0) (laws_FnOneLess_X0 l2 n3 n4 n5 n6 n7 l8 n9), Ans.br true, Ans.br true, Ans.br false, Ans.res [AD.one (B b10)], Ans.br true, Ans.res [AD.one (D.sl 5 l11)], Ans.br true, Ans.res [AD.one (B b12)]] _ Try.func4 rfl (by kernel_rfl) h

theorem laws_FnOneLess_p6 (l0 : List (List D)) (b1 : Bool) (l2 : List (List D)) (n3 : Int) (n4 : Int) (n5 : Int) (n6 : Int) (n7 : Int) (l8 : List (List D)) (n9 : Int) (b10 : Bool) (l11 : List (List D)) (b12 : Bool)
    (h : Obs [Ret Try.prog 14 [AD.one (D.sl 1 l0)] [AD.one (B b1)], b1 = false, Ret Try.prog 15 [AD.one (D.sl 1 l0)] [AD.one (D.sl 5 l2), AD.agg [I n3, I n4, I n5, I n6, I n7]], Ret Try.prog 16 [AD.one (D.sl 5 l2), AD.agg [I n3, I n4, I n5, I n6, I n7]] [AD.one (D.sl 5 l8)], LoopOk Try.prog (loopOf Try.f4 0) (laws_FnOneLess_L0 l2 n3 n4 n5 n6 n7 l8 0 0) (Ex.exit 0) (laws_FnOneLess_X0 l2 n3 n4 n5 n6 n7 l8 n9), inInt IntKind.i64 ((↑l2.length : Int) - n9), ((↑l8.length : Int) == (↑l2.length : Int) - n9) = true, (n9 == 0) = false, (([] : List (List D)).length + l8.length) * 40 ≤ 140737488355328, ([] : List (List D)).length + l8.length ≤ 9223372036854775807, Flat l8, (([] ++ l8).length + [[I n3, I n4, I n5, I n6, I n7]].length) * 40 ≤ 140737488355328, ([] ++ l8).length + [[I n3, I n4, I n5, I n6, I n7]].length ≤ 9223372036854775807, Flat [[I n3, I n4, I n5, I n6, I n7]], Ret Try.prog 17 [AD.one (D.sl 5 ([] ++ l8 ++ [[I n3, I n4, I n5, I n6, I n7]])), AD.one (D.sl 5 l2)] [AD.one (B b10)], b10 = true, decide (n9 > 0) = true, Ret Try.prog 16 [AD.one (D.sl 5 [[I 0, I 0, I 0, I 1, I 0]]), AD.agg [I 0, I 0, I 0, I 1, I 0]] [AD.one (D.sl 5 l11)], ((↑l11.length : Int) == 0) = true, Ret Try.prog 17 [AD.one (D.v (Value.slice none 0 0)), AD.one (D.v (Value.slice none 0 0))] [AD.one (B b12)]]) :
    Ret Try.prog 4 [AD.one (D.sl 1 l0)] [AD.one (B b12)] :=
  .of [Ans.res [AD.one (B b1)], Ans.br false, Ans.res [AD.one (D.sl 5 l2), AD.agg [I n3, I n4, I n5, I n6, I n7]], Ans.res [AD.one (D.sl 5 l8)], Ans.loop [] [7, 3, 4, 5, 6] [4] (Ex.exit 0) (laws_FnOneLess_X0 l2 n3 n4 n5 n6 n7 l8 n9), Ans.br true, Ans.br false, Ans.res [AD.one (B b10)], Ans.br true, Ans.br true, Ans.res [AD.one (D.sl 5 l11)], Ans.br true, Ans.res [AD.one (B b12)]] _ Try.func4 rfl (by kernel_rfl) h

end Go.Proofs.Ytenekpkjlgddnaa
