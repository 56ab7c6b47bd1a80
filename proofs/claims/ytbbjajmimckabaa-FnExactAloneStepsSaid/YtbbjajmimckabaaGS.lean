import Derived.Test.YtbbjajmimckabaaRows
import Derived.Test.YtbbjajmimckabaaR23
set_option linter.unusedVariables false
set_option linter.unusedSimpArgs false
namespace Go.Proofs.Ytbbjajmimckabaa
open Go.Sx Go.RowKit

/- loop.example/g00973/spec.Capped -/

theorem spec_Capped_p0 (l0 : List (List D)) (n1 : Int) (n2 : Int) (n3 : Int) (n4 : Int) (n5 : Int) (n6 : Int) (n7 : Int) (n8 : Int) (n9 : Int) (n10 : Int) (l11 : List (List D)) (b12 : Bool) (n13 : Int) (n14 : Int) (b15 : Bool) (b16 : Bool) (b17 : Bool)
    (h : Obs [Ret Try.prog 106 [AD.agg [D.sl 4 l0, I n1, I n2], AD.one (I n3)] [AD.agg [I n8, I n9, I n10, D.sl 1 l11], AD.one (B b12)], Ret Try.prog 137 [AD.agg [I n4, I n5]] [AD.agg [I n13, I n14], AD.one (B b15)], b12 = true, Ret Try.prog 109 [AD.agg [D.sl 4 l0, I n1, I n2]] [AD.one (B b16)], b16 = true, Ret Try.prog 110 [AD.agg [I n3, I n4, I n5, I n6, I n7]] [AD.one (B b17)], b17 = true, (n8 == 7) = true, decide ((↑l11.length : Int) > 0) = true]) :
    Ret Try.prog 111 [AD.agg [D.sl 4 l0, I n1, I n2], AD.agg [I n3, I n4, I n5, I n6, I n7]] [AD.one (B !b15)] :=
  .of [Ans.res [AD.agg [I n8, I n9, I n10, D.sl 1 l11], AD.one (B b12)], Ans.res [AD.agg [I n13, I n14], AD.one (B b15)], Ans.br true, Ans.res [AD.one (B b16)], Ans.br true, Ans.res [AD.one (B b17)], Ans.br true, Ans.br true, Ans.br true] _ Try.func111 rfl (by kernel_rfl) h

theorem spec_Capped_p1 (l0 : List (List D)) (n1 : Int) (n2 : Int) (n3 : Int) (n4 : Int) (n5 : Int) (n6 : Int) (n7 : Int) (n8 : Int) (n9 : Int) (n10 : Int) (l11 : List (List D)) (b12 : Bool) (n13 : Int) (n14 : Int) (b15 : Bool) (b16 : Bool) (b17 : Bool)
    (h : Obs [Ret Try.prog 106 [AD.agg [D.sl 4 l0, I n1, I n2], AD.one (I n3)] [AD.agg [I n8, I n9, I n10, D.sl 1 l11], AD.one (B b12)], Ret Try.prog 137 [AD.agg [I n4, I n5]] [AD.agg [I n13, I n14], AD.one (B b15)], b12 = true, Ret Try.prog 109 [AD.agg [D.sl 4 l0, I n1, I n2]] [AD.one (B b16)], b16 = true, Ret Try.prog 110 [AD.agg [I n3, I n4, I n5, I n6, I n7]] [AD.one (B b17)], b17 = true, (n8 == 7) = true, decide ((↑l11.length : Int) > 0) = false]) :
    Ret Try.prog 111 [AD.agg [D.sl 4 l0, I n1, I n2], AD.agg [I n3, I n4, I n5, I n6, I n7]] [AD.one (B false)] :=
  .of [Ans.res [AD.agg [I n8, I n9, I n10, D.sl 1 l11], AD.one (B b12)], Ans.res [AD.agg [I n13, I n14], AD.one (B b15)], Ans.br true, Ans.res [AD.one (B b16)], Ans.br true, Ans.res [AD.one (B b17)], Ans.br true, Ans.br true, Ans.br false] _ Try.func111 rfl (by kernel_rfl) h

theorem spec_Capped_p2 (l0 : List (List D)) (n1 : Int) (n2 : Int) (n3 : Int) (n4 : Int) (n5 : Int) (n6 : Int) (n7 : Int) (n8 : Int) (n9 : Int) (n10 : Int) (l11 : List (List D)) (b12 : Bool) (n13 : Int) (n14 : Int) (b15 : Bool) (b16 : Bool) (b17 : Bool)
    (h : Obs [Ret Try.prog 106 [AD.agg [D.sl 4 l0, I n1, I n2], AD.one (I n3)] [AD.agg [I n8, I n9, I n10, D.sl 1 l11], AD.one (B b12)], Ret Try.prog 137 [AD.agg [I n4, I n5]] [AD.agg [I n13, I n14], AD.one (B b15)], b12 = true, Ret Try.prog 109 [AD.agg [D.sl 4 l0, I n1, I n2]] [AD.one (B b16)], b16 = true, Ret Try.prog 110 [AD.agg [I n3, I n4, I n5, I n6, I n7]] [AD.one (B b17)], b17 = true, (n8 == 7) = false]) :
    Ret Try.prog 111 [AD.agg [D.sl 4 l0, I n1, I n2], AD.agg [I n3, I n4, I n5, I n6, I n7]] [AD.one (B false)] :=
  .of [Ans.res [AD.agg [I n8, I n9, I n10, D.sl 1 l11], AD.one (B b12)], Ans.res [AD.agg [I n13, I n14], AD.one (B b15)], Ans.br true, Ans.res [AD.one (B b16)], Ans.br true, Ans.res [AD.one (B b17)], Ans.br true, Ans.br false] _ Try.func111 rfl (by kernel_rfl) h

theorem spec_Capped_p3 (l0 : List (List D)) (n1 : Int) (n2 : Int) (n3 : Int) (n4 : Int) (n5 : Int) (n6 : Int) (n7 : Int) (n8 : Int) (n9 : Int) (n10 : Int) (l11 : List (List D)) (b12 : Bool) (n13 : Int) (n14 : Int) (b15 : Bool) (b16 : Bool) (b17 : Bool)
    (h : Obs [Ret Try.prog 106 [AD.agg [D.sl 4 l0, I n1, I n2], AD.one (I n3)] [AD.agg [I n8, I n9, I n10, D.sl 1 l11], AD.one (B b12)], Ret Try.prog 137 [AD.agg [I n4, I n5]] [AD.agg [I n13, I n14], AD.one (B b15)], b12 = true, Ret Try.prog 109 [AD.agg [D.sl 4 l0, I n1, I n2]] [AD.one (B b16)], b16 = true, Ret Try.prog 110 [AD.agg [I n3, I n4, I n5, I n6, I n7]] [AD.one (B b17)], b17 = false]) :
    Ret Try.prog 111 [AD.agg [D.sl 4 l0, I n1, I n2], AD.agg [I n3, I n4, I n5, I n6, I n7]] [AD.one (B false)] :=
  .of [Ans.res [AD.agg [I n8, I n9, I n10, D.sl 1 l11], AD.one (B b12)], Ans.res [AD.agg [I n13, I n14], AD.one (B b15)], Ans.br true, Ans.res [AD.one (B b16)], Ans.br true, Ans.res [AD.one (B b17)], Ans.br false] _ Try.func111 rfl (by kernel_rfl) h

theorem spec_Capped_p4 (l0 : List (List D)) (n1 : Int) (n2 : Int) (n3 : Int) (n4 : Int) (n5 : Int) (n6 : Int) (n7 : Int) (n8 : Int) (n9 : Int) (n10 : Int) (l11 : List (List D)) (b12 : Bool) (n13 : Int) (n14 : Int) (b15 : Bool) (b16 : Bool)
    (h : Obs [Ret Try.prog 106 [AD.agg [D.sl 4 l0, I n1, I n2], AD.one (I n3)] [AD.agg [I n8, I n9, I n10, D.sl 1 l11], AD.one (B b12)], Ret Try.prog 137 [AD.agg [I n4, I n5]] [AD.agg [I n13, I n14], AD.one (B b15)], b12 = true, Ret Try.prog 109 [AD.agg [D.sl 4 l0, I n1, I n2]] [AD.one (B b16)], b16 = false]) :
    Ret Try.prog 111 [AD.agg [D.sl 4 l0, I n1, I n2], AD.agg [I n3, I n4, I n5, I n6, I n7]] [AD.one (B false)] :=
  .of [Ans.res [AD.agg [I n8, I n9, I n10, D.sl 1 l11], AD.one (B b12)], Ans.res [AD.agg [I n13, I n14], AD.one (B b15)], Ans.br true, Ans.res [AD.one (B b16)], Ans.br false] _ Try.func111 rfl (by kernel_rfl) h

theorem spec_Capped_p5 (l0 : List (List D)) (n1 : Int) (n2 : Int) (n3 : Int) (n4 : Int) (n5 : Int) (n6 : Int) (n7 : Int) (n8 : Int) (n9 : Int) (n10 : Int) (l11 : List (List D)) (b12 : Bool) (n13 : Int) (n14 : Int) (b15 : Bool)
    (h : Obs [Ret Try.prog 106 [AD.agg [D.sl 4 l0, I n1, I n2], AD.one (I n3)] [AD.agg [I n8, I n9, I n10, D.sl 1 l11], AD.one (B b12)], Ret Try.prog 137 [AD.agg [I n4, I n5]] [AD.agg [I n13, I n14], AD.one (B b15)], b12 = false]) :
    Ret Try.prog 111 [AD.agg [D.sl 4 l0, I n1, I n2], AD.agg [I n3, I n4, I n5, I n6, I n7]] [AD.one (B false)] :=
  .of [Ans.res [AD.agg [I n8, I n9, I n10, D.sl 1 l11], AD.one (B b12)], Ans.res [AD.agg [I n13, I n14], AD.one (B b15)], Ans.br false] _ Try.func111 rfl (by kernel_rfl) h

/- loop.example/g00973/spec.StepOp -/

theorem spec_StepOp_p0 (l0 : List (List D)) (n1 : Int) (n2 : Int) (l3 : List (List D)) (n4 : Int) (n5 : Int) (n6 : Int) (n7 : Int) (n8 : Int) (n9 : Int) (n10 : Int) (n11 : Int) (l12 : List (List D)) (b13 : Bool)
    (h : Obs [(([] : List (List D)).length + l3.length) * 32 ≤ 140737488355328, ([] : List (List D)).length + l3.length ≤ 9223372036854775807, Flat l3, Ret Try.prog 106 [AD.agg [D.sl 4 l0, I n1, I n2], AD.one (I n4)] [AD.agg [I n9, I n10, I n11, D.sl 1 l12], AD.one (B b13)], (!b13) = true]) :
    Ret Try.prog 112 [AD.agg [D.sl 4 l0, I n1, I n2], AD.one (D.sl 4 l3), AD.agg [I n4, I n5, I n6, I n7, I n8]] [AD.one (D.sl 4 ([] ++ l3)), AD.one (D.sl 5 []), AD.one (B false)] :=
  .of [Ans.res [AD.agg [I n9, I n10, I n11, D.sl 1 l12], AD.one (B b13)], Ans.br true] _ Try.func112 rfl (by kernel_rfl) h

theorem spec_StepOp_p1 (l0 : List (List D)) (n1 : Int) (n2 : Int) (l3 : List (List D)) (n4 : Int) (n5 : Int) (n6 : Int) (n7 : Int) (n8 : Int) (n9 : Int) (n10 : Int) (n11 : Int) (l12 : List (List D)) (b13 : Bool) (b14 : Bool)
    (h : Obs [(([] : List (List D)).length + l3.length) * 32 ≤ 140737488355328, ([] : List (List D)).length + l3.length ≤ 9223372036854775807, Flat l3, Ret Try.prog 106 [AD.agg [D.sl 4 l0, I n1, I n2], AD.one (I n4)] [AD.agg [I n9, I n10, I n11, D.sl 1 l12], AD.one (B b13)], (!b13) = false, Ret Try.prog 109 [AD.agg [D.sl 4 l0, I n1, I n2]] [AD.one (B b14)], (!b14) = true]) :
    Ret Try.prog 112 [AD.agg [D.sl 4 l0, I n1, I n2], AD.one (D.sl 4 l3), AD.agg [I n4, I n5, I n6, I n7, I n8]] [AD.one (D.sl 4 ([] ++ l3)), AD.one (D.sl 5 []), AD.one (B false)] :=
  .of [Ans.res [AD.agg [I n9, I n10, I n11, D.sl 1 l12], AD.one (B b13)], Ans.br false, Ans.res [AD.one (B b14)], Ans.br true] _ Try.func112 rfl (by kernel_rfl) h

theorem spec_StepOp_p2 (l0 : List (List D)) (n1 : Int) (n2 : Int) (l3 : List (List D)) (n4 : Int) (n5 : Int) (n6 : Int) (n7 : Int) (n8 : Int) (n9 : Int) (n10 : Int) (n11 : Int) (l12 : List (List D)) (b13 : Bool) (b14 : Bool) (b15 : Bool)
    (h : Obs [(([] : List (List D)).length + l3.length) * 32 ≤ 140737488355328, ([] : List (List D)).length + l3.length ≤ 9223372036854775807, Flat l3, Ret Try.prog 106 [AD.agg [D.sl 4 l0, I n1, I n2], AD.one (I n4)] [AD.agg [I n9, I n10, I n11, D.sl 1 l12], AD.one (B b13)], (!b13) = false, Ret Try.prog 109 [AD.agg [D.sl 4 l0, I n1, I n2]] [AD.one (B b14)], (!b14) = false, Ret Try.prog 110 [AD.agg [I n4, I n5, I n6, I n7, I n8]] [AD.one (B b15)], (!b15) = true]) :
    Ret Try.prog 112 [AD.agg [D.sl 4 l0, I n1, I n2], AD.one (D.sl 4 l3), AD.agg [I n4, I n5, I n6, I n7, I n8]] [AD.one (D.sl 4 ([] ++ l3)), AD.one (D.sl 5 []), AD.one (B false)] :=
  .of [Ans.res [AD.agg [I n9, I n10, I n11, D.sl 1 l12], AD.one (B b13)], Ans.br false, Ans.res [AD.one (B b14)], Ans.br false, Ans.res [AD.one (B b15)], Ans.br true] _ Try.func112 rfl (by kernel_rfl) h

theorem spec_StepOp_p3 (l0 : List (List D)) (n1 : Int) (n2 : Int) (l3 : List (List D)) (n4 : Int) (n5 : Int) (n6 : Int) (n7 : Int) (n8 : Int) (n9 : Int) (n10 : Int) (n11 : Int) (l12 : List (List D)) (b13 : Bool) (b14 : Bool) (b15 : Bool) (n16 : Int) (n17 : Int) (b18 : Bool)
    (h : Obs [(([] : List (List D)).length + l3.length) * 32 ≤ 140737488355328, ([] : List (List D)).length + l3.length ≤ 9223372036854775807, Flat l3, Ret Try.prog 106 [AD.agg [D.sl 4 l0, I n1, I n2], AD.one (I n4)] [AD.agg [I n9, I n10, I n11, D.sl 1 l12], AD.one (B b13)], (!b13) = false, Ret Try.prog 109 [AD.agg [D.sl 4 l0, I n1, I n2]] [AD.one (B b14)], (!b14) = false, Ret Try.prog 110 [AD.agg [I n4, I n5, I n6, I n7, I n8]] [AD.one (B b15)], (!b15) = false, Ret Try.prog 138 [AD.agg [I n9, I n10, I n11, D.sl 1 l12], AD.one (I n7), AD.one (I n8)] [AD.one (I n16), AD.one (I n17), AD.one (B b18)], (!b18) = true, (n9 != 8) = true]) :
    Ret Try.prog 112 [AD.agg [D.sl 4 l0, I n1, I n2], AD.one (D.sl 4 l3), AD.agg [I n4, I n5, I n6, I n7, I n8]] [AD.one (D.sl 4 ([] ++ l3)), AD.one (D.sl 5 []), AD.one (B true)] :=
  .of [Ans.res [AD.agg [I n9, I n10, I n11, D.sl 1 l12], AD.one (B b13)], Ans.br false, Ans.res [AD.one (B b14)], Ans.br false, Ans.res [AD.one (B b15)], Ans.br false, Ans.res [AD.one (I n16), AD.one (I n17), AD.one (B b18)], Ans.br true, Ans.br true] _ Try.func112 rfl (by kernel_rfl) h

theorem spec_StepOp_p4 (l0 : List (List D)) (n1 : Int) (n2 : Int) (l3 : List (List D)) (n4 : Int) (n5 : Int) (n6 : Int) (n7 : Int) (n8 : Int) (n9 : Int) (n10 : Int) (n11 : Int) (l12 : List (List D)) (b13 : Bool) (b14 : Bool) (b15 : Bool) (n16 : Int) (n17 : Int) (b18 : Bool) (b19 : Bool) (l20 : List (List D)) (b21 : Bool)
    (h : Obs [(([] : List (List D)).length + l3.length) * 32 ≤ 140737488355328, ([] : List (List D)).length + l3.length ≤ 9223372036854775807, Flat l3, Ret Try.prog 106 [AD.agg [D.sl 4 l0, I n1, I n2], AD.one (I n4)] [AD.agg [I n9, I n10, I n11, D.sl 1 l12], AD.one (B b13)], (!b13) = false, Ret Try.prog 109 [AD.agg [D.sl 4 l0, I n1, I n2]] [AD.one (B b14)], (!b14) = false, Ret Try.prog 110 [AD.agg [I n4, I n5, I n6, I n7, I n8]] [AD.one (B b15)], (!b15) = false, Ret Try.prog 138 [AD.agg [I n9, I n10, I n11, D.sl 1 l12], AD.one (I n7), AD.one (I n8)] [AD.one (I n16), AD.one (I n17), AD.one (B b18)], (!b18) = true, (n9 != 8) = false, Ret Try.prog 139 [AD.one (I n9)] [AD.one (B b19)], b19 = true, Ret Try.prog 140 [AD.one (I n9), AD.one (D.sl 4 l3), AD.agg [I n4, I n5, I n7, I n8]] [AD.one (D.sl 4 l20), AD.one (B b21)], (!b21) = true]) :
    Ret Try.prog 112 [AD.agg [D.sl 4 l0, I n1, I n2], AD.one (D.sl 4 l3), AD.agg [I n4, I n5, I n6, I n7, I n8]] [AD.one (D.sl 4 l20), AD.one (D.sl 5 []), AD.one (B true)] :=
  .of [Ans.res [AD.agg [I n9, I n10, I n11, D.sl 1 l12], AD.one (B b13)], Ans.br false, Ans.res [AD.one (B b14)], Ans.br false, Ans.res [AD.one (B b15)], Ans.br false, Ans.res [AD.one (I n16), AD.one (I n17), AD.one (B b18)], Ans.br true, Ans.br false, Ans.res [AD.one (B b19)], Ans.br true, Ans.res [AD.one (D.sl 4 l20), AD.one (B b21)], Ans.br true] _ Try.func112 rfl (by kernel_rfl) h

theorem spec_StepOp_p5 (l0 : List (List D)) (n1 : Int) (n2 : Int) (l3 : List (List D)) (n4 : Int) (n5 : Int) (n6 : Int) (n7 : Int) (n8 : Int) (n9 : Int) (n10 : Int) (n11 : Int) (l12 : List (List D)) (b13 : Bool) (b14 : Bool) (b15 : Bool) (n16 : Int) (n17 : Int) (b18 : Bool) (b19 : Bool) (l20 : List (List D)) (b21 : Bool) (n22 : Int) (n23 : Int) (b24 : Bool)
    (h : Obs [(([] : List (List D)).length + l3.length) * 32 ≤ 140737488355328, ([] : List (List D)).length + l3.length ≤ 9223372036854775807, Flat l3, Ret Try.prog 106 [AD.agg [D.sl 4 l0, I n1, I n2], AD.one (I n4)] [AD.agg [I n9, I n10, I n11, D.sl 1 l12], AD.one (B b13)], (!b13) = false, Ret Try.prog 109 [AD.agg [D.sl 4 l0, I n1, I n2]] [AD.one (B b14)], (!b14) = false, Ret Try.prog 110 [AD.agg [I n4, I n5, I n6, I n7, I n8]] [AD.one (B b15)], (!b15) = false, Ret Try.prog 138 [AD.agg [I n9, I n10, I n11, D.sl 1 l12], AD.one (I n7), AD.one (I n8)] [AD.one (I n16), AD.one (I n17), AD.one (B b18)], (!b18) = true, (n9 != 8) = false, Ret Try.prog 139 [AD.one (I n9)] [AD.one (B b19)], b19 = true, Ret Try.prog 140 [AD.one (I n9), AD.one (D.sl 4 l3), AD.agg [I n4, I n5, I n7, I n8]] [AD.one (D.sl 4 l20), AD.one (B b21)], (!b21) = false, (n9 == 7) = true, Ret Try.prog 137 [AD.agg [I n5, I n6]] [AD.agg [I n22, I n23], AD.one (B b24)], (!b24) = true]) :
    Ret Try.prog 112 [AD.agg [D.sl 4 l0, I n1, I n2], AD.one (D.sl 4 l3), AD.agg [I n4, I n5, I n6, I n7, I n8]] [AD.one (D.sl 4 l20), AD.one (D.sl 5 []), AD.one (B true)] :=
  .of [Ans.res [AD.agg [I n9, I n10, I n11, D.sl 1 l12], AD.one (B b13)], Ans.br false, Ans.res [AD.one (B b14)], Ans.br false, Ans.res [AD.one (B b15)], Ans.br false, Ans.res [AD.one (I n16), AD.one (I n17), AD.one (B b18)], Ans.br true, Ans.br false, Ans.res [AD.one (B b19)], Ans.br true, Ans.res [AD.one (D.sl 4 l20), AD.one (B b21)], Ans.br false, Ans.br true, Ans.res [AD.agg [I n22, I n23], AD.one (B b24)], Ans.br true] _ Try.func112 rfl (by kernel_rfl) h

def spec_StepOp_L0 (n0 : Int) (n1 : Int) (n2 : Int) (l3 : List (List D)) (n4 : Int) (n5 : Int) (l6 : List (List D)) (n7 : Int) (n8 : Int) (n9 : Int) (l10 : List (List D)) : St :=
  { env := envOf 127 [(9, PV.al (AL.one (Leaf.sl (Tag.own 840000) 4 l6))), (10, PV.al (AL.one (Leaf.sl (Tag.own 25) 5 l10))), (11, PV.al (AL.one (Leaf.ptr 11 0))), (13, PV.al (AL.one (Leaf.v (Value.int IntKind.i64 n4)))), (14, PV.al (AL.one (Leaf.v (Value.int IntKind.i64 n5)))), (18, PV.al (AL.one (Leaf.ptr 18 0))), (21, PV.al (AL.one (Leaf.v (Value.int IntKind.i64 n9))))], boxes := [(18, [Leaf.v (Value.int IntKind.i64 n7), Leaf.v (Value.int IntKind.i64 n8)]), (11, [Leaf.v (Value.int IntKind.i64 n0), Leaf.v (Value.int IntKind.i64 n1), Leaf.v (Value.int IntKind.i64 n2), Leaf.sl (Tag.own 310003) 1 l3])] }

theorem spec_StepOp_L0_s0 (n9 : Int) (n10 : Int) (n11 : Int) (l12 : List (List D)) (n16 : Int) (n17 : Int) (l20 : List (List D)) (n22 : Int) (n23 : Int) (n25 : Int) (l26 : List (List D)) (n27 : Int)
    (h : Obs [decide (n25 < (↑l12.length : Int)) = true, 0 ≤ n25, n25 < (↑l12.length : Int), l12[n25.toNat]? = some [I n27], (l26.length + [[I n27, I n22, I n23, I n16, I n17]].length) * 40 ≤ 140737488355328, l26.length + [[I n27, I n22, I n23, I n16, I n17]].length ≤ 9223372036854775807, Flat [[I n27, I n22, I n23, I n16, I n17]], inInt IntKind.i64 (n25 + 1)]) :
    Tr Try.prog (loopOf Try.f112 0) (spec_StepOp_L0 n9 n10 n11 l12 n16 n17 l20 n22 n23 n25 l26) Ex.normal (spec_StepOp_L0 n9 n10 n11 l12 n16 n17 l20 n22 n23 (n25 + 1) (l26 ++ [[I n27, I n22, I n23, I n16, I n17]])) :=
  .of_loopc (ks := [21, 11, 10, 18, 13, 14, 9]) (bs := [18, 11]) (ans := [Ans.br true, Ans.el [I n27]]) (by kernel_rfl) h

def spec_StepOp_X0 (l0 : List (List D)) (l1 : List (List D)) : St :=
  { env := envOf 127 [(9, PV.al (AL.one (Leaf.sl (Tag.own 840000) 4 l0))), (10, PV.al (AL.one (Leaf.sl (Tag.own 25) 5 l1)))], boxes := [] }

theorem spec_StepOp_L0_x1 (n9 : Int) (n10 : Int) (n11 : Int) (l12 : List (List D)) (n16 : Int) (n17 : Int) (l20 : List (List D)) (n22 : Int) (n23 : Int) (n25 : Int) (l26 : List (List D))
    (h : Obs [decide (n25 < (↑l12.length : Int)) = false]) :
    Tr Try.prog (loopOf Try.f112 0) (spec_StepOp_L0 n9 n10 n11 l12 n16 n17 l20 n22 n23 n25 l26) (Ex.exit 0) (spec_StepOp_X0 l20 l26) :=
  .of_loopc (ks := [9, 10]) (bs := []) (ans := [Ans.br false]) (by kernel_rfl) h

theorem spec_StepOp_p6 (l0 : List (List D)) (n1 : Int) (n2 : Int) (l3 : List (List D)) (n4 : Int) (n5 : Int) (n6 : Int) (n7 : Int) (n8 : Int) (n9 : Int) (n10 : Int) (n11 : Int) (l12 : List (List D)) (b13 : Bool) (b14 : Bool) (b15 : Bool) (n16 : Int) (n17 : Int) (b18 : Bool) (b19 : Bool) (l20 : List (List D)) (b21 : Bool) (n22 : Int) (n23 : Int) (b24 : Bool) (l25 : List (List D))
    (h : Obs [(([] : List (List D)).length + l3.length) * 32 ≤ 140737488355328, ([] : List (List D)).length + l3.length ≤ 9223372036854775807, Flat l3, Ret Try.prog 106 [AD.agg [D.sl 4 l0, I n1, I n2], AD.one (I n4)] [AD.agg [I n9, I n10, I n11, D.sl 1 l12], AD.one (B b13)], (!b13) = false, Ret Try.prog 109 [AD.agg [D.sl 4 l0, I n1, I n2]] [AD.one (B b14)], (!b14) = false, Ret Try.prog 110 [AD.agg [I n4, I n5, I n6, I n7, I n8]] [AD.one (B b15)], (!b15) = false, Ret Try.prog 138 [AD.agg [I n9, I n10, I n11, D.sl 1 l12], AD.one (I n7), AD.one (I n8)] [AD.one (I n16), AD.one (I n17), AD.one (B b18)], (!b18) = true, (n9 != 8) = false, Ret Try.prog 139 [AD.one (I n9)] [AD.one (B b19)], b19 = true, Ret Try.prog 140 [AD.one (I n9), AD.one (D.sl 4 l3), AD.agg [I n4, I n5, I n7, I n8]] [AD.one (D.sl 4 l20), AD.one (B b21)], (!b21) = false, (n9 == 7) = true, Ret Try.prog 137 [AD.agg [I n5, I n6]] [AD.agg [I n22, I n23], AD.one (B b24)], (!b24) = false, LoopOk Try.prog (loopOf Try.f112 0) (spec_StepOp_L0 n9 n10 n11 l12 n16 n17 l20 n22 n23 0 []) (Ex.exit 0) (spec_StepOp_X0 l20 l25)]) :
    Ret Try.prog 112 [AD.agg [D.sl 4 l0, I n1, I n2], AD.one (D.sl 4 l3), AD.agg [I n4, I n5, I n6, I n7, I n8]] [AD.one (D.sl 4 l20), AD.one (D.sl 5 l25), AD.one (B true)] :=
  .of [Ans.res [AD.agg [I n9, I n10, I n11, D.sl 1 l12], AD.one (B b13)], Ans.br false, Ans.res [AD.one (B b14)], Ans.br false, Ans.res [AD.one (B b15)], Ans.br false, Ans.res [AD.one (I n16), AD.one (I n17), AD.one (B b18)], Ans.br true, Ans.br false, Ans.res [AD.one (B b19)], Ans.br true, Ans.res [AD.one (D.sl 4 l20), AD.one (B b21)], Ans.br false, Ans.br true, Ans.res [AD.agg [I n22, I n23], AD.one (B b24)], Ans.br false, Ans.loop [] [21, 11, 10, 18, 13, 14, 9] [18, 11] (Ex.exit 0) (spec_StepOp_X0 l20 l25)] _ Try.func112 rfl (by kernel_rfl) h

def spec_StepOp_L0v2 (n0 : Int) (n1 : Int) (n2 : Int) (n3 : Int) (n4 : Int) (l5 : List (List D)) (n6 : Int) (n7 : Int) (l8 : List (List D)) (n9 : Int) (l10 : List (List D)) : St :=
  { env := envOf 127 [(9, PV.al (AL.one (Leaf.sl (Tag.own 840000) 4 l8))), (10, PV.al (AL.one (Leaf.sl (Tag.own 25) 5 l10))), (11, PV.al (AL.one (Leaf.ptr 11 0))), (13, PV.al (AL.one (Leaf.v (Value.int IntKind.i64 n6)))), (14, PV.al (AL.one (Leaf.v (Value.int IntKind.i64 n7)))), (18, PV.al (AL.one (Leaf.ptr 18 0))), (21, PV.al (AL.one (Leaf.v (Value.int IntKind.i64 n9))))], boxes := [(18, [Leaf.v (Value.int IntKind.i64 n0), Leaf.v (Value.int IntKind.i64 n1)]), (11, [Leaf.v (Value.int IntKind.i64 n2), Leaf.v (Value.int IntKind.i64 n3), Leaf.v (Value.int IntKind.i64 n4), Leaf.sl (Tag.own 310003) 1 l5])] }

theorem spec_StepOp_L0v2_s0 (n5 : Int) (n6 : Int) (n9 : Int) (n10 : Int) (n11 : Int) (l12 : List (List D)) (n16 : Int) (n17 : Int) (l20 : List (List D)) (n22 : Int) (l23 : List (List D)) (n24 : Int)
    (h : Obs [decide (n22 < (↑l12.length : Int)) = true, 0 ≤ n22, n22 < (↑l12.length : Int), l12[n22.toNat]? = some [I n24], (l23.length + [[I n24, I n5, I n6, I n16, I n17]].length) * 40 ≤ 140737488355328, l23.length + [[I n24, I n5, I n6, I n16, I n17]].length ≤ 9223372036854775807, Flat [[I n24, I n5, I n6, I n16, I n17]], inInt IntKind.i64 (n22 + 1)]) :
    Tr Try.prog (loopOf Try.f112 0) (spec_StepOp_L0v2 n5 n6 n9 n10 n11 l12 n16 n17 l20 n22 l23) Ex.normal (spec_StepOp_L0v2 n5 n6 n9 n10 n11 l12 n16 n17 l20 (n22 + 1) (l23 ++ [[I n24, I n5, I n6, I n16, I n17]])) :=
  .of_loopc (ks := [21, 11, 10, 18, 13, 14, 9]) (bs := [18, 11]) (ans := [Ans.br true, Ans.el [I n24]]) (by kernel_rfl) h

theorem spec_StepOp_L0v2_x1 (n5 : Int) (n6 : Int) (n9 : Int) (n10 : Int) (n11 : Int) (l12 : List (List D)) (n16 : Int) (n17 : Int) (l20 : List (List D)) (n22 : Int) (l23 : List (List D))
    (h : Obs [decide (n22 < (↑l12.length : Int)) = false]) :
    Tr Try.prog (loopOf Try.f112 0) (spec_StepOp_L0v2 n5 n6 n9 n10 n11 l12 n16 n17 l20 n22 l23) (Ex.exit 0) (spec_StepOp_X0 l20 l23) :=
  .of_loopc (ks := [9, 10]) (bs := []) (ans := [Ans.br false]) (by kernel_rfl) h

theorem spec_StepOp_p7 (l0 : List (List D)) (n1 : Int) (n2 : Int) (l3 : List (List D)) (n4 : Int) (n5 : Int) (n6 : Int) (n7 : Int) (n8 : Int) (n9 : Int) (n10 : Int) (n11 : Int) (l12 : List (List D)) (b13 : Bool) (b14 : Bool) (b15 : Bool) (n16 : Int) (n17 : Int) (b18 : Bool) (b19 : Bool) (l20 : List (List D)) (b21 : Bool) (l22 : List (List D))
    (h : Obs [(([] : List (List D)).length + l3.length) * 32 ≤ 140737488355328, ([] : List (List D)).length + l3.length ≤ 9223372036854775807, Flat l3, Ret Try.prog 106 [AD.agg [D.sl 4 l0, I n1, I n2], AD.one (I n4)] [AD.agg [I n9, I n10, I n11, D.sl 1 l12], AD.one (B b13)], (!b13) = false, Ret Try.prog 109 [AD.agg [D.sl 4 l0, I n1, I n2]] [AD.one (B b14)], (!b14) = false, Ret Try.prog 110 [AD.agg [I n4, I n5, I n6, I n7, I n8]] [AD.one (B b15)], (!b15) = false, Ret Try.prog 138 [AD.agg [I n9, I n10, I n11, D.sl 1 l12], AD.one (I n7), AD.one (I n8)] [AD.one (I n16), AD.one (I n17), AD.one (B b18)], (!b18) = true, (n9 != 8) = false, Ret Try.prog 139 [AD.one (I n9)] [AD.one (B b19)], b19 = true, Ret Try.prog 140 [AD.one (I n9), AD.one (D.sl 4 l3), AD.agg [I n4, I n5, I n7, I n8]] [AD.one (D.sl 4 l20), AD.one (B b21)], (!b21) = false, (n9 == 7) = false, LoopOk Try.prog (loopOf Try.f112 0) (spec_StepOp_L0v2 n5 n6 n9 n10 n11 l12 n16 n17 l20 0 []) (Ex.exit 0) (spec_StepOp_X0 l20 l22)]) :
    Ret Try.prog 112 [AD.agg [D.sl 4 l0, I n1, I n2], AD.one (D.sl 4 l3), AD.agg [I n4, I n5, I n6, I n7, I n8]] [AD.one (D.sl 4 l20), AD.one (D.sl 5 l22), AD.one (B true)] :=
  .of [Ans.res [AD.agg [I n9, I n10, I n11, D.sl 1 l12], AD.one (B b13)], Ans.br false, Ans.res [AD.one (B b14)], Ans.br false, Ans.res [AD.one (B b15)], Ans.br false, Ans.res [AD.one (I n16), AD.one (I n17), AD.one (B b18)], Ans.br true, Ans.br false, Ans.res [AD.one (B b19)], Ans.br true, Ans.res [AD.one (D.sl 4 l20), AD.one (B b21)], Ans.br false, Ans.br false, Ans.loop [] [21, 11, 10, 18, 13, 14, 9] [18, 11] (Ex.exit 0) (spec_StepOp_X0 l20 l22)] _ Try.func112 rfl (by kernel_rfl) h

theorem spec_StepOp_p8 (l0 : List (List D)) (n1 : Int) (n2 : Int) (l3 : List (List D)) (n4 : Int) (n5 : Int) (n6 : Int) (n7 : Int) (n8 : Int) (n9 : Int) (n10 : Int) (n11 : Int) (l12 : List (List D)) (b13 : Bool) (b14 : Bool) (b15 : Bool) (n16 : Int) (n17 : Int) (b18 : Bool) (b19 : Bool) (n20 : Int) (n21 : Int) (b22 : Bool)
    (h : Obs [(([] : List (List D)).length + l3.length) * 32 ≤ 140737488355328, ([] : List (List D)).length + l3.length ≤ 9223372036854775807, Flat l3, Ret Try.prog 106 [AD.agg [D.sl 4 l0, I n1, I n2], AD.one (I n4)] [AD.agg [I n9, I n10, I n11, D.sl 1 l12], AD.one (B b13)], (!b13) = false, Ret Try.prog 109 [AD.agg [D.sl 4 l0, I n1, I n2]] [AD.one (B b14)], (!b14) = false, Ret Try.prog 110 [AD.agg [I n4, I n5, I n6, I n7, I n8]] [AD.one (B b15)], (!b15) = false, Ret Try.prog 138 [AD.agg [I n9, I n10, I n11, D.sl 1 l12], AD.one (I n7), AD.one (I n8)] [AD.one (I n16), AD.one (I n17), AD.one (B b18)], (!b18) = true, (n9 != 8) = false, Ret Try.prog 139 [AD.one (I n9)] [AD.one (B b19)], b19 = false, (n9 == 7) = true, Ret Try.prog 137 [AD.agg [I n5, I n6]] [AD.agg [I n20, I n21], AD.one (B b22)], (!b22) = true]) :
    Ret Try.prog 112 [AD.agg [D.sl 4 l0, I n1, I n2], AD.one (D.sl 4 l3), AD.agg [I n4, I n5, I n6, I n7, I n8]] [AD.one (D.sl 4 ([] ++ l3)), AD.one (D.sl 5 []), AD.one (B true)] :=
  .of [Ans.res [AD.agg [I n9, I n10, I n11, D.sl 1 l12], AD.one (B b13)], Ans.br false, Ans.res [AD.one (B b14)], Ans.br false, Ans.res [AD.one (B b15)], Ans.br false, Ans.res [AD.one (I n16), AD.one (I n17), AD.one (B b18)], Ans.br true, Ans.br false, Ans.res [AD.one (B b19)], Ans.br false, Ans.br true, Ans.res [AD.agg [I n20, I n21], AD.one (B b22)], Ans.br true] _ Try.func112 rfl (by kernel_rfl) h

def spec_StepOp_L0v3 (l0 : List (List D)) (n1 : Int) (n2 : Int) (n3 : Int) (l4 : List (List D)) (n5 : Int) (n6 : Int) (n7 : Int) (n8 : Int) (n9 : Int) (l10 : List (List D)) : St :=
  { env := envOf 127 [(9, PV.al (AL.one (Leaf.sl (Tag.own 22) 4 ([] ++ l0)))), (10, PV.al (AL.one (Leaf.sl (Tag.own 25) 5 l10))), (11, PV.al (AL.one (Leaf.ptr 11 0))), (13, PV.al (AL.one (Leaf.v (Value.int IntKind.i64 n5)))), (14, PV.al (AL.one (Leaf.v (Value.int IntKind.i64 n6)))), (18, PV.al (AL.one (Leaf.ptr 18 0))), (21, PV.al (AL.one (Leaf.v (Value.int IntKind.i64 n9))))], boxes := [(18, [Leaf.v (Value.int IntKind.i64 n7), Leaf.v (Value.int IntKind.i64 n8)]), (11, [Leaf.v (Value.int IntKind.i64 n1), Leaf.v (Value.int IntKind.i64 n2), Leaf.v (Value.int IntKind.i64 n3), Leaf.sl (Tag.own 310003) 1 l4])] }

theorem spec_StepOp_L0v3_s0 (l3 : List (List D)) (n9 : Int) (n10 : Int) (n11 : Int) (l12 : List (List D)) (n16 : Int) (n17 : Int) (n20 : Int) (n21 : Int) (n23 : Int) (l24 : List (List D)) (n25 : Int)
    (h : Obs [decide (n23 < (↑l12.length : Int)) = true, 0 ≤ n23, n23 < (↑l12.length : Int), l12[n23.toNat]? = some [I n25], (l24.length + [[I n25, I n20, I n21, I n16, I n17]].length) * 40 ≤ 140737488355328, l24.length + [[I n25, I n20, I n21, I n16, I n17]].length ≤ 9223372036854775807, Flat [[I n25, I n20, I n21, I n16, I n17]], inInt IntKind.i64 (n23 + 1)]) :
    Tr Try.prog (loopOf Try.f112 0) (spec_StepOp_L0v3 l3 n9 n10 n11 l12 n16 n17 n20 n21 n23 l24) Ex.normal (spec_StepOp_L0v3 l3 n9 n10 n11 l12 n16 n17 n20 n21 (n23 + 1) (l24 ++ [[I n25, I n20, I n21, I n16, I n17]])) :=
  .of_loopc (ks := [21, 11, 10, 18, 13, 14, 9]) (bs := [18, 11]) (ans := [Ans.br true, Ans.el [I n25]]) (by kernel_rfl) h

def spec_StepOp_X0v4 (l0 : List (List D)) (l1 : List (List D)) : St :=
  { env := envOf 127 [(9, PV.al (AL.one (Leaf.sl (Tag.own 22) 4 ([] ++ l0)))), (10, PV.al (AL.one (Leaf.sl (Tag.own 25) 5 l1)))], boxes := [] }

theorem spec_StepOp_L0v3_x1 (l3 : List (List D)) (n9 : Int) (n10 : Int) (n11 : Int) (l12 : List (List D)) (n16 : Int) (n17 : Int) (n20 : Int) (n21 : Int) (n23 : Int) (l24 : List (List D))
    (h : Obs [decide (n23 < (↑l12.length : Int)) = false]) :
    Tr Try.prog (loopOf Try.f112 0) (spec_StepOp_L0v3 l3 n9 n10 n11 l12 n16 n17 n20 n21 n23 l24) (Ex.exit 0) (spec_StepOp_X0v4 l3 l24) :=
  .of_loopc (ks := [9, 10]) (bs := []) (ans := [Ans.br false]) (by kernel_rfl) h

theorem spec_StepOp_p9 (l0 : List (List D)) (n1 : Int) (n2 : Int) (l3 : List (List D)) (n4 : Int) (n5 : Int) (n6 : Int) (n7 : Int) (n8 : Int) (n9 : Int) (n10 : Int) (n11 : Int) (l12 : List (List D)) (b13 : Bool) (b14 : Bool) (b15 : Bool) (n16 : Int) (n17 : Int) (b18 : Bool) (b19 : Bool) (n20 : Int) (n21 : Int) (b22 : Bool) (l23 : List (List D))
    (h : Obs [(([] : List (List D)).length + l3.length) * 32 ≤ 140737488355328, ([] : List (List D)).length + l3.length ≤ 9223372036854775807, Flat l3, Ret Try.prog 106 [AD.agg [D.sl 4 l0, I n1, I n2], AD.one (I n4)] [AD.agg [I n9, I n10, I n11, D.sl 1 l12], AD.one (B b13)], (!b13) = false, Ret Try.prog 109 [AD.agg [D.sl 4 l0, I n1, I n2]] [AD.one (B b14)], (!b14) = false, Ret Try.prog 110 [AD.agg [I n4, I n5, I n6, I n7, I n8]] [AD.one (B b15)], (!b15) = false, Ret Try.prog 138 [AD.agg [I n9, I n10, I n11, D.sl 1 l12], AD.one (I n7), AD.one (I n8)] [AD.one (I n16), AD.one (I n17), AD.one (B b18)], (!b18) = true, (n9 != 8) = false, Ret Try.prog 139 [AD.one (I n9)] [AD.one (B b19)], b19 = false, (n9 == 7) = true, Ret Try.prog 137 [AD.agg [I n5, I n6]] [AD.agg [I n20, I n21], AD.one (B b22)], (!b22) = false, LoopOk Try.prog (loopOf Try.f112 0) (spec_StepOp_L0v3 l3 n9 n10 n11 l12 n16 n17 n20 n21 0 []) (Ex.exit 0) (spec_StepOp_X0v4 l3 l23)]) :
    Ret Try.prog 112 [AD.agg [D.sl 4 l0, I n1, I n2], AD.one (D.sl 4 l3), AD.agg [I n4, I n5, I n6, I n7, I n8]] [AD.one (D.sl 4 ([] ++ l3)), AD.one (D.sl 5 l23), AD.one (B true)] :=
  .of [Ans.res [AD.agg [I n9, I n10, I n11, D.sl 1 l12], AD.one (B b13)], Ans.br false, Ans.res [AD.one (B b14)], Ans.br false, Ans.res [AD.one (B b15)], Ans.br false, Ans.res [AD.one (I n16), AD.one (I n17), AD.one (B b18)], Ans.br true, Ans.br false, Ans.res [AD.one (B b19)], Ans.br false, Ans.br true, Ans.res [AD.agg [I n20, I n21], AD.one (B b22)], Ans.br false, Ans.loop [] [21, 11, 10, 18, 13, 14, 9] [18, 11] (Ex.exit 0) (spec_StepOp_X0v4 l3 l23)] _ Try.func112 rfl (by kernel_rfl) h

def spec_StepOp_L0v5 (l0 : List (List D)) (n1 : Int) (n2 : Int) (n3 : Int) (n4 : Int) (n5 : Int) (l6 : List (List D)) (n7 : Int) (n8 : Int) (n9 : Int) (l10 : List (List D)) : St :=
  { env := envOf 127 [(9, PV.al (AL.one (Leaf.sl (Tag.own 22) 4 ([] ++ l0)))), (10, PV.al (AL.one (Leaf.sl (Tag.own 25) 5 l10))), (11, PV.al (AL.one (Leaf.ptr 11 0))), (13, PV.al (AL.one (Leaf.v (Value.int IntKind.i64 n7)))), (14, PV.al (AL.one (Leaf.v (Value.int IntKind.i64 n8)))), (18, PV.al (AL.one (Leaf.ptr 18 0))), (21, PV.al (AL.one (Leaf.v (Value.int IntKind.i64 n9))))], boxes := [(18, [Leaf.v (Value.int IntKind.i64 n1), Leaf.v (Value.int IntKind.i64 n2)]), (11, [Leaf.v (Value.int IntKind.i64 n3), Leaf.v (Value.int IntKind.i64 n4), Leaf.v (Value.int IntKind.i64 n5), Leaf.sl (Tag.own 310003) 1 l6])] }

theorem spec_StepOp_L0v5_s0 (l3 : List (List D)) (n5 : Int) (n6 : Int) (n9 : Int) (n10 : Int) (n11 : Int) (l12 : List (List D)) (n16 : Int) (n17 : Int) (n20 : Int) (l21 : List (List D)) (n22 : Int)
    (h : Obs [decide (n20 < (↑l12.length : Int)) = true, 0 ≤ n20, n20 < (↑l12.length : Int), l12[n20.toNat]? = some [I n22], (l21.length + [[I n22, I n5, I n6, I n16, I n17]].length) * 40 ≤ 140737488355328, l21.length + [[I n22, I n5, I n6, I n16, I n17]].length ≤ 9223372036854775807, Flat [[I n22, I n5, I n6, I n16, I n17]], inInt IntKind.i64 (n20 + 1)]) :
    Tr Try.prog (loopOf Try.f112 0) (spec_StepOp_L0v5 l3 n5 n6 n9 n10 n11 l12 n16 n17 n20 l21) Ex.normal (spec_StepOp_L0v5 l3 n5 n6 n9 n10 n11 l12 n16 n17 (n20 + 1) (l21 ++ [[I n22, I n5, I n6, I n16, I n17]])) :=
  .of_loopc (ks := [21, 11, 10, 18, 13, 14, 9]) (bs := [18, 11]) (ans := [Ans.br true, Ans.el [I n22]]) (by kernel_rfl) h

theorem spec_StepOp_L0v5_x1 (l3 : List (List D)) (n5 : Int) (n6 : Int) (n9 : Int) (n10 : Int) (n11 : Int) (l12 : List (List D)) (n16 : Int) (n17 : Int) (n20 : Int) (l21 : List (List D))
    (h : Obs [decide (n20 < (↑l12.length : Int)) = false]) :
    Tr Try.prog (loopOf Try.f112 0) (spec_StepOp_L0v5 l3 n5 n6 n9 n10 n11 l12 n16 n17 n20 l21) (Ex.exit 0) (spec_StepOp_X0v4 l3 l21) :=
  .of_loopc (ks := [9, 10]) (bs := []) (ans := [Ans.br false]) (by kernel_rfl) h

theorem spec_StepOp_p10 (l0 : List (List D)) (n1 : Int) (n2 : Int) (l3 : List (List D)) (n4 : Int) (n5 : Int) (n6 : Int) (n7 : Int) (n8 : Int) (n9 : Int) (n10 : Int) (n11 : Int) (l12 : List (List D)) (b13 : Bool) (b14 : Bool) (b15 : Bool) (n16 : Int) (n17 : Int) (b18 : Bool) (b19 : Bool) (l20 : List (List D))
    (h : Obs [(([] : List (List D)).length + l3.length) * 32 ≤ 140737488355328, ([] : List (List D)).length + l3.length ≤ 9223372036854775807, Flat l3, Ret Try.prog 106 [AD.agg [D.sl 4 l0, I n1, I n2], AD.one (I n4)] [AD.agg [I n9, I n10, I n11, D.sl 1 l12], AD.one (B b13)], (!b13) = false, Ret Try.prog 109 [AD.agg [D.sl 4 l0, I n1, I n2]] [AD.one (B b14)], (!b14) = false, Ret Try.prog 110 [AD.agg [I n4, I n5, I n6, I n7, I n8]] [AD.one (B b15)], (!b15) = false, Ret Try.prog 138 [AD.agg [I n9, I n10, I n11, D.sl 1 l12], AD.one (I n7), AD.one (I n8)] [AD.one (I n16), AD.one (I n17), AD.one (B b18)], (!b18) = true, (n9 != 8) = false, Ret Try.prog 139 [AD.one (I n9)] [AD.one (B b19)], b19 = false, (n9 == 7) = false, LoopOk Try.prog (loopOf Try.f112 0) (spec_StepOp_L0v5 l3 n5 n6 n9 n10 n11 l12 n16 n17 0 []) (Ex.exit 0) (spec_StepOp_X0v4 l3 l20)]) :
    Ret Try.prog 112 [AD.agg [D.sl 4 l0, I n1, I n2], AD.one (D.sl 4 l3), AD.agg [I n4, I n5, I n6, I n7, I n8]] [AD.one (D.sl 4 ([] ++ l3)), AD.one (D.sl 5 l20), AD.one (B true)] :=
  .of [Ans.res [AD.agg [I n9, I n10, I n11, D.sl 1 l12], AD.one (B b13)], Ans.br false, Ans.res [AD.one (B b14)], Ans.br false, Ans.res [AD.one (B b15)], Ans.br false, Ans.res [AD.one (I n16), AD.one (I n17), AD.one (B b18)], Ans.br true, Ans.br false, Ans.res [AD.one (B b19)], Ans.br false, Ans.br false, Ans.loop [] [21, 11, 10, 18, 13, 14, 9] [18, 11] (Ex.exit 0) (spec_StepOp_X0v4 l3 l20)] _ Try.func112 rfl (by kernel_rfl) h

theorem spec_StepOp_p11 (l0 : List (List D)) (n1 : Int) (n2 : Int) (l3 : List (List D)) (n4 : Int) (n5 : Int) (n6 : Int) (n7 : Int) (n8 : Int) (n9 : Int) (n10 : Int) (n11 : Int) (l12 : List (List D)) (b13 : Bool) (b14 : Bool) (b15 : Bool) (n16 : Int) (n17 : Int) (b18 : Bool) (b19 : Bool) (l20 : List (List D)) (b21 : Bool)
    (h : Obs [(([] : List (List D)).length + l3.length) * 32 ≤ 140737488355328, ([] : List (List D)).length + l3.length ≤ 9223372036854775807, Flat l3, Ret Try.prog 106 [AD.agg [D.sl 4 l0, I n1, I n2], AD.one (I n4)] [AD.agg [I n9, I n10, I n11, D.sl 1 l12], AD.one (B b13)], (!b13) = false, Ret Try.prog 109 [AD.agg [D.sl 4 l0, I n1, I n2]] [AD.one (B b14)], (!b14) = false, Ret Try.prog 110 [AD.agg [I n4, I n5, I n6, I n7, I n8]] [AD.one (B b15)], (!b15) = false, Ret Try.prog 138 [AD.agg [I n9, I n10, I n11, D.sl 1 l12], AD.one (I n7), AD.one (I n8)] [AD.one (I n16), AD.one (I n17), AD.one (B b18)], (!b18) = false, Ret Try.prog 139 [AD.one (I n9)] [AD.one (B b19)], b19 = true, Ret Try.prog 140 [AD.one (I n9), AD.one (D.sl 4 l3), AD.agg [I n4, I n5, I n7, I n8]] [AD.one (D.sl 4 l20), AD.one (B b21)], (!b21) = true]) :
    Ret Try.prog 112 [AD.agg [D.sl 4 l0, I n1, I n2], AD.one (D.sl 4 l3), AD.agg [I n4, I n5, I n6, I n7, I n8]] [AD.one (D.sl 4 l20), AD.one (D.sl 5 []), AD.one (B true)] :=
  .of [Ans.res [AD.agg [I n9, I n10, I n11, D.sl 1 l12], AD.one (B b13)], Ans.br false, Ans.res [AD.one (B b14)], Ans.br false, Ans.res [AD.one (B b15)], Ans.br false, Ans.res [AD.one (I n16), AD.one (I n17), AD.one (B b18)], Ans.br false, Ans.res [AD.one (B b19)], Ans.br true, Ans.res [AD.one (D.sl 4 l20), AD.one (B b21)], Ans.br true] _ Try.func112 rfl (by kernel_rfl) h

theorem spec_StepOp_p12 (l0 : List (List D)) (n1 : Int) (n2 : Int) (l3 : List (List D)) (n4 : Int) (n5 : Int) (n6 : Int) (n7 : Int) (n8 : Int) (n9 : Int) (n10 : Int) (n11 : Int) (l12 : List (List D)) (b13 : Bool) (b14 : Bool) (b15 : Bool) (n16 : Int) (n17 : Int) (b18 : Bool) (b19 : Bool) (l20 : List (List D)) (b21 : Bool) (n22 : Int) (n23 : Int) (b24 : Bool)
    (h : Obs [(([] : List (List D)).length + l3.length) * 32 ≤ 140737488355328, ([] : List (List D)).length + l3.length ≤ 9223372036854775807, Flat l3, Ret Try.prog 106 [AD.agg [D.sl 4 l0, I n1, I n2], AD.one (I n4)] [AD.agg [I n9, I n10, I n11, D.sl 1 l12], AD.one (B b13)], (!b13) = false, Ret Try.prog 109 [AD.agg [D.sl 4 l0, I n1, I n2]] [AD.one (B b14)], (!b14) = false, Ret Try.prog 110 [AD.agg [I n4, I n5, I n6, I n7, I n8]] [AD.one (B b15)], (!b15) = false, Ret Try.prog 138 [AD.agg [I n9, I n10, I n11, D.sl 1 l12], AD.one (I n7), AD.one (I n8)] [AD.one (I n16), AD.one (I n17), AD.one (B b18)], (!b18) = false, Ret Try.prog 139 [AD.one (I n9)] [AD.one (B b19)], b19 = true, Ret Try.prog 140 [AD.one (I n9), AD.one (D.sl 4 l3), AD.agg [I n4, I n5, I n7, I n8]] [AD.one (D.sl 4 l20), AD.one (B b21)], (!b21) = false, (n9 == 7) = true, Ret Try.prog 137 [AD.agg [I n5, I n6]] [AD.agg [I n22, I n23], AD.one (B b24)], (!b24) = true]) :
    Ret Try.prog 112 [AD.agg [D.sl 4 l0, I n1, I n2], AD.one (D.sl 4 l3), AD.agg [I n4, I n5, I n6, I n7, I n8]] [AD.one (D.sl 4 l20), AD.one (D.sl 5 []), AD.one (B true)] :=
  .of [Ans.res [AD.agg [I n9, I n10, I n11, D.sl 1 l12], AD.one (B b13)], Ans.br false, Ans.res [AD.one (B b14)], Ans.br false, Ans.res [AD.one (B b15)], Ans.br false, Ans.res [AD.one (I n16), AD.one (I n17), AD.one (B b18)], Ans.br false, Ans.res [AD.one (B b19)], Ans.br true, Ans.res [AD.one (D.sl 4 l20), AD.one (B b21)], Ans.br false, Ans.br true, Ans.res [AD.agg [I n22, I n23], AD.one (B b24)], Ans.br true] _ Try.func112 rfl (by kernel_rfl) h

theorem spec_StepOp_p13 (l0 : List (List D)) (n1 : Int) (n2 : Int) (l3 : List (List D)) (n4 : Int) (n5 : Int) (n6 : Int) (n7 : Int) (n8 : Int) (n9 : Int) (n10 : Int) (n11 : Int) (l12 : List (List D)) (b13 : Bool) (b14 : Bool) (b15 : Bool) (n16 : Int) (n17 : Int) (b18 : Bool) (b19 : Bool) (l20 : List (List D)) (b21 : Bool) (n22 : Int) (n23 : Int) (b24 : Bool) (l25 : List (List D))
    (h : Obs [(([] : List (List D)).length + l3.length) * 32 ≤ 140737488355328, ([] : List (List D)).length + l3.length ≤ 9223372036854775807, Flat l3, Ret Try.prog 106 [AD.agg [D.sl 4 l0, I n1, I n2], AD.one (I n4)] [AD.agg [I n9, I n10, I n11, D.sl 1 l12], AD.one (B b13)], (!b13) = false, Ret Try.prog 109 [AD.agg [D.sl 4 l0, I n1, I n2]] [AD.one (B b14)], (!b14) = false, Ret Try.prog 110 [AD.agg [I n4, I n5, I n6, I n7, I n8]] [AD.one (B b15)], (!b15) = false, Ret Try.prog 138 [AD.agg [I n9, I n10, I n11, D.sl 1 l12], AD.one (I n7), AD.one (I n8)] [AD.one (I n16), AD.one (I n17), AD.one (B b18)], (!b18) = false, Ret Try.prog 139 [AD.one (I n9)] [AD.one (B b19)], b19 = true, Ret Try.prog 140 [AD.one (I n9), AD.one (D.sl 4 l3), AD.agg [I n4, I n5, I n7, I n8]] [AD.one (D.sl 4 l20), AD.one (B b21)], (!b21) = false, (n9 == 7) = true, Ret Try.prog 137 [AD.agg [I n5, I n6]] [AD.agg [I n22, I n23], AD.one (B b24)], (!b24) = false, LoopOk Try.prog (loopOf Try.f112 0) (spec_StepOp_L0 n9 n10 n11 l12 n16 n17 l20 n22 n23 0 []) (Ex.exit 0) (spec_StepOp_X0 l20 l25)]) :
    Ret Try.prog 112 [AD.agg [D.sl 4 l0, I n1, I n2], AD.one (D.sl 4 l3), AD.agg [I n4, I n5, I n6, I n7, I n8]] [AD.one (D.sl 4 l20), AD.one (D.sl 5 l25), AD.one (B true)] :=
  .of [Ans.res [AD.agg [I n9, I n10, I n11, D.sl 1 l12], AD.one (B b13)], Ans.br false, Ans.res [AD.one (B b14)], Ans.br false, Ans.res [AD.one (B b15)], Ans.br false, Ans.res [AD.one (I n16), AD.one (I n17), AD.one (B b18)], Ans.br false, Ans.res [AD.one (B b19)], Ans.br true, Ans.res [AD.one (D.sl 4 l20), AD.one (B b21)], Ans.br false, Ans.br true, Ans.res [AD.agg [I n22, I n23], AD.one (B b24)], Ans.br false, Ans.loop [] [21, 11, 10, 18, 13, 14, 9] [18, 11] (Ex.exit 0) (spec_StepOp_X0 l20 l25)] _ Try.func112 rfl (by kernel_rfl) h

theorem spec_StepOp_p14 (l0 : List (List D)) (n1 : Int) (n2 : Int) (l3 : List (List D)) (n4 : Int) (n5 : Int) (n6 : Int) (n7 : Int) (n8 : Int) (n9 : Int) (n10 : Int) (n11 : Int) (l12 : List (List D)) (b13 : Bool) (b14 : Bool) (b15 : Bool) (n16 : Int) (n17 : Int) (b18 : Bool) (b19 : Bool) (l20 : List (List D)) (b21 : Bool) (l22 : List (List D))
    (h : Obs [(([] : List (List D)).length + l3.length) * 32 ≤ 140737488355328, ([] : List (List D)).length + l3.length ≤ 9223372036854775807, Flat l3, Ret Try.prog 106 [AD.agg [D.sl 4 l0, I n1, I n2], AD.one (I n4)] [AD.agg [I n9, I n10, I n11, D.sl 1 l12], AD.one (B b13)], (!b13) = false, Ret Try.prog 109 [AD.agg [D.sl 4 l0, I n1, I n2]] [AD.one (B b14)], (!b14) = false, Ret Try.prog 110 [AD.agg [I n4, I n5, I n6, I n7, I n8]] [AD.one (B b15)], (!b15) = false, Ret Try.prog 138 [AD.agg [I n9, I n10, I n11, D.sl 1 l12], AD.one (I n7), AD.one (I n8)] [AD.one (I n16), AD.one (I n17), AD.one (B b18)], (!b18) = false, Ret Try.prog 139 [AD.one (I n9)] [AD.one (B b19)], b19 = true, Ret Try.prog 140 [AD.one (I n9), AD.one (D.sl 4 l3), AD.agg [I n4, I n5, I n7, I n8]] [AD.one (D.sl 4 l20), AD.one (B b21)], (!b21) = false, (n9 == 7) = false, LoopOk Try.prog (loopOf Try.f112 0) (spec_StepOp_L0v2 n5 n6 n9 n10 n11 l12 n16 n17 l20 0 []) (Ex.exit 0) (spec_StepOp_X0 l20 l22)]) :
    Ret Try.prog 112 [AD.agg [D.sl 4 l0, I n1, I n2], AD.one (D.sl 4 l3), AD.agg [I n4, I n5, I n6, I n7, I n8]] [AD.one (D.sl 4 l20), AD.one (D.sl 5 l22), AD.one (B true)] :=
  .of [Ans.res [AD.agg [I n9, I n10, I n11, D.sl 1 l12], AD.one (B b13)], Ans.br false, Ans.res [AD.one (B b14)], Ans.br false, Ans.res [AD.one (B b15)], Ans.br false, Ans.res [AD.one (I n16), AD.one (I n17), AD.one (B b18)], Ans.br false, Ans.res [AD.one (B b19)], Ans.br true, Ans.res [AD.one (D.sl 4 l20), AD.one (B b21)], Ans.br false, Ans.br false, Ans.loop [] [21, 11, 10, 18, 13, 14, 9] [18, 11] (Ex.exit 0) (spec_StepOp_X0 l20 l22)] _ Try.func112 rfl (by kernel_rfl) h

theorem spec_StepOp_p15 (l0 : List (List D)) (n1 : Int) (n2 : Int) (l3 : List (List D)) (n4 : Int) (n5 : Int) (n6 : Int) (n7 : Int) (n8 : Int) (n9 : Int) (n10 : Int) (n11 : Int) (l12 : List (List D)) (b13 : Bool) (b14 : Bool) (b15 : Bool) (n16 : Int) (n17 : Int) (b18 : Bool) (b19 : Bool) (n20 : Int) (n21 : Int) (b22 : Bool)
    (h : Obs [(([] : List (List D)).length + l3.length) * 32 ≤ 140737488355328, ([] : List (List D)).length + l3.length ≤ 9223372036854775807, Flat l3, Ret Try.prog 106 [AD.agg [D.sl 4 l0, I n1, I n2], AD.one (I n4)] [AD.agg [I n9, I n10, I n11, D.sl 1 l12], AD.one (B b13)], (!b13) = false, Ret Try.prog 109 [AD.agg [D.sl 4 l0, I n1, I n2]] [AD.one (B b14)], (!b14) = false, Ret Try.prog 110 [AD.agg [I n4, I n5, I n6, I n7, I n8]] [AD.one (B b15)], (!b15) = false, Ret Try.prog 138 [AD.agg [I n9, I n10, I n11, D.sl 1 l12], AD.one (I n7), AD.one (I n8)] [AD.one (I n16), AD.one (I n17), AD.one (B b18)], (!b18) = false, Ret Try.prog 139 [AD.one (I n9)] [AD.one (B b19)], b19 = false, (n9 == 7) = true, Ret Try.prog 137 [AD.agg [I n5, I n6]] [AD.agg [I n20, I n21], AD.one (B b22)], (!b22) = true]) :
    Ret Try.prog 112 [AD.agg [D.sl 4 l0, I n1, I n2], AD.one (D.sl 4 l3), AD.agg [I n4, I n5, I n6, I n7, I n8]] [AD.one (D.sl 4 ([] ++ l3)), AD.one (D.sl 5 []), AD.one (B true)] :=
  .of [Ans.res [AD.agg [I n9, I n10, I n11, D.sl 1 l12], AD.one (B b13)], Ans.br false, Ans.res [AD.one (B b14)], Ans.br false, Ans.res [AD.one (B b15)], Ans.br false, Ans.res [AD.one (I n16), AD.one (I n17), AD.one (B b18)], Ans.br false, Ans.res [AD.one (B b19)], Ans.br false, Ans.br true, Ans.res [AD.agg [I n20, I n21], AD.one (B b22)], Ans.br true] _ Try.func112 rfl (by kernel_rfl) h

theorem spec_StepOp_p16 (l0 : List (List D)) (n1 : Int) (n2 : Int) (l3 : List (List D)) (n4 : Int) (n5 : Int) (n6 : Int) (n7 : Int) (n8 : Int) (n9 : Int) (n10 : Int) (n11 : Int) (l12 : List (List D)) (b13 : Bool) (b14 : Bool) (b15 : Bool) (n16 : Int) (n17 : Int) (b18 : Bool) (b19 : Bool) (n20 : Int) (n21 : Int) (b22 : Bool) (l23 : List (List D))
    (h : Obs [(([] : List (List D)).length + l3.length) * 32 ≤ 140737488355328, ([] : List (List D)).length + l3.length ≤ 9223372036854775807, Flat l3, Ret Try.prog 106 [AD.agg [D.sl 4 l0, I n1, I n2], AD.one (I n4)] [AD.agg [I n9, I n10, I n11, D.sl 1 l12], AD.one (B b13)], (!b13) = false, Ret Try.prog 109 [AD.agg [D.sl 4 l0, I n1, I n2]] [AD.one (B b14)], (!b14) = false, Ret Try.prog 110 [AD.agg [I n4, I n5, I n6, I n7, I n8]] [AD.one (B b15)], (!b15) = false, Ret Try.prog 138 [AD.agg [I n9, I n10, I n11, D.sl 1 l12], AD.one (I n7), AD.one (I n8)] [AD.one (I n16), AD.one (I n17), AD.one (B b18)], (!b18) = false, Ret Try.prog 139 [AD.one (I n9)] [AD.one (B b19)], b19 = false, (n9 == 7) = true, Ret Try.prog 137 [AD.agg [I n5, I n6]] [AD.agg [I n20, I n21], AD.one (B b22)], (!b22) = false, LoopOk Try.prog (loopOf Try.f112 0) (spec_StepOp_L0v3 l3 n9 n10 n11 l12 n16 n17 n20 n21 0 []) (Ex.exit 0) (spec_StepOp_X0v4 l3 l23)]) :
    Ret Try.prog 112 [AD.agg [D.sl 4 l0, I n1, I n2], AD.one (D.sl 4 l3), AD.agg [I n4, I n5, I n6, I n7, I n8]] [AD.one (D.sl 4 ([] ++ l3)), AD.one (D.sl 5 l23), AD.one (B true)] :=
  .of [Ans.res [AD.agg [I n9, I n10, I n11, D.sl 1 l12], AD.one (B b13)], Ans.br false, Ans.res [AD.one (B b14)], Ans.br false, Ans.res [AD.one (B b15)], Ans.br false, Ans.res [AD.one (I n16), AD.one (I n17), AD.one (B b18)], Ans.br false, Ans.res [AD.one (B b19)], Ans.br false, Ans.br true, Ans.res [AD.agg [I n20, I n21], AD.one (B b22)], Ans.br false, Ans.loop [] [21, 11, 10, 18, 13, 14, 9] [18, 11] (Ex.exit 0) (spec_StepOp_X0v4 l3 l23)] _ Try.func112 rfl (by kernel_rfl) h

theorem spec_StepOp_p17 (l0 : List (List D)) (n1 : Int) (n2 : Int) (l3 : List (List D)) (n4 : Int) (n5 : Int) (n6 : Int) (n7 : Int) (n8 : Int) (n9 : Int) (n10 : Int) (n11 : Int) (l12 : List (List D)) (b13 : Bool) (b14 : Bool) (b15 : Bool) (n16 : Int) (n17 : Int) (b18 : Bool) (b19 : Bool) (l20 : List (List D))
    (h : Obs [(([] : List (List D)).length + l3.length) * 32 ≤ 140737488355328, ([] : List (List D)).length + l3.length ≤ 9223372036854775807, Flat l3, Ret Try.prog 106 [AD.agg [D.sl 4 l0, I n1, I n2], AD.one (I n4)] [AD.agg [I n9, I n10, I n11, D.sl 1 l12], AD.one (B b13)], (!b13) = false, Ret Try.prog 109 [AD.agg [D.sl 4 l0, I n1, I n2]] [AD.one (B b14)], (!b14) = false, Ret Try.prog 110 [AD.agg [I n4, I n5, I n6, I n7, I n8]] [AD.one (B b15)], (!b15) = false, Ret Try.prog 138 [AD.agg [I n9, I n10, I n11, D.sl 1 l12], AD.one (I n7), AD.one (I n8)] [AD.one (I n16), AD.one (I n17), AD.one (B b18)], (!b18) = false, Ret Try.prog 139 [AD.one (I n9)] [AD.one (B b19)], b19 = false, (n9 == 7) = false, LoopOk Try.prog (loopOf Try.f112 0) (spec_StepOp_L0v5 l3 n5 n6 n9 n10 n11 l12 n16 n17 0 []) (Ex.exit 0) (spec_StepOp_X0v4 l3 l20)]) :
    Ret Try.prog 112 [AD.agg [D.sl 4 l0, I n1, I n2], AD.one (D.sl 4 l3), AD.agg [I n4, I n5, I n6, I n7, I n8]] [AD.one (D.sl 4 ([] ++ l3)), AD.one (D.sl 5 l20), AD.one (B true)] :=
  .of [Ans.res [AD.agg [I n9, I n10, I n11, D.sl 1 l12], AD.one (B b13)], Ans.br false, Ans.res [AD.one (B b14)], Ans.br false, Ans.res [AD.one (B b15)], Ans.br false, Ans.res [AD.one (I n16), AD.one (I n17), AD.one (B b18)], Ans.br false, Ans.res [AD.one (B b19)], Ans.br false, Ans.br false, Ans.loop [] [21, 11, 10, 18, 13, 14, 9] [18, 11] (Ex.exit 0) (spec_StepOp_X0v4 l3 l20)] _ Try.func112 rfl (by kernel_rfl) h

/- loop.example/g00973/spec.l23Run -/

theorem spec_l23Run_p0 (l0 : List (List D)) (n1 : Int) (n2 : Int) (l3 : List (List D)) (n4 : Int) (b5 : Bool)
    (h : Obs [Ret Try.prog 109 [AD.agg [D.sl 4 l0, I n1, I n2]] [AD.one (B b5)], (!b5) = true]) :
    Ret Try.prog 81 [AD.agg [D.sl 4 l0, I n1, I n2], AD.one (D.sl 5 l3), AD.one (I n4)] [AD.one (D.sl 4 []), AD.one (I 0), AD.one (B false), AD.one (B false)] :=
  .of [Ans.res [AD.one (B b5)], Ans.br true] _ Try.func81 rfl (by kernel_rfl) h

def spec_l23Run_L0 (l0 : List (List D)) (n1 : Int) (n2 : Int) (l3 : List (List D)) (l4 : List (List D)) (n5 : Int) (n6 : Int) : St :=
  { env := envOf 93 [(1, PV.al (AL.one (Leaf.sl Tag.free 5 l0))), (2, PV.al (AL.one (Leaf.v (Value.int IntKind.i64 n1)))), (3, PV.al (AL.one (Leaf.ptr 3 0))), (10, PV.al (AL.one (Leaf.sl (Tag.own 19) 4 []))), (11, PV.al (AL.one (Leaf.sl (Tag.own 24) 5 l3))), (12, PV.al (AL.one (Leaf.v (Value.int IntKind.i64 n2))))], boxes := [(3, [Leaf.sl Tag.free 4 l4, Leaf.v (Value.int IntKind.i64 n5), Leaf.v (Value.int IntKind.i64 n6)])] }

theorem spec_l23Run_L0_s0 (l3 : List (List D)) (n4 : Int) (n6 : Int) (l7 : List (List D)) (l8 : List (List D)) (n9 : Int) (n10 : Int) (n11 : Int) (n12 : Int) (n13 : Int) (n14 : Int) (n15 : Int) (n16 : Int) (n17 : Int) (n18 : Int) (n19 : Int) (n20 : Int) (b21 : Bool) (n22 : Int) (n23 : Int) (n24 : Int) (n25 : Int) (n26 : Int)
    (h : Obs [decide (n6 < (↑l3.length : Int)) = true, 0 ≤ n6, n6 < (↑l3.length : Int), l3[n6.toNat]? = some [I n11, I n12, I n13, I n14, I n15], (n12 == n4) = true, 0 ≤ n6, n6 < (↑l3.length : Int), l3[n6.toNat]? = some [I n16, I n17, I n18, I n19, I n20], Ret Try.prog 110 [AD.agg [I n16, I n17, I n18, I n19, I n20]] [AD.one (B b21)], b21 = true, 0 ≤ n6, n6 < (↑l3.length : Int), l3[n6.toNat]? = some [I n22, I n23, I n24, I n25, I n26], (l7.length + [[I 0, I n23, I 0, I n25, I n26]].length) * 40 ≤ 140737488355328, l7.length + [[I 0, I n23, I 0, I n25, I n26]].length ≤ 9223372036854775807, Flat [[I 0, I n23, I 0, I n25, I n26]], inInt IntKind.i64 (n6 + 1)]) :
    Tr Try.prog (loopOf Try.f81 0) (spec_l23Run_L0 l3 n4 n6 l7 l8 n9 n10) Ex.normal (spec_l23Run_L0 l3 n4 (n6 + 1) (l7 ++ [[I 0, I n23, I 0, I n25, I n26]]) l8 n9 n10) :=
  .of_loopc (ks := [12, 1, 2, 11, 10, 3]) (bs := [3]) (ans := [Ans.br true, Ans.el [I n11, I n12, I n13, I n14, I n15], Ans.br true, Ans.el [I n16, I n17, I n18, I n19, I n20], Ans.res [AD.one (B b21)], Ans.br true, Ans.el [I n22, I n23, I n24, I n25, I n26]]) (by kernel_rfl) h

theorem spec_l23Run_L0_s1 (l3 : List (List D)) (n4 : Int) (n6 : Int) (l7 : List (List D)) (l8 : List (List D)) (n9 : Int) (n10 : Int) (n11 : Int) (n12 : Int) (n13 : Int) (n14 : Int) (n15 : Int) (n16 : Int) (n17 : Int) (n18 : Int) (n19 : Int) (n20 : Int) (b21 : Bool)
    (h : Obs [decide (n6 < (↑l3.length : Int)) = true, 0 ≤ n6, n6 < (↑l3.length : Int), l3[n6.toNat]? = some [I n11, I n12, I n13, I n14, I n15], (n12 == n4) = true, 0 ≤ n6, n6 < (↑l3.length : Int), l3[n6.toNat]? = some [I n16, I n17, I n18, I n19, I n20], Ret Try.prog 110 [AD.agg [I n16, I n17, I n18, I n19, I n20]] [AD.one (B b21)], b21 = false, inInt IntKind.i64 (n6 + 1)]) :
    Tr Try.prog (loopOf Try.f81 0) (spec_l23Run_L0 l3 n4 n6 l7 l8 n9 n10) Ex.normal (spec_l23Run_L0 l3 n4 (n6 + 1) l7 l8 n9 n10) :=
  .of_loopc (ks := [12, 1, 2, 11, 10, 3]) (bs := [3]) (ans := [Ans.br true, Ans.el [I n11, I n12, I n13, I n14, I n15], Ans.br true, Ans.el [I n16, I n17, I n18, I n19, I n20], Ans.res [AD.one (B b21)], Ans.br false]) (by kernel_rfl) h

theorem spec_l23Run_L0_s2 (l3 : List (List D)) (n4 : Int) (n6 : Int) (l7 : List (List D)) (l8 : List (List D)) (n9 : Int) (n10 : Int) (n11 : Int) (n12 : Int) (n13 : Int) (n14 : Int) (n15 : Int)
    (h : Obs [decide (n6 < (↑l3.length : Int)) = true, 0 ≤ n6, n6 < (↑l3.length : Int), l3[n6.toNat]? = some [I n11, I n12, I n13, I n14, I n15], (n12 == n4) = false, inInt IntKind.i64 (n6 + 1)]) :
    Tr Try.prog (loopOf Try.f81 0) (spec_l23Run_L0 l3 n4 n6 l7 l8 n9 n10) Ex.normal (spec_l23Run_L0 l3 n4 (n6 + 1) l7 l8 n9 n10) :=
  .of_loopc (ks := [12, 1, 2, 11, 10, 3]) (bs := [3]) (ans := [Ans.br true, Ans.el [I n11, I n12, I n13, I n14, I n15], Ans.br false]) (by kernel_rfl) h

def spec_l23Run_X0 (l0 : List (List D)) (l1 : List (List D)) (n2 : Int) (n3 : Int) : St :=
  { env := envOf 93 [(3, PV.al (AL.one (Leaf.ptr 3 0))), (10, PV.al (AL.one (Leaf.sl (Tag.own 19) 4 []))), (11, PV.al (AL.one (Leaf.sl (Tag.own 24) 5 l0)))], boxes := [(3, [Leaf.sl Tag.free 4 l1, Leaf.v (Value.int IntKind.i64 n2), Leaf.v (Value.int IntKind.i64 n3)])] }

theorem spec_l23Run_L0_x3 (l3 : List (List D)) (n4 : Int) (n6 : Int) (l7 : List (List D)) (l8 : List (List D)) (n9 : Int) (n10 : Int)
    (h : Obs [decide (n6 < (↑l3.length : Int)) = false]) :
    Tr Try.prog (loopOf Try.f81 0) (spec_l23Run_L0 l3 n4 n6 l7 l8 n9 n10) (Ex.exit 0) (spec_l23Run_X0 l7 l8 n9 n10) :=
  .of_loopc (ks := [11, 10, 3]) (bs := [3]) (ans := [Ans.br false]) (by kernel_rfl) h

def spec_l23Run_L1 (l0 : List (List D)) (n1 : Int) (n2 : Int) (l3 : List (List D)) (n4 : Int) (l5 : List (List D)) (b6 : Bool) : St :=
  { env := envOf 93 [(3, PV.al (AL.one (Leaf.ptr 3 0))), (10, PV.al (AL.one (Leaf.sl (Tag.own 800000) 4 l5))), (11, PV.al (AL.one (Leaf.sl (Tag.own 24) 5 l3))), (14, PV.al (AL.one (Leaf.sb b6))), (15, PV.al (AL.one (Leaf.v (Value.int IntKind.i64 n4))))], boxes := [(3, [Leaf.sl Tag.free 4 l0, Leaf.v (Value.int IntKind.i64 n1), Leaf.v (Value.int IntKind.i64 n2)])] }

def spec_l23Run_X1 (l0 : List (List D)) (n1 : Int) (b2 : Bool) (b3 : Bool) : St :=
  { env := envOf 93 [(6, PV.al (AL.one (Leaf.sl (Tag.own 800000) 4 l0))), (7, PV.al (AL.one (Leaf.v (Value.int IntKind.i64 n1)))), (8, PV.al (AL.one (Leaf.sb b2))), (9, PV.al (AL.one (Leaf.sb b3)))], boxes := [] }

theorem spec_l23Run_L1_x0 (l7 : List (List D)) (n8 : Int) (n9 : Int) (l10 : List (List D)) (n11 : Int) (l12 : List (List D)) (b13 : Bool)
    (h : Obs [decide ((↑l10.length : Int) > 0) = true, decide (n11 ≥ 20000) = true]) :
    Tr Try.prog (loopOf Try.f81 1) (spec_l23Run_L1 l7 n8 n9 l10 n11 l12 b13) Ex.ret (spec_l23Run_X1 l12 n11 false b13) :=
  .of_loopc (ks := [6, 7, 8, 9]) (bs := []) (ans := [Ans.br true, Ans.br true]) (by kernel_rfl) h

theorem spec_l23Run_L1_s1 (l7 : List (List D)) (n8 : Int) (n9 : Int) (l10 : List (List D)) (n11 : Int) (l12 : List (List D)) (b13 : Bool) (n14 : Int) (n15 : Int) (n16 : Int) (n17 : Int) (n18 : Int) (l19 : List (List D)) (l20 : List (List D)) (b21 : Bool)
    (h : Obs [decide ((↑l10.length : Int) > 0) = true, decide (n11 ≥ 20000) = false, b13 = true, (0 : Int) ≤ 0, 0 < (↑l10.length : Int), l10[0]? = some [I n14, I n15, I n16, I n17, I n18], Ret Try.prog 112 [AD.agg [D.sl 4 l7, I n8, I n9], AD.one (D.sl 4 l12), AD.agg [I n14, I n15, I n16, I n17, I n18]] [AD.one (D.sl 4 l19), AD.one (D.sl 5 l20), AD.one (B b21)], (0 : Int) ≤ (some 1).getD 0, (some 1).getD 0 ≤ none.getD (↑l10.length : Int), none.getD (↑l10.length : Int) ≤ (↑l10.length : Int), ((List.take (l10.length - 1) (List.drop 1 l10)).length + l20.length) * 40 ≤ 140737488355328, (List.take (l10.length - 1) (List.drop 1 l10)).length + l20.length ≤ 9223372036854775807, Flat l20, inInt IntKind.i64 (n11 + 1)]) :
    Tr Try.prog (loopOf Try.f81 1) (spec_l23Run_L1 l7 n8 n9 l10 n11 l12 b13) Ex.normal (spec_l23Run_L1 l7 n8 n9 (List.take (l10.length - 1) (List.drop 1 l10) ++ l20) (n11 + 1) l19 true) :=
  .of_loopc (ks := [11, 15, 10, 14, 3]) (bs := [3]) (ans := [Ans.br true, Ans.br false, Ans.br true, Ans.el [I n14, I n15, I n16, I n17, I n18], Ans.res [AD.one (D.sl 4 l19), AD.one (D.sl 5 l20), AD.one (B b21)], Ans.own]) (by kernel_rfl) h

theorem spec_l23Run_L1_s2 (l7 : List (List D)) (n8 : Int) (n9 : Int) (l10 : List (List D)) (n11 : Int) (l12 : List (List D)) (b13 : Bool) (n14 : Int) (n15 : Int) (n16 : Int) (n17 : Int) (n18 : Int) (b19 : Bool) (n20 : Int) (n21 : Int) (n22 : Int) (n23 : Int) (n24 : Int) (l25 : List (List D)) (l26 : List (List D)) (b27 : Bool)
    (h : Obs [decide ((↑l10.length : Int) > 0) = true, decide (n11 ≥ 20000) = false, b13 = false, (0 : Int) ≤ 0, 0 < (↑l10.length : Int), l10[0]? = some [I n14, I n15, I n16, I n17, I n18], Ret Try.prog 111 [AD.agg [D.sl 4 l7, I n8, I n9], AD.agg [I n14, I n15, I n16, I n17, I n18]] [AD.one (B b19)], (0 : Int) ≤ 0, 0 < (↑l10.length : Int), l10[0]? = some [I n20, I n21, I n22, I n23, I n24], Ret Try.prog 112 [AD.agg [D.sl 4 l7, I n8, I n9], AD.one (D.sl 4 l12), AD.agg [I n20, I n21, I n22, I n23, I n24]] [AD.one (D.sl 4 l25), AD.one (D.sl 5 l26), AD.one (B b27)], (0 : Int) ≤ (some 1).getD 0, (some 1).getD 0 ≤ none.getD (↑l10.length : Int), none.getD (↑l10.length : Int) ≤ (↑l10.length : Int), ((List.take (l10.length - 1) (List.drop 1 l10)).length + l26.length) * 40 ≤ 140737488355328, (List.take (l10.length - 1) (List.drop 1 l10)).length + l26.length ≤ 9223372036854775807, Flat l26, inInt IntKind.i64 (n11 + 1)]) :
    Tr Try.prog (loopOf Try.f81 1) (spec_l23Run_L1 l7 n8 n9 l10 n11 l12 b13) Ex.normal (spec_l23Run_L1 l7 n8 n9 (List.take (l10.length - 1) (List.drop 1 l10) ++ l26) (n11 + 1) l25 b19) :=
  .of_loopc (ks := [11, 15, 10, 14, 3]) (bs := [3]) (ans := [Ans.br true, Ans.br false, Ans.br false, Ans.el [I n14, I n15, I n16, I n17, I n18], Ans.res [AD.one (B b19)], Ans.el [I n20, I n21, I n22, I n23, I n24], Ans.res [AD.one (D.sl 4 l25), AD.one (D.sl 5 l26), AD.one (B b27)], Ans.own]) (by kernel_rfl) h

def spec_l23Run_X1v7 (l0 : List (List D)) (n1 : Int) (b2 : Bool) : St :=
  { env := envOf 93 [(10, PV.al (AL.one (Leaf.sl (Tag.own 800000) 4 l0))), (14, PV.al (AL.one (Leaf.sb b2))), (15, PV.al (AL.one (Leaf.v (Value.int IntKind.i64 n1))))], boxes := [] }

theorem spec_l23Run_L1_x3 (l7 : List (List D)) (n8 : Int) (n9 : Int) (l10 : List (List D)) (n11 : Int) (l12 : List (List D)) (b13 : Bool)
    (h : Obs [decide ((↑l10.length : Int) > 0) = false]) :
    Tr Try.prog (loopOf Try.f81 1) (spec_l23Run_L1 l7 n8 n9 l10 n11 l12 b13) (Ex.exit 2) (spec_l23Run_X1v7 l12 n11 b13) :=
  .of_loopc (ks := [10, 15, 14]) (bs := []) (ans := [Ans.br false]) (by kernel_rfl) h

theorem spec_l23Run_p1 (l0 : List (List D)) (n1 : Int) (n2 : Int) (l3 : List (List D)) (n4 : Int) (b5 : Bool) (l6 : List (List D)) (l7 : List (List D)) (n8 : Int) (n9 : Int) (l10 : List (List D)) (n11 : Int) (b12 : Bool) (b13 : Bool)
    (h : Obs [Ret Try.prog 109 [AD.agg [D.sl 4 l0, I n1, I n2]] [AD.one (B b5)], (!b5) = false, LoopOk Try.prog (loopOf Try.f81 0) (spec_l23Run_L0 l3 n4 0 [] l0 n1 n2) (Ex.exit 0) (spec_l23Run_X0 l6 l7 n8 n9), LoopOk Try.prog (loopOf Try.f81 1) (spec_l23Run_L1 l7 n8 n9 l6 0 [] false) Ex.ret (spec_l23Run_X1 l10 n11 b12 b13)]) :
    Ret Try.prog 81 [AD.agg [D.sl 4 l0, I n1, I n2], AD.one (D.sl 5 l3), AD.one (I n4)] [AD.one (D.sl 4 l10), AD.one (I n11), AD.one (B b12), AD.one (B b13)] :=
  .of [Ans.res [AD.one (B b5)], Ans.br false, Ans.loop [] [12, 1, 2, 11, 10, 3] [3] (Ex.exit 0) (spec_l23Run_X0 l6 l7 n8 n9), Ans.loop [(10, 800000, 4)] [11, 15, 10, 14, 3] [3] Ex.ret (spec_l23Run_X1 l10 n11 b12 b13)] _ Try.func81 rfl (by kernel_rfl) h

theorem spec_l23Run_p2 (l0 : List (List D)) (n1 : Int) (n2 : Int) (l3 : List (List D)) (n4 : Int) (b5 : Bool) (l6 : List (List D)) (l7 : List (List D)) (n8 : Int) (n9 : Int) (l10 : List (List D)) (n11 : Int) (b12 : Bool)
    (h : Obs [Ret Try.prog 109 [AD.agg [D.sl 4 l0, I n1, I n2]] [AD.one (B b5)], (!b5) = false, LoopOk Try.prog (loopOf Try.f81 0) (spec_l23Run_L0 l3 n4 0 [] l0 n1 n2) (Ex.exit 0) (spec_l23Run_X0 l6 l7 n8 n9), LoopOk Try.prog (loopOf Try.f81 1) (spec_l23Run_L1 l7 n8 n9 l6 0 [] false) (Ex.exit 2) (spec_l23Run_X1v7 l10 n11 b12)]) :
    Ret Try.prog 81 [AD.agg [D.sl 4 l0, I n1, I n2], AD.one (D.sl 5 l3), AD.one (I n4)] [AD.one (D.sl 4 l10), AD.one (I n11), AD.one (B true), AD.one (B b12)] :=
  .of [Ans.res [AD.one (B b5)], Ans.br false, Ans.loop [] [12, 1, 2, 11, 10, 3] [3] (Ex.exit 0) (spec_l23Run_X0 l6 l7 n8 n9), Ans.loop [(10, 800000, 4)] [11, 15, 10, 14, 3] [3] (Ex.exit 2) (spec_l23Run_X1v7 l10 n11 b12)] _ Try.func81 rfl (by kernel_rfl) h

/- loop.example/g00973/spec.AloneRun -/

theorem spec_AloneRun_p0 (l0 : List (List D)) (n1 : Int) (n2 : Int) (l3 : List (List D)) (n4 : Int) (l5 : List (List D)) (n6 : Int) (b7 : Bool) (b8 : Bool)
    (h : Obs [Ret Try.prog 81 [AD.agg [D.sl 4 l0, I n1, I n2], AD.one (D.sl 5 l3), AD.one (I n4)] [AD.one (D.sl 4 l5), AD.one (I n6), AD.one (B b7), AD.one (B b8)]]) :
    Ret Try.prog 44 [AD.agg [D.sl 4 l0, I n1, I n2], AD.one (D.sl 5 l3), AD.one (I n4)] [AD.one (D.sl 4 l5), AD.one (I n6), AD.one (B b7)] :=
  .of [Ans.res [AD.one (D.sl 4 l5), AD.one (I n6), AD.one (B b7), AD.one (B b8)]] _ Try.func44 rfl (by kernel_rfl) h

/- loop.example/g00973/spec.AloneSteps -/

theorem spec_AloneSteps_p0 (l0 : List (List D)) (n1 : Int) (n2 : Int) (l3 : List (List D)) (n4 : Int) (l5 : List (List D)) (n6 : Int) (b7 : Bool) (b8 : Bool)
    (h : Obs [Ret Try.prog 81 [AD.agg [D.sl 4 l0, I n1, I n2], AD.one (D.sl 5 l3), AD.one (I n4)] [AD.one (D.sl 4 l5), AD.one (I n6), AD.one (B b7), AD.one (B b8)]]) :
    Ret Try.prog 40 [AD.agg [D.sl 4 l0, I n1, I n2], AD.one (D.sl 5 l3), AD.one (I n4)] [AD.one (I n6)] :=
  .of [Ans.res [AD.one (D.sl 4 l5), AD.one (I n6), AD.one (B b7), AD.one (B b8)]] _ Try.func40 rfl (by kernel_rfl) h

/- loop.example/g00973/spec.AloneOuts -/

theorem spec_AloneOuts_p0 (l0 : List (List D)) (n1 : Int) (n2 : Int) (l3 : List (List D)) (n4 : Int) (l5 : List (List D)) (n6 : Int) (b7 : Bool) (b8 : Bool) (l9 : List (List D))
    (h : Obs [Ret Try.prog 81 [AD.agg [D.sl 4 l0, I n1, I n2], AD.one (D.sl 5 l3), AD.one (I n4)] [AD.one (D.sl 4 l5), AD.one (I n6), AD.one (B b7), AD.one (B b8)], Ret Try.prog 78 [AD.agg [D.sl 4 l0, I n1, I n2], AD.one (D.sl 4 l5)] [AD.one (D.sl 4 l9)]]) :
    Ret Try.prog 47 [AD.agg [D.sl 4 l0, I n1, I n2], AD.one (D.sl 5 l3), AD.one (I n4)] [AD.one (D.sl 4 l9)] :=
  .of [Ans.res [AD.one (D.sl 4 l5), AD.one (I n6), AD.one (B b7), AD.one (B b8)], Ans.res [AD.one (D.sl 4 l9)]] _ Try.func47 rfl (by kernel_rfl) h

/- loop.example/g00973/impl.OfEpoch -/

def impl_OfEpoch_L0 (l0 : List (List D)) (n1 : Int) (n2 : Int) (l3 : List (List D)) : St :=
  { env := envOf 25 [(1, PV.al (AL.one (Leaf.v (Value.int IntKind.i64 n1)))), (5, PV.al (AL.one (Leaf.sl (Tag.own 22) 5 l3))), (8, PV.al (AL.one (Leaf.sl Tag.free 5 l0))), (9, PV.al (AL.one (Leaf.v (Value.int IntKind.i64 (↑l0.length : Int))))), (10, PV.al (AL.one (Leaf.v (Value.int IntKind.i64 n2))))], boxes := [] }

theorem impl_OfEpoch_L0_s0 (l0 : List (List D)) (n1 : Int) (n2 : Int) (l3 : List (List D)) (n4 : Int) (n5 : Int) (n6 : Int) (n7 : Int) (n8 : Int)
    (h : Obs [decide (n2 < (↑l0.length : Int)) = true, 0 ≤ n2, n2 < (↑l0.length : Int), l0[n2.toNat]? = some [I n4, I n5, I n6, I n7, I n8], (n5 == n1) = true, (l3.length + [[I n4, I n5, I n6, I n7, I n8]].length) * 40 ≤ 140737488355328, l3.length + [[I n4, I n5, I n6, I n7, I n8]].length ≤ 9223372036854775807, Flat [[I n4, I n5, I n6, I n7, I n8]], inInt IntKind.i64 (n2 + 1)]) :
    Tr Try.prog (loopOf Try.f116 0) (impl_OfEpoch_L0 l0 n1 n2 l3) Ex.normal (impl_OfEpoch_L0 l0 n1 (n2 + 1) (l3 ++ [[I n4, I n5, I n6, I n7, I n8]])) :=
  .of_loopc (ks := [10, 9, 8, 1, 5]) (bs := []) (ans := [Ans.br true, Ans.el [I n4, I n5, I n6, I n7, I n8], Ans.br true]) (by kernel_rfl) h

theorem impl_OfEpoch_L0_s1 (l0 : List (List D)) (n1 : Int) (n2 : Int) (l3 : List (List D)) (n4 : Int) (n5 : Int) (n6 : Int) (n7 : Int) (n8 : Int)
    (h : Obs [decide (n2 < (↑l0.length : Int)) = true, 0 ≤ n2, n2 < (↑l0.length : Int), l0[n2.toNat]? = some [I n4, I n5, I n6, I n7, I n8], (n5 == n1) = false, inInt IntKind.i64 (n2 + 1)]) :
    Tr Try.prog (loopOf Try.f116 0) (impl_OfEpoch_L0 l0 n1 n2 l3) Ex.normal (impl_OfEpoch_L0 l0 n1 (n2 + 1) l3) :=
  .of_loopc (ks := [10, 9, 8, 1, 5]) (bs := []) (ans := [Ans.br true, Ans.el [I n4, I n5, I n6, I n7, I n8], Ans.br false]) (by kernel_rfl) h

def impl_OfEpoch_X0 (l0 : List (List D)) : St :=
  { env := envOf 25 [(5, PV.al (AL.one (Leaf.sl (Tag.own 22) 5 l0)))], boxes := [] }

theorem impl_OfEpoch_L0_x2 (l0 : List (List D)) (n1 : Int) (n2 : Int) (l3 : List (List D))
    (h : Obs [decide (n2 < (↑l0.length : Int)) = false]) :
    Tr Try.prog (loopOf Try.f116 0) (impl_OfEpoch_L0 l0 n1 n2 l3) (Ex.exit 0) (impl_OfEpoch_X0 l3) :=
  .of_loopc (ks := [5]) (bs := []) (ans := [Ans.br false]) (by kernel_rfl) h

theorem impl_OfEpoch_p0 (l0 : List (List D)) (n1 : Int) (l2 : List (List D))
    (h : Obs [LoopOk Try.prog (loopOf Try.f116 0) (impl_OfEpoch_L0 l0 n1 0 []) (Ex.exit 0) (impl_OfEpoch_X0 l2)]) :
    Ret Try.prog 116 [AD.one (D.sl 5 l0), AD.one (I n1)] [AD.one (D.sl 5 l2)] :=
  .of [Ans.loop [(5, 22, 5)] [10, 9, 8, 1, 5] [] (Ex.exit 0) (impl_OfEpoch_X0 l2)] _ Try.func116 rfl (by kernel_rfl) h

/- loop.example/g00973/impl.StepOp -/

theorem impl_StepOp_p0 (l0 : List (List D)) (n1 : Int) (n2 : Int) (l3 : List (List D)) (n4 : Int) (n5 : Int) (n6 : Int) (n7 : Int) (n8 : Int) (b9 : Bool) (l10 : List (List D))
    (h : Obs [Ret Try.prog 115 [AD.agg [D.sl 4 l0, I n1, I n2]] [AD.one (B b9)], (!b9) = true, Ret Try.prog 102 [AD.one (D.sl 4 l3)] [AD.one (D.sl 4 l10)]]) :
    Ret Try.prog 118 [AD.agg [D.sl 4 l0, I n1, I n2], AD.one (D.sl 4 l3), AD.agg [I n4, I n5, I n6, I n7, I n8]] [AD.one (D.sl 4 l10), AD.one (D.sl 5 []), AD.one (B false)] :=
  .of [Ans.res [AD.one (B b9)], Ans.br true, Ans.res [AD.one (D.sl 4 l10)]] _ Try.func118 rfl (by kernel_rfl) h

theorem impl_StepOp_p1 (l0 : List (List D)) (n1 : Int) (n2 : Int) (l3 : List (List D)) (n4 : Int) (n5 : Int) (n6 : Int) (n7 : Int) (n8 : Int) (b9 : Bool) (b10 : Bool) (l11 : List (List D))
    (h : Obs [Ret Try.prog 115 [AD.agg [D.sl 4 l0, I n1, I n2]] [AD.one (B b9)], (!b9) = false, Ret Try.prog 117 [AD.agg [I n4, I n5, I n6, I n7, I n8]] [AD.one (B b10)], (!b10) = true, Ret Try.prog 102 [AD.one (D.sl 4 l3)] [AD.one (D.sl 4 l11)]]) :
    Ret Try.prog 118 [AD.agg [D.sl 4 l0, I n1, I n2], AD.one (D.sl 4 l3), AD.agg [I n4, I n5, I n6, I n7, I n8]] [AD.one (D.sl 4 l11), AD.one (D.sl 5 []), AD.one (B false)] :=
  .of [Ans.res [AD.one (B b9)], Ans.br false, Ans.res [AD.one (B b10)], Ans.br true, Ans.res [AD.one (D.sl 4 l11)]] _ Try.func118 rfl (by kernel_rfl) h

theorem impl_StepOp_p2 (l0 : List (List D)) (n1 : Int) (n2 : Int) (l3 : List (List D)) (n4 : Int) (n5 : Int) (n6 : Int) (n7 : Int) (n8 : Int) (b9 : Bool) (b10 : Bool) (b11 : Bool) (l12 : List (List D))
    (h : Obs [Ret Try.prog 115 [AD.agg [D.sl 4 l0, I n1, I n2]] [AD.one (B b9)], (!b9) = false, Ret Try.prog 117 [AD.agg [I n4, I n5, I n6, I n7, I n8]] [AD.one (B b10)], (!b10) = false, Ret Try.prog 107 [AD.agg [D.sl 4 l0, I n1, I n2], AD.one (I n4)] [AD.one (B b11)], (!b11) = true, Ret Try.prog 102 [AD.one (D.sl 4 l3)] [AD.one (D.sl 4 l12)]]) :
    Ret Try.prog 118 [AD.agg [D.sl 4 l0, I n1, I n2], AD.one (D.sl 4 l3), AD.agg [I n4, I n5, I n6, I n7, I n8]] [AD.one (D.sl 4 l12), AD.one (D.sl 5 []), AD.one (B false)] :=
  .of [Ans.res [AD.one (B b9)], Ans.br false, Ans.res [AD.one (B b10)], Ans.br false, Ans.res [AD.one (B b11)], Ans.br true, Ans.res [AD.one (D.sl 4 l12)]] _ Try.func118 rfl (by kernel_rfl) h

theorem impl_StepOp_p3 (l0 : List (List D)) (n1 : Int) (n2 : Int) (l3 : List (List D)) (n4 : Int) (n5 : Int) (n6 : Int) (n7 : Int) (n8 : Int) (b9 : Bool) (b10 : Bool) (b11 : Bool) (n12 : Int) (n13 : Int) (n14 : Int) (l15 : List (List D)) (n16 : Int) (n17 : Int) (b18 : Bool) (l19 : List (List D))
    (h : Obs [Ret Try.prog 115 [AD.agg [D.sl 4 l0, I n1, I n2]] [AD.one (B b9)], (!b9) = false, Ret Try.prog 117 [AD.agg [I n4, I n5, I n6, I n7, I n8]] [AD.one (B b10)], (!b10) = false, Ret Try.prog 107 [AD.agg [D.sl 4 l0, I n1, I n2], AD.one (I n4)] [AD.one (B b11)], (!b11) = false, 0 ≤ n4, n4 < (↑l0.length : Int), l0[n4.toNat]? = some [I n12, I n13, I n14, D.sl 1 l15], Ret Try.prog 144 [AD.agg [I n12, I n13, I n14, D.sl 1 l15], AD.one (I n7), AD.one (I n8)] [AD.one (I n16), AD.one (I n17), AD.one (B b18)], (!b18) = true, (n12 != 8) = true, Ret Try.prog 102 [AD.one (D.sl 4 l3)] [AD.one (D.sl 4 l19)]]) :
    Ret Try.prog 118 [AD.agg [D.sl 4 l0, I n1, I n2], AD.one (D.sl 4 l3), AD.agg [I n4, I n5, I n6, I n7, I n8]] [AD.one (D.sl 4 l19), AD.one (D.sl 5 []), AD.one (B true)] :=
  .of [Ans.res [AD.one (B b9)], Ans.br false, Ans.res [AD.one (B b10)], Ans.br false, Ans.res [AD.one (B b11)], Ans.br false, Ans.el [I n12, I n13, I n14, D.sl 1 l15], Ans.res [AD.one (I n16), AD.one (I n17), AD.one (B b18)], Ans.br true, Ans.br true, Ans.res [AD.one (D.sl 4 l19)]] _ Try.func118 rfl (by kernel_rfl) h

theorem impl_StepOp_p4 (l0 : List (List D)) (n1 : Int) (n2 : Int) (l3 : List (List D)) (n4 : Int) (n5 : Int) (n6 : Int) (n7 : Int) (n8 : Int) (b9 : Bool) (b10 : Bool) (b11 : Bool) (n12 : Int) (n13 : Int) (n14 : Int) (l15 : List (List D)) (n16 : Int) (n17 : Int) (b18 : Bool) (l19 : List (List D)) (b20 : Bool)
    (h : Obs [Ret Try.prog 115 [AD.agg [D.sl 4 l0, I n1, I n2]] [AD.one (B b9)], (!b9) = false, Ret Try.prog 117 [AD.agg [I n4, I n5, I n6, I n7, I n8]] [AD.one (B b10)], (!b10) = false, Ret Try.prog 107 [AD.agg [D.sl 4 l0, I n1, I n2], AD.one (I n4)] [AD.one (B b11)], (!b11) = false, 0 ≤ n4, n4 < (↑l0.length : Int), l0[n4.toNat]? = some [I n12, I n13, I n14, D.sl 1 l15], Ret Try.prog 144 [AD.agg [I n12, I n13, I n14, D.sl 1 l15], AD.one (I n7), AD.one (I n8)] [AD.one (I n16), AD.one (I n17), AD.one (B b18)], (!b18) = true, (n12 != 8) = false, Ret Try.prog 145 [AD.one (I n12), AD.one (D.sl 4 l3), AD.agg [I n4, I n5, I n7, I n8]] [AD.one (D.sl 4 l19), AD.one (B b20)], (!b20) = true]) :
    Ret Try.prog 118 [AD.agg [D.sl 4 l0, I n1, I n2], AD.one (D.sl 4 l3), AD.agg [I n4, I n5, I n6, I n7, I n8]] [AD.one (D.sl 4 l19), AD.one (D.sl 5 []), AD.one (B true)] :=
  .of [Ans.res [AD.one (B b9)], Ans.br false, Ans.res [AD.one (B b10)], Ans.br false, Ans.res [AD.one (B b11)], Ans.br false, Ans.el [I n12, I n13, I n14, D.sl 1 l15], Ans.res [AD.one (I n16), AD.one (I n17), AD.one (B b18)], Ans.br true, Ans.br false, Ans.res [AD.one (D.sl 4 l19), AD.one (B b20)], Ans.br true] _ Try.func118 rfl (by kernel_rfl) h

def impl_StepOp_L0 (l0 : List (List D)) (n1 : Int) (n2 : Int) (l3 : List (List D)) (n4 : Int) (n5 : Int) (b6 : Bool) (n7 : Int) (l8 : List (List D)) : St :=
  { env := envOf 111 [(10, PV.al (AL.one (Leaf.v (Value.int IntKind.i64 n1)))), (11, PV.al (AL.one (Leaf.v (Value.int IntKind.i64 n2)))), (13, PV.al (AL.one (Leaf.sl (Tag.own 760000) 4 l3))), (14, PV.al (AL.one (Leaf.ptr 14 0))), (15, PV.al (AL.one (Leaf.sb b6))), (16, PV.al (AL.one (Leaf.sl (Tag.own 107) 5 l8))), (93, PV.al (AL.one (Leaf.sl Tag.free 1 l0))), (94, PV.al (AL.one (Leaf.v (Value.int IntKind.i64 (↑l0.length : Int))))), (95, PV.al (AL.one (Leaf.v (Value.int IntKind.i64 n7))))], boxes := [(14, [Leaf.v (Value.int IntKind.i64 n4), Leaf.v (Value.int IntKind.i64 n5)])] }

theorem impl_StepOp_L0_s0 (l15 : List (List D)) (n16 : Int) (n17 : Int) (l19 : List (List D)) (n21 : Int) (n22 : Int) (b23 : Bool) (n24 : Int) (l25 : List (List D)) (n26 : Int)
    (h : Obs [decide (n24 < (↑l15.length : Int)) = true, 0 ≤ n24, n24 < (↑l15.length : Int), l15[n24.toNat]? = some [I n26], b23 = true, (l25.length + [[I n26, I n21, I n22, I n16, I n17]].length) * 40 ≤ 140737488355328, l25.length + [[I n26, I n21, I n22, I n16, I n17]].length ≤ 9223372036854775807, Flat [[I n26, I n21, I n22, I n16, I n17]], inInt IntKind.i64 (n24 + 1)]) :
    Tr Try.prog (loopOf Try.f118 0) (impl_StepOp_L0 l15 n16 n17 l19 n21 n22 b23 n24 l25) Ex.normal (impl_StepOp_L0 l15 n16 n17 l19 n21 n22 b23 (n24 + 1) (l25 ++ [[I n26, I n21, I n22, I n16, I n17]])) :=
  .of_loopc (ks := [95, 94, 93, 15, 16, 14, 10, 11, 13]) (bs := [14]) (ans := [Ans.br true, Ans.el [I n26], Ans.br true]) (by kernel_rfl) h

theorem impl_StepOp_L0_s1 (l15 : List (List D)) (n16 : Int) (n17 : Int) (l19 : List (List D)) (n21 : Int) (n22 : Int) (b23 : Bool) (n24 : Int) (l25 : List (List D)) (n26 : Int)
    (h : Obs [decide (n24 < (↑l15.length : Int)) = true, 0 ≤ n24, n24 < (↑l15.length : Int), l15[n24.toNat]? = some [I n26], b23 = false, inInt IntKind.i64 (n24 + 1)]) :
    Tr Try.prog (loopOf Try.f118 0) (impl_StepOp_L0 l15 n16 n17 l19 n21 n22 b23 n24 l25) Ex.normal (impl_StepOp_L0 l15 n16 n17 l19 n21 n22 b23 (n24 + 1) l25) :=
  .of_loopc (ks := [95, 94, 93, 15, 16, 14, 10, 11, 13]) (bs := [14]) (ans := [Ans.br true, Ans.el [I n26], Ans.br false]) (by kernel_rfl) h

def impl_StepOp_X0 (l0 : List (List D)) (l1 : List (List D)) : St :=
  { env := envOf 111 [(13, PV.al (AL.one (Leaf.sl (Tag.own 760000) 4 l0))), (16, PV.al (AL.one (Leaf.sl (Tag.own 107) 5 l1)))], boxes := [] }

theorem impl_StepOp_L0_x2 (l15 : List (List D)) (n16 : Int) (n17 : Int) (l19 : List (List D)) (n21 : Int) (n22 : Int) (b23 : Bool) (n24 : Int) (l25 : List (List D))
    (h : Obs [decide (n24 < (↑l15.length : Int)) = false]) :
    Tr Try.prog (loopOf Try.f118 0) (impl_StepOp_L0 l15 n16 n17 l19 n21 n22 b23 n24 l25) (Ex.exit 0) (impl_StepOp_X0 l19 l25) :=
  .of_loopc (ks := [13, 16]) (bs := []) (ans := [Ans.br false]) (by kernel_rfl) h

theorem impl_StepOp_p5 (l0 : List (List D)) (n1 : Int) (n2 : Int) (l3 : List (List D)) (n4 : Int) (n5 : Int) (n6 : Int) (n7 : Int) (n8 : Int) (b9 : Bool) (b10 : Bool) (b11 : Bool) (n12 : Int) (n13 : Int) (n14 : Int) (l15 : List (List D)) (n16 : Int) (n17 : Int) (b18 : Bool) (l19 : List (List D)) (b20 : Bool) (n21 : Int) (n22 : Int) (b23 : Bool) (l24 : List (List D))
    (h : Obs [Ret Try.prog 115 [AD.agg [D.sl 4 l0, I n1, I n2]] [AD.one (B b9)], (!b9) = false, Ret Try.prog 117 [AD.agg [I n4, I n5, I n6, I n7, I n8]] [AD.one (B b10)], (!b10) = false, Ret Try.prog 107 [AD.agg [D.sl 4 l0, I n1, I n2], AD.one (I n4)] [AD.one (B b11)], (!b11) = false, 0 ≤ n4, n4 < (↑l0.length : Int), l0[n4.toNat]? = some [I n12, I n13, I n14, D.sl 1 l15], Ret Try.prog 144 [AD.agg [I n12, I n13, I n14, D.sl 1 l15], AD.one (I n7), AD.one (I n8)] [AD.one (I n16), AD.one (I n17), AD.one (B b18)], (!b18) = true, (n12 != 8) = false, Ret Try.prog 145 [AD.one (I n12), AD.one (D.sl 4 l3), AD.agg [I n4, I n5, I n7, I n8]] [AD.one (D.sl 4 l19), AD.one (B b20)], (!b20) = false, (n12 == 7) = true, Ret Try.prog 146 [AD.agg [I n5, I n6]] [AD.agg [I n21, I n22], AD.one (B b23)], LoopOk Try.prog (loopOf Try.f118 0) (impl_StepOp_L0 l15 n16 n17 l19 n21 n22 b23 0 []) (Ex.exit 0) (impl_StepOp_X0 l19 l24)]) :
    Ret Try.prog 118 [AD.agg [D.sl 4 l0, I n1, I n2], AD.one (D.sl 4 l3), AD.agg [I n4, I n5, I n6, I n7, I n8]] [AD.one (D.sl 4 l19), AD.one (D.sl 5 l24), AD.one (B true)] :=
  .of [Ans.res [AD.one (B b9)], Ans.br false, Ans.res [AD.one (B b10)], Ans.br false, Ans.res [AD.one (B b11)], Ans.br false, Ans.el [I n12, I n13, I n14, D.sl 1 l15], Ans.res [AD.one (I n16), AD.one (I n17), AD.one (B b18)], Ans.br true, Ans.br false, Ans.res [AD.one (D.sl 4 l19), AD.one (B b20)], Ans.br false, Ans.br true, Ans.res [AD.agg [I n21, I n22], AD.one (B b23)], Ans.loop [(16, 107, 5)] [95, 94, 93, 15, 16, 14, 10, 11, 13] [14] (Ex.exit 0) (impl_StepOp_X0 l19 l24)] _ Try.func118 rfl (by kernel_rfl) h

def impl_StepOp_L0v6 (n0 : Int) (n1 : Int) (l2 : List (List D)) (n3 : Int) (n4 : Int) (l5 : List (List D)) (n6 : Int) (l7 : List (List D)) : St :=
  { env := envOf 111 [(10, PV.al (AL.one (Leaf.v (Value.int IntKind.i64 n3)))), (11, PV.al (AL.one (Leaf.v (Value.int IntKind.i64 n4)))), (13, PV.al (AL.one (Leaf.sl (Tag.own 760000) 4 l5))), (14, PV.al (AL.one (Leaf.ptr 14 0))), (15, PV.al (AL.one (Leaf.sb true))), (16, PV.al (AL.one (Leaf.sl (Tag.own 107) 5 l7))), (93, PV.al (AL.one (Leaf.sl Tag.free 1 l2))), (94, PV.al (AL.one (Leaf.v (Value.int IntKind.i64 (↑l2.length : Int))))), (95, PV.al (AL.one (Leaf.v (Value.int IntKind.i64 n6))))], boxes := [(14, [Leaf.v (Value.int IntKind.i64 n0), Leaf.v (Value.int IntKind.i64 n1)])] }

theorem impl_StepOp_L0v6_s0 (n5 : Int) (n6 : Int) (l15 : List (List D)) (n16 : Int) (n17 : Int) (l19 : List (List D)) (n21 : Int) (l22 : List (List D)) (n23 : Int)
    (h : Obs [decide (n21 < (↑l15.length : Int)) = true, 0 ≤ n21, n21 < (↑l15.length : Int), l15[n21.toNat]? = some [I n23], true = true, (l22.length + [[I n23, I n5, I n6, I n16, I n17]].length) * 40 ≤ 140737488355328, l22.length + [[I n23, I n5, I n6, I n16, I n17]].length ≤ 9223372036854775807, Flat [[I n23, I n5, I n6, I n16, I n17]], inInt IntKind.i64 (n21 + 1)]) :
    Tr Try.prog (loopOf Try.f118 0) (impl_StepOp_L0v6 n5 n6 l15 n16 n17 l19 n21 l22) Ex.normal (impl_StepOp_L0v6 n5 n6 l15 n16 n17 l19 (n21 + 1) (l22 ++ [[I n23, I n5, I n6, I n16, I n17]])) :=
  .of_loopc (ks := [95, 94, 93, 15, 16, 14, 10, 11, 13]) (bs := [14]) (ans := [Ans.br true, Ans.el [I n23], Ans.br true]) (by kernel_rfl) h

theorem impl_StepOp_L0v6_x1 (n5 : Int) (n6 : Int) (l15 : List (List D)) (n16 : Int) (n17 : Int) (l19 : List (List D)) (n21 : Int) (l22 : List (List D))
    (h : Obs [decide (n21 < (↑l15.length : Int)) = false]) :
    Tr Try.prog (loopOf Try.f118 0) (impl_StepOp_L0v6 n5 n6 l15 n16 n17 l19 n21 l22) (Ex.exit 0) (impl_StepOp_X0 l19 l22) :=
  .of_loopc (ks := [13, 16]) (bs := []) (ans := [Ans.br false]) (by kernel_rfl) h

theorem impl_StepOp_p6 (l0 : List (List D)) (n1 : Int) (n2 : Int) (l3 : List (List D)) (n4 : Int) (n5 : Int) (n6 : Int) (n7 : Int) (n8 : Int) (b9 : Bool) (b10 : Bool) (b11 : Bool) (n12 : Int) (n13 : Int) (n14 : Int) (l15 : List (List D)) (n16 : Int) (n17 : Int) (b18 : Bool) (l19 : List (List D)) (b20 : Bool) (l21 : List (List D))
    (h : Obs [Ret Try.prog 115 [AD.agg [D.sl 4 l0, I n1, I n2]] [AD.one (B b9)], (!b9) = false, Ret Try.prog 117 [AD.agg [I n4, I n5, I n6, I n7, I n8]] [AD.one (B b10)], (!b10) = false, Ret Try.prog 107 [AD.agg [D.sl 4 l0, I n1, I n2], AD.one (I n4)] [AD.one (B b11)], (!b11) = false, 0 ≤ n4, n4 < (↑l0.length : Int), l0[n4.toNat]? = some [I n12, I n13, I n14, D.sl 1 l15], Ret Try.prog 144 [AD.agg [I n12, I n13, I n14, D.sl 1 l15], AD.one (I n7), AD.one (I n8)] [AD.one (I n16), AD.one (I n17), AD.one (B b18)], (!b18) = true, (n12 != 8) = false, Ret Try.prog 145 [AD.one (I n12), AD.one (D.sl 4 l3), AD.agg [I n4, I n5, I n7, I n8]] [AD.one (D.sl 4 l19), AD.one (B b20)], (!b20) = false, (n12 == 7) = false, LoopOk Try.prog (loopOf Try.f118 0) (impl_StepOp_L0v6 n5 n6 l15 n16 n17 l19 0 []) (Ex.exit 0) (impl_StepOp_X0 l19 l21)]) :
    Ret Try.prog 118 [AD.agg [D.sl 4 l0, I n1, I n2], AD.one (D.sl 4 l3), AD.agg [I n4, I n5, I n6, I n7, I n8]] [AD.one (D.sl 4 l19), AD.one (D.sl 5 l21), AD.one (B true)] :=
  .of [Ans.res [AD.one (B b9)], Ans.br false, Ans.res [AD.one (B b10)], Ans.br false, Ans.res [AD.one (B b11)], Ans.br false, Ans.el [I n12, I n13, I n14, D.sl 1 l15], Ans.res [AD.one (I n16), AD.one (I n17), AD.one (B b18)], Ans.br true, Ans.br false, Ans.res [AD.one (D.sl 4 l19), AD.one (B b20)], Ans.br false, Ans.br false, Ans.loop [(16, 107, 5)] [95, 94, 93, 15, 16, 14, 10, 11, 13] [14] (Ex.exit 0) (impl_StepOp_X0 l19 l21)] _ Try.func118 rfl (by kernel_rfl) h

theorem impl_StepOp_p7 (l0 : List (List D)) (n1 : Int) (n2 : Int) (l3 : List (List D)) (n4 : Int) (n5 : Int) (n6 : Int) (n7 : Int) (n8 : Int) (b9 : Bool) (b10 : Bool) (b11 : Bool) (n12 : Int) (n13 : Int) (n14 : Int) (l15 : List (List D)) (n16 : Int) (n17 : Int) (b18 : Bool) (l19 : List (List D)) (b20 : Bool)
    (h : Obs [Ret Try.prog 115 [AD.agg [D.sl 4 l0, I n1, I n2]] [AD.one (B b9)], (!b9) = false, Ret Try.prog 117 [AD.agg [I n4, I n5, I n6, I n7, I n8]] [AD.one (B b10)], (!b10) = false, Ret Try.prog 107 [AD.agg [D.sl 4 l0, I n1, I n2], AD.one (I n4)] [AD.one (B b11)], (!b11) = false, 0 ≤ n4, n4 < (↑l0.length : Int), l0[n4.toNat]? = some [I n12, I n13, I n14, D.sl 1 l15], Ret Try.prog 144 [AD.agg [I n12, I n13, I n14, D.sl 1 l15], AD.one (I n7), AD.one (I n8)] [AD.one (I n16), AD.one (I n17), AD.one (B b18)], (!b18) = false, Ret Try.prog 145 [AD.one (I n12), AD.one (D.sl 4 l3), AD.agg [I n4, I n5, I n7, I n8]] [AD.one (D.sl 4 l19), AD.one (B b20)], (!b20) = true]) :
    Ret Try.prog 118 [AD.agg [D.sl 4 l0, I n1, I n2], AD.one (D.sl 4 l3), AD.agg [I n4, I n5, I n6, I n7, I n8]] [AD.one (D.sl 4 l19), AD.one (D.sl 5 []), AD.one (B true)] :=
  .of [Ans.res [AD.one (B b9)], Ans.br false, Ans.res [AD.one (B b10)], Ans.br false, Ans.res [AD.one (B b11)], Ans.br false, Ans.el [I n12, I n13, I n14, D.sl 1 l15], Ans.res [AD.one (I n16), AD.one (I n17), AD.one (B b18)], Ans.br false, Ans.res [AD.one (D.sl 4 l19), AD.one (B b20)], Ans.br true] _ Try.func118 rfl (by kernel_rfl) h

theorem impl_StepOp_p8 (l0 : List (List D)) (n1 : Int) (n2 : Int) (l3 : List (List D)) (n4 : Int) (n5 : Int) (n6 : Int) (n7 : Int) (n8 : Int) (b9 : Bool) (b10 : Bool) (b11 : Bool) (n12 : Int) (n13 : Int) (n14 : Int) (l15 : List (List D)) (n16 : Int) (n17 : Int) (b18 : Bool) (l19 : List (List D)) (b20 : Bool) (n21 : Int) (n22 : Int) (b23 : Bool) (l24 : List (List D))
    (h : Obs [Ret Try.prog 115 [AD.agg [D.sl 4 l0, I n1, I n2]] [AD.one (B b9)], (!b9) = false, Ret Try.prog 117 [AD.agg [I n4, I n5, I n6, I n7, I n8]] [AD.one (B b10)], (!b10) = false, Ret Try.prog 107 [AD.agg [D.sl 4 l0, I n1, I n2], AD.one (I n4)] [AD.one (B b11)], (!b11) = false, 0 ≤ n4, n4 < (↑l0.length : Int), l0[n4.toNat]? = some [I n12, I n13, I n14, D.sl 1 l15], Ret Try.prog 144 [AD.agg [I n12, I n13, I n14, D.sl 1 l15], AD.one (I n7), AD.one (I n8)] [AD.one (I n16), AD.one (I n17), AD.one (B b18)], (!b18) = false, Ret Try.prog 145 [AD.one (I n12), AD.one (D.sl 4 l3), AD.agg [I n4, I n5, I n7, I n8]] [AD.one (D.sl 4 l19), AD.one (B b20)], (!b20) = false, (n12 == 7) = true, Ret Try.prog 146 [AD.agg [I n5, I n6]] [AD.agg [I n21, I n22], AD.one (B b23)], LoopOk Try.prog (loopOf Try.f118 0) (impl_StepOp_L0 l15 n16 n17 l19 n21 n22 b23 0 []) (Ex.exit 0) (impl_StepOp_X0 l19 l24)]) :
    Ret Try.prog 118 [AD.agg [D.sl 4 l0, I n1, I n2], AD.one (D.sl 4 l3), AD.agg [I n4, I n5, I n6, I n7, I n8]] [AD.one (D.sl 4 l19), AD.one (D.sl 5 l24), AD.one (B true)] :=
  .of [Ans.res [AD.one (B b9)], Ans.br false, Ans.res [AD.one (B b10)], Ans.br false, Ans.res [AD.one (B b11)], Ans.br false, Ans.el [I n12, I n13, I n14, D.sl 1 l15], Ans.res [AD.one (I n16), AD.one (I n17), AD.one (B b18)], Ans.br false, Ans.res [AD.one (D.sl 4 l19), AD.one (B b20)], Ans.br false, Ans.br true, Ans.res [AD.agg [I n21, I n22], AD.one (B b23)], Ans.loop [(16, 107, 5)] [95, 94, 93, 15, 16, 14, 10, 11, 13] [14] (Ex.exit 0) (impl_StepOp_X0 l19 l24)] _ Try.func118 rfl (by kernel_rfl) h

theorem impl_StepOp_p9 (l0 : List (List D)) (n1 : Int) (n2 : Int) (l3 : List (List D)) (n4 : Int) (n5 : Int) (n6 : Int) (n7 : Int) (n8 : Int) (b9 : Bool) (b10 : Bool) (b11 : Bool) (n12 : Int) (n13 : Int) (n14 : Int) (l15 : List (List D)) (n16 : Int) (n17 : Int) (b18 : Bool) (l19 : List (List D)) (b20 : Bool) (l21 : List (List D))
    (h : Obs [Ret Try.prog 115 [AD.agg [D.sl 4 l0, I n1, I n2]] [AD.one (B b9)], (!b9) = false, Ret Try.prog 117 [AD.agg [I n4, I n5, I n6, I n7, I n8]] [AD.one (B b10)], (!b10) = false, Ret Try.prog 107 [AD.agg [D.sl 4 l0, I n1, I n2], AD.one (I n4)] [AD.one (B b11)], (!b11) = false, 0 ≤ n4, n4 < (↑l0.length : Int), l0[n4.toNat]? = some [I n12, I n13, I n14, D.sl 1 l15], Ret Try.prog 144 [AD.agg [I n12, I n13, I n14, D.sl 1 l15], AD.one (I n7), AD.one (I n8)] [AD.one (I n16), AD.one (I n17), AD.one (B b18)], (!b18) = false, Ret Try.prog 145 [AD.one (I n12), AD.one (D.sl 4 l3), AD.agg [I n4, I n5, I n7, I n8]] [AD.one (D.sl 4 l19), AD.one (B b20)], (!b20) = false, (n12 == 7) = false, LoopOk Try.prog (loopOf Try.f118 0) (impl_StepOp_L0v6 n5 n6 l15 n16 n17 l19 0 []) (Ex.exit 0) (impl_StepOp_X0 l19 l21)]) :
    Ret Try.prog 118 [AD.agg [D.sl 4 l0, I n1, I n2], AD.one (D.sl 4 l3), AD.agg [I n4, I n5, I n6, I n7, I n8]] [AD.one (D.sl 4 l19), AD.one (D.sl 5 l21), AD.one (B true)] :=
  .of [Ans.res [AD.one (B b9)], Ans.br false, Ans.res [AD.one (B b10)], Ans.br false, Ans.res [AD.one (B b11)], Ans.br false, Ans.el [I n12, I n13, I n14, D.sl 1 l15], Ans.res [AD.one (I n16), AD.one (I n17), AD.one (B b18)], Ans.br false, Ans.res [AD.one (D.sl 4 l19), AD.one (B b20)], Ans.br false, Ans.br false, Ans.loop [(16, 107, 5)] [95, 94, 93, 15, 16, 14, 10, 11, 13] [14] (Ex.exit 0) (impl_StepOp_X0 l19 l21)] _ Try.func118 rfl (by kernel_rfl) h

/- loop.example/g00973/impl.alone -/

theorem impl_alone_p0 (l0 : List (List D)) (n1 : Int) (n2 : Int) (l3 : List (List D)) (n4 : Int) (g5 : Nat) (k6 : List D) (b7 : Bool)
    (h : Obs [Ret Try.prog 115 [AD.agg [D.sl 4 l0, I n1, I n2]] [AD.one (B b7)], (!b7) = true]) :
    Ret Try.prog 84 [AD.agg [D.sl 4 l0, I n1, I n2], AD.one (D.sl 5 l3), AD.one (I n4), AD.one (D.cl g5 k6)] [AD.one (D.sl 4 []), AD.one (I 0), AD.one (B false)] :=
  .of [Ans.res [AD.one (B b7)], Ans.br true] _ Try.func84 rfl (by kernel_rfl) h

def impl_alone_L0 (g0 : Nat) (k1 : List D) (l2 : List (List D)) (n3 : Int) (l4 : List (List D)) (l5 : List (List D)) (n6 : Int) (n7 : Int) : St :=
  { env := envOf 74 [(3, PV.al (AL.one (Leaf.fd (D.cl g0 k1)))), (4, PV.al (AL.one (Leaf.ptr 4 0))), (11, PV.al (AL.one (Leaf.sl (Tag.own 38) 5 l4))), (24, PV.al (AL.one (Leaf.sl (Tag.own 250000) 5 l2))), (25, PV.al (AL.one (Leaf.v (Value.int IntKind.i64 (↑l2.length : Int))))), (26, PV.al (AL.one (Leaf.v (Value.int IntKind.i64 n3))))], boxes := [(4, [Leaf.sl Tag.free 4 l5, Leaf.v (Value.int IntKind.i64 n6), Leaf.v (Value.int IntKind.i64 n7)])] }

theorem impl_alone_L0_s0 (g5 : Nat) (k6 : List D) (l8 : List (List D)) (n9 : Int) (l10 : List (List D)) (l11 : List (List D)) (n12 : Int) (n13 : Int) (n14 : Int) (n15 : Int) (n16 : Int) (n17 : Int) (n18 : Int) (b19 : Bool)
    (h : Obs [decide (n9 < (↑l8.length : Int)) = true, 0 ≤ n9, n9 < (↑l8.length : Int), l8[n9.toNat]? = some [I n14, I n15, I n16, I n17, I n18], Ret Try.prog 117 [AD.agg [I n14, I n15, I n16, I n17, I n18]] [AD.one (B b19)], b19 = true, (l10.length + [[I 0, I n15, I 0, I n17, I n18]].length) * 40 ≤ 140737488355328, l10.length + [[I 0, I n15, I 0, I n17, I n18]].length ≤ 9223372036854775807, Flat [[I 0, I n15, I 0, I n17, I n18]], inInt IntKind.i64 (n9 + 1)]) :
    Tr Try.prog (loopOf Try.f84 0) (impl_alone_L0 g5 k6 l8 n9 l10 l11 n12 n13) Ex.normal (impl_alone_L0 g5 k6 l8 (n9 + 1) (l10 ++ [[I 0, I n15, I 0, I n17, I n18]]) l11 n12 n13) :=
  .of_loopc (ks := [26, 25, 24, 11, 3, 4]) (bs := [4]) (ans := [Ans.br true, Ans.el [I n14, I n15, I n16, I n17, I n18], Ans.res [AD.one (B b19)], Ans.br true]) (by kernel_rfl) h

theorem impl_alone_L0_s1 (g5 : Nat) (k6 : List D) (l8 : List (List D)) (n9 : Int) (l10 : List (List D)) (l11 : List (List D)) (n12 : Int) (n13 : Int) (n14 : Int) (n15 : Int) (n16 : Int) (n17 : Int) (n18 : Int) (b19 : Bool)
    (h : Obs [decide (n9 < (↑l8.length : Int)) = true, 0 ≤ n9, n9 < (↑l8.length : Int), l8[n9.toNat]? = some [I n14, I n15, I n16, I n17, I n18], Ret Try.prog 117 [AD.agg [I n14, I n15, I n16, I n17, I n18]] [AD.one (B b19)], b19 = false, inInt IntKind.i64 (n9 + 1)]) :
    Tr Try.prog (loopOf Try.f84 0) (impl_alone_L0 g5 k6 l8 n9 l10 l11 n12 n13) Ex.normal (impl_alone_L0 g5 k6 l8 (n9 + 1) l10 l11 n12 n13) :=
  .of_loopc (ks := [26, 25, 24, 11, 3, 4]) (bs := [4]) (ans := [Ans.br true, Ans.el [I n14, I n15, I n16, I n17, I n18], Ans.res [AD.one (B b19)], Ans.br false]) (by kernel_rfl) h

def impl_alone_X0 (g0 : Nat) (k1 : List D) (l2 : List (List D)) (l3 : List (List D)) (n4 : Int) (n5 : Int) : St :=
  { env := envOf 74 [(3, PV.al (AL.one (Leaf.fd (D.cl g0 k1)))), (4, PV.al (AL.one (Leaf.ptr 4 0))), (11, PV.al (AL.one (Leaf.sl (Tag.own 38) 5 l2)))], boxes := [(4, [Leaf.sl Tag.free 4 l3, Leaf.v (Value.int IntKind.i64 n4), Leaf.v (Value.int IntKind.i64 n5)])] }

theorem impl_alone_L0_x2 (g5 : Nat) (k6 : List D) (l8 : List (List D)) (n9 : Int) (l10 : List (List D)) (l11 : List (List D)) (n12 : Int) (n13 : Int)
    (h : Obs [decide (n9 < (↑l8.length : Int)) = false]) :
    Tr Try.prog (loopOf Try.f84 0) (impl_alone_L0 g5 k6 l8 n9 l10 l11 n12 n13) (Ex.exit 0) (impl_alone_X0 g5 k6 l10 l11 n12 n13) :=
  .of_loopc (ks := [11, 3, 4]) (bs := [4]) (ans := [Ans.br false]) (by kernel_rfl) h

def impl_alone_L1 (g0 : Nat) (k1 : List D) (l2 : List (List D)) (n3 : Int) (n4 : Int) (l5 : List (List D)) (n6 : Int) (l7 : List (List D)) : St :=
  { env := envOf 74 [(3, PV.al (AL.one (Leaf.fd (D.cl g0 k1)))), (4, PV.al (AL.one (Leaf.ptr 4 0))), (11, PV.al (AL.one (Leaf.sl (Tag.own 38) 5 l5))), (14, PV.al (AL.one (Leaf.sl (Tag.own 590000) 4 l7))), (15, PV.al (AL.one (Leaf.v (Value.int IntKind.i64 n6))))], boxes := [(4, [Leaf.sl Tag.free 4 l2, Leaf.v (Value.int IntKind.i64 n3), Leaf.v (Value.int IntKind.i64 n4)])] }

theorem impl_alone_L1_s0 (g5 : Nat) (k6 : List D) (l10 : List (List D)) (n11 : Int) (n12 : Int) (l13 : List (List D)) (n14 : Int) (l15 : List (List D)) (n16 : Int) (n17 : Int) (n18 : Int) (n19 : Int) (n20 : Int) (n21 : Int) (n22 : Int) (n23 : Int) (n24 : Int) (n25 : Int) (l26 : List (List D)) (l27 : List (List D)) (b28 : Bool)
    (h : Obs [decide ((↑l13.length : Int) > 0) = true, decide (n14 < 20000) = true, (0 : Int) ≤ 0, 0 < (↑l13.length : Int), l13[0]? = some [I n16, I n17, I n18, I n19, I n20], canCall Try.prog g5 = true, Ret Try.prog g5 ([AD.agg [I n16, I n17, I n18, I n19, I n20]] ++ List.map AD.one k6) [], (0 : Int) ≤ 0, 0 < (↑l13.length : Int), l13[0]? = some [I n21, I n22, I n23, I n24, I n25], Ret Try.prog 118 [AD.agg [D.sl 4 l10, I n11, I n12], AD.one (D.sl 4 l15), AD.agg [I n21, I n22, I n23, I n24, I n25]] [AD.one (D.sl 4 l26), AD.one (D.sl 5 l27), AD.one (B b28)], (0 : Int) ≤ (some 1).getD 0, (some 1).getD 0 ≤ none.getD (↑l13.length : Int), none.getD (↑l13.length : Int) ≤ (↑l13.length : Int), ((List.take (l13.length - 1) (List.drop 1 l13)).length + l27.length) * 40 ≤ 140737488355328, (List.take (l13.length - 1) (List.drop 1 l13)).length + l27.length ≤ 9223372036854775807, Flat l27, inInt IntKind.i64 (n14 + 1)]) :
    Tr Try.prog (loopOf Try.f84 1) (impl_alone_L1 g5 k6 l10 n11 n12 l13 n14 l15) Ex.normal (impl_alone_L1 g5 k6 l10 n11 n12 (List.take (l13.length - 1) (List.drop 1 l13) ++ l27) (n14 + 1) l26) :=
  .of_loopc (ks := [11, 15, 3, 4, 14]) (bs := [4]) (ans := [Ans.br true, Ans.br true, Ans.el [I n16, I n17, I n18, I n19, I n20], Ans.res [], Ans.el [I n21, I n22, I n23, I n24, I n25], Ans.res [AD.one (D.sl 4 l26), AD.one (D.sl 5 l27), AD.one (B b28)], Ans.own]) (by kernel_rfl) h

def impl_alone_X1 (l0 : List (List D)) (n1 : Int) (l2 : List (List D)) : St :=
  { env := envOf 74 [(11, PV.al (AL.one (Leaf.sl (Tag.own 38) 5 l2))), (14, PV.al (AL.one (Leaf.sl (Tag.own 590000) 4 l0))), (15, PV.al (AL.one (Leaf.v (Value.int IntKind.i64 n1))))], boxes := [] }

theorem impl_alone_L1_x1 (g5 : Nat) (k6 : List D) (l10 : List (List D)) (n11 : Int) (n12 : Int) (l13 : List (List D)) (n14 : Int) (l15 : List (List D))
    (h : Obs [decide ((↑l13.length : Int) > 0) = true, decide (n14 < 20000) = false]) :
    Tr Try.prog (loopOf Try.f84 1) (impl_alone_L1 g5 k6 l10 n11 n12 l13 n14 l15) (Ex.exit 2) (impl_alone_X1 l15 n14 l13) :=
  .of_loopc (ks := [14, 15, 11]) (bs := []) (ans := [Ans.br true, Ans.br false]) (by kernel_rfl) h

theorem impl_alone_L1_x2 (g5 : Nat) (k6 : List D) (l10 : List (List D)) (n11 : Int) (n12 : Int) (l13 : List (List D)) (n14 : Int) (l15 : List (List D))
    (h : Obs [decide ((↑l13.length : Int) > 0) = false]) :
    Tr Try.prog (loopOf Try.f84 1) (impl_alone_L1 g5 k6 l10 n11 n12 l13 n14 l15) (Ex.exit 2) (impl_alone_X1 l15 n14 l13) :=
  .of_loopc (ks := [14, 15, 11]) (bs := []) (ans := [Ans.br false]) (by kernel_rfl) h

theorem impl_alone_p1 (l0 : List (List D)) (n1 : Int) (n2 : Int) (l3 : List (List D)) (n4 : Int) (g5 : Nat) (k6 : List D) (b7 : Bool) (l8 : List (List D)) (l9 : List (List D)) (l10 : List (List D)) (n11 : Int) (n12 : Int) (l13 : List (List D)) (n14 : Int) (l15 : List (List D))
    (h : Obs [Ret Try.prog 115 [AD.agg [D.sl 4 l0, I n1, I n2]] [AD.one (B b7)], (!b7) = false, Ret Try.prog 116 [AD.one (D.sl 5 l3), AD.one (I n4)] [AD.one (D.sl 5 l8)], LoopOk Try.prog (loopOf Try.f84 0) (impl_alone_L0 g5 k6 l8 0 [] l0 n1 n2) (Ex.exit 0) (impl_alone_X0 g5 k6 l9 l10 n11 n12), LoopOk Try.prog (loopOf Try.f84 1) (impl_alone_L1 g5 k6 l10 n11 n12 l9 0 []) (Ex.exit 2) (impl_alone_X1 l13 n14 l15)]) :
    Ret Try.prog 84 [AD.agg [D.sl 4 l0, I n1, I n2], AD.one (D.sl 5 l3), AD.one (I n4), AD.one (D.cl g5 k6)] [AD.one (D.sl 4 l13), AD.one (I n14), AD.one (B ((↑l15.length : Int) == 0))] :=
  .of [Ans.res [AD.one (B b7)], Ans.br false, Ans.res [AD.one (D.sl 5 l8)], Ans.loop [(11, 38, 5)] [26, 25, 24, 11, 3, 4] [4] (Ex.exit 0) (impl_alone_X0 g5 k6 l9 l10 n11 n12), Ans.loop [(14, 590000, 4)] [11, 15, 3, 4, 14] [4] (Ex.exit 2) (impl_alone_X1 l13 n14 l15)] _ Try.func84 rfl (by kernel_rfl) h

/- loop.example/g00973/impl.AloneRun$1 -/

theorem impl_AloneRun_1_p0 (n0 : Int) (n1 : Int) (n2 : Int) (n3 : Int) (n4 : Int)
    (h : Obs []) :
    Ret Try.prog 85 [AD.agg [I n0, I n1, I n2, I n3, I n4]] [] :=
  .of [] _ Try.func85 rfl (by kernel_rfl) h

/- loop.example/g00973/impl.AloneRun -/

theorem impl_AloneRun_p0 (l0 : List (List D)) (n1 : Int) (n2 : Int) (l3 : List (List D)) (n4 : Int) (l5 : List (List D)) (n6 : Int) (b7 : Bool)
    (h : Obs [Ret Try.prog 84 [AD.agg [D.sl 4 l0, I n1, I n2], AD.one (D.sl 5 l3), AD.one (I n4), AD.one (D.cl 85 [])] [AD.one (D.sl 4 l5), AD.one (I n6), AD.one (B b7)]]) :
    Ret Try.prog 45 [AD.agg [D.sl 4 l0, I n1, I n2], AD.one (D.sl 5 l3), AD.one (I n4)] [AD.one (D.sl 4 l5), AD.one (I n6), AD.one (B b7)] :=
  .of [Ans.res [AD.one (D.sl 4 l5), AD.one (I n6), AD.one (B b7)]] _ Try.func45 rfl (by kernel_rfl) h

/- loop.example/g00973/impl.AloneSteps -/

theorem impl_AloneSteps_p0 (l0 : List (List D)) (n1 : Int) (n2 : Int) (l3 : List (List D)) (n4 : Int) (l5 : List (List D)) (n6 : Int) (b7 : Bool)
    (h : Obs [Ret Try.prog 45 [AD.agg [D.sl 4 l0, I n1, I n2], AD.one (D.sl 5 l3), AD.one (I n4)] [AD.one (D.sl 4 l5), AD.one (I n6), AD.one (B b7)]]) :
    Ret Try.prog 42 [AD.agg [D.sl 4 l0, I n1, I n2], AD.one (D.sl 5 l3), AD.one (I n4)] [AD.one (I n6)] :=
  .of [Ans.res [AD.one (D.sl 4 l5), AD.one (I n6), AD.one (B b7)]] _ Try.func42 rfl (by kernel_rfl) h

/- loop.example/g00973/impl.AloneOuts -/

theorem impl_AloneOuts_p0 (l0 : List (List D)) (n1 : Int) (n2 : Int) (l3 : List (List D)) (n4 : Int) (l5 : List (List D)) (n6 : Int) (b7 : Bool) (l8 : List (List D))
    (h : Obs [Ret Try.prog 45 [AD.agg [D.sl 4 l0, I n1, I n2], AD.one (D.sl 5 l3), AD.one (I n4)] [AD.one (D.sl 4 l5), AD.one (I n6), AD.one (B b7)], Ret Try.prog 79 [AD.agg [D.sl 4 l0, I n1, I n2], AD.one (D.sl 4 l5)] [AD.one (D.sl 4 l8)]]) :
    Ret Try.prog 48 [AD.agg [D.sl 4 l0, I n1, I n2], AD.one (D.sl 5 l3), AD.one (I n4)] [AD.one (D.sl 4 l8)] :=
  .of [Ans.res [AD.one (D.sl 4 l5), AD.one (I n6), AD.one (B b7)], Ans.res [AD.one (D.sl 4 l8)]] _ Try.func48 rfl (by kernel_rfl) h

end Go.Proofs.Ytbbjajmimckabaa
