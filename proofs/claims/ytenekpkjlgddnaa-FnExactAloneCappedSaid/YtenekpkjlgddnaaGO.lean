import Derived.Test.YtenekpkjlgddnaaRows
import Derived.Test.YtenekpkjlgddnaaR22
import Derived.Test.YtenekpkjlgddnaaR33
set_option linter.unusedVariables false
set_option linter.unusedSimpArgs false
namespace Go.Proofs.Ytenekpkjlgddnaa
open Go.Sx Go.RowKit

/- loop.example/g00973/laws.big -/

/- loop.example/g00973/laws.FnOneLess -/

theorem laws_FnExactAloneCapped_p0 (l0 : List (List D)) (n1 : Int) (n2 : Int) (l3 : List (List D)) (n4 : Int) (n5 : Int)
    (h : Obs [Ret Try.prog 6 [AD.agg [D.sl 4 l0, I n1, I n2], AD.one (I 1048576)] [AD.one (I n5)], decide (n5 < 0) = true]) :
    Ret Try.prog 3 [AD.agg [D.sl 4 l0, I n1, I n2], AD.one (D.sl 5 l3), AD.one (I n4)] [AD.one (B true)] :=
  .of [Ans.res [AD.one (I n5)], Ans.br true] _ Try.func3 rfl (by kernel_rfl) h

theorem laws_FnExactAloneCapped_p1 (l0 : List (List D)) (n1 : Int) (n2 : Int) (l3 : List (List D)) (n4 : Int) (n5 : Int) (n6 : Int)
    (h : Obs [Ret Try.prog 6 [AD.agg [D.sl 4 l0, I n1, I n2], AD.one (I 1048576)] [AD.one (I n5)], decide (n5 < 0) = false, Ret Try.prog 7 [AD.one (D.sl 5 l3), AD.one (I n5)] [AD.one (I n6)], decide (n6 < 0) = true]) :
    Ret Try.prog 3 [AD.agg [D.sl 4 l0, I n1, I n2], AD.one (D.sl 5 l3), AD.one (I n4)] [AD.one (B true)] :=
  .of [Ans.res [AD.one (I n5)], Ans.br false, Ans.res [AD.one (I n6)], Ans.br true] _ Try.func3 rfl (by kernel_rfl) h

theorem laws_FnExactAloneCapped_p5 (l0 : List (List D)) (n1 : Int) (n2 : Int) (l3 : List (List D)) (n4 : Int) (n5 : Int) (n6 : Int) (l7 : List (List D)) (n8 : Int) (n9 : Int) (l10 : List (List D)) (b11 : Bool) (l12 : List (List D)) (n13 : Int) (n14 : Int) (l15 : List (List D)) (b16 : Bool) (l17 : List (List D)) (n18 : Int) (n19 : Int) (b20 : Bool) (l21 : List (List D)) (b22 : Bool)
    (h : Obs [Ret Try.prog 6 [AD.agg [D.sl 4 l0, I n1, I n2], AD.one (I 1048576)] [AD.one (I n5)], decide (n5 < 0) = false, Ret Try.prog 7 [AD.one (D.sl 5 l3), AD.one (I n5)] [AD.one (I n6)], decide (n6 < 0) = false, Ret Try.prog 9 [AD.agg [D.sl 4 l0, I n1, I n2]] [AD.agg [D.sl 4 l7, I n8, I n9]], Ret Try.prog 10 [AD.one (D.sl 5 l3)] [AD.one (D.sl 5 l10)], Ret Try.prog 8 [AD.agg [D.sl 4 l7, I n8, I n9], AD.one (D.sl 5 l10), AD.one (I n4)] [AD.one (B b11)], Ret Try.prog 9 [AD.agg [D.sl 4 l0, I n1, I n2]] [AD.agg [D.sl 4 l12, I n13, I n14]], Ret Try.prog 10 [AD.one (D.sl 5 l3)] [AD.one (D.sl 5 l15)], Ret Try.prog 11 [AD.agg [D.sl 4 l12, I n13, I n14], AD.one (D.sl 5 l15), AD.one (I n4)] [AD.one (B b16)], (!b16 == b11) = false, Ret Try.prog 9 [AD.agg [D.sl 4 l0, I n1, I n2]] [AD.agg [D.sl 4 l17, I n18, I n19]], Ret Try.prog 12 [AD.agg [D.sl 4 l12, I n13, I n14], AD.agg [D.sl 4 l17, I n18, I n19]] [AD.one (B b20)], (!b20) = false, Ret Try.prog 10 [AD.one (D.sl 5 l3)] [AD.one (D.sl 5 l21)], Ret Try.prog 13 [AD.one (D.sl 5 l15), AD.one (D.sl 5 l21)] [AD.one (B b22)], (!b22) = false]) :
    Ret Try.prog 3 [AD.agg [D.sl 4 l0, I n1, I n2], AD.one (D.sl 5 l3), AD.one (I n4)] [AD.one (B true)] :=
  .of [Ans.res [AD.one (I n5)], Ans.br false, Ans.res [AD.one (I n6)], Ans.br false, Ans.res [AD.agg [D.sl 4 l7, I n8, I n9]], Ans.res [AD.one (D.sl 5 l10)], Ans.res [AD.one (B b11)], Ans.res [AD.agg [D.sl 4 l12, I n13, I n14]], Ans.res [AD.one (D.sl 5 l15)], Ans.res [AD.one (B b16)], Ans.br false, Ans.res [AD.agg [D.sl 4 l17, I n18, I n19]], Ans.res [AD.one (B b20)], Ans.br false, Ans.res [AD.one (D.sl 5 l21)], Ans.res [AD.one (B b22)], Ans.br false] _ Try.func3 rfl (by kernel_rfl) h

end Go.Proofs.Ytenekpkjlgddnaa
