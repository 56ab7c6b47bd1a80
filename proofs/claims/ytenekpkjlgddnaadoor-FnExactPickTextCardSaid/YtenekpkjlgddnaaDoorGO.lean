import Derived.Test.YtenekpkjlgddnaaDoorRows
import Derived.Test.YtenekpkjlgddnaaDoorR22
import Derived.Test.YtenekpkjlgddnaaDoorR33
set_option linter.unusedVariables false
set_option linter.unusedSimpArgs false
namespace Go.Proofs.YtenekpkjlgddnaaDoor
open Go.Sx Go.RowKit

/- loop.example/g00973/laws.FnExactPickText -/

theorem laws_FnExactPickText_p1 (n0 : Int) (n1 : Int) (n2 : Int) (n3 : Int) (n4 : Int) (n5 : Int) (s6 : ByteArray) (n7 : Int) (n8 : Int) (n9 : Int) (s10 : ByteArray)
    (h : Obs [Ret Tryd.prog 6 [AD.agg [I n0, I n1, I n2]] [AD.agg [I n3, I n4, I n5]], Ret Tryd.prog 5 [AD.agg [I n3, I n4, I n5]] [AD.one (Str s6)], Ret Tryd.prog 6 [AD.agg [I n0, I n1, I n2]] [AD.agg [I n7, I n8, I n9]], Ret Tryd.prog 7 [AD.agg [I n7, I n8, I n9]] [AD.one (Str s10)], (!s10.toList == s6.toList) = false]) :
    Ret Tryd.prog 3 [AD.agg [I n0, I n1, I n2]] [AD.one (B true)] :=
  .of [Ans.res [AD.agg [I n3, I n4, I n5]], Ans.res [AD.one (Str s6)], Ans.res [AD.agg [I n7, I n8, I n9]], Ans.res [AD.one (Str s10)], Ans.br false] _ Tryd.func3 rfl (by kernel_rfl) h

/- loop.example/g00973/laws.FnExactDonesText -/

end Go.Proofs.YtenekpkjlgddnaaDoor
