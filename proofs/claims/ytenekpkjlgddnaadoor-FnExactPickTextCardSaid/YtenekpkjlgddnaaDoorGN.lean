import Derived.Test.YtenekpkjlgddnaaDoorRows
import Derived.Test.YtenekpkjlgddnaaDoorR22
import Derived.Test.YtenekpkjlgddnaaDoorR33
set_option linter.unusedVariables false
set_option linter.unusedSimpArgs false
namespace Go.Proofs.YtenekpkjlgddnaaDoor
open Go.Sx Go.RowKit

/- loop.example/g00973/impl.within -/

theorem impl_within_p0 (n0 : Int) (n1 : Int) (n2 : Int)
    (h : Obs [decide (n0 ≥ n1) = true]) :
    Ret Tryd.prog 15 [AD.one (I n0), AD.one (I n1), AD.one (I n2)] [AD.one (B (decide (n0 ≤ n2)))] :=
  .of [Ans.br true] _ Tryd.func15 rfl (by kernel_rfl) h

theorem impl_within_p1 (n0 : Int) (n1 : Int) (n2 : Int)
    (h : Obs [decide (n0 ≥ n1) = false]) :
    Ret Tryd.prog 15 [AD.one (I n0), AD.one (I n1), AD.one (I n2)] [AD.one (B false)] :=
  .of [Ans.br false] _ Tryd.func15 rfl (by kernel_rfl) h

/- loop.example/g00973/spec.l01In -/

theorem spec_l01In_p0 (n0 : Int) (n1 : Int) (n2 : Int)
    (h : Obs [decide (n0 ≥ n1) = true]) :
    Ret Tryd.prog 13 [AD.one (I n0), AD.one (I n1), AD.one (I n2)] [AD.one (B (decide (n0 ≤ n2)))] :=
  .of [Ans.br true] _ Tryd.func13 rfl (by kernel_rfl) h

theorem spec_l01In_p1 (n0 : Int) (n1 : Int) (n2 : Int)
    (h : Obs [decide (n0 ≥ n1) = false]) :
    Ret Tryd.prog 13 [AD.one (I n0), AD.one (I n1), AD.one (I n2)] [AD.one (B false)] :=
  .of [Ans.br false] _ Tryd.func13 rfl (by kernel_rfl) h

end Go.Proofs.YtenekpkjlgddnaaDoor
