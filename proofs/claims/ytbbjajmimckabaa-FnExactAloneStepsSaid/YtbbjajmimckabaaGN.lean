import Derived.Test.YtbbjajmimckabaaRows
import Derived.Test.YtbbjajmimckabaaR23
set_option linter.unusedVariables false
set_option linter.unusedSimpArgs false
namespace Go.Proofs.Ytbbjajmimckabaa
open Go.Sx Go.RowKit

/- slices.Index[[]loop.example/g00973/impl.Record,loop.example/g00973/impl.Record] -/

/- loop.example/g00973/spec.WithoutOne -/

/- loop.example/g00973/impl.WithoutOne -/

/- loop.example/g00973/impl.copyRecords -/

/- loop.example/g00973/spec.Consumed -/

/- loop.example/g00973/impl.Consumed -/

/- loop.example/g00973/spec.Brought -/

/- loop.example/g00973/impl.Brought -/

/- loop.example/g00973/spec.AllPicks -/

/- loop.example/g00973/impl.AllPicks -/

/- loop.example/g00973/impl.within -/

theorem impl_within_p0 (n0 : Int) (n1 : Int) (n2 : Int)
    (h : Obs [decide (n0 ≥ n1) = true]) :
    Ret Try.prog 62 [AD.one (I n0), AD.one (I n1), AD.one (I n2)] [AD.one (B (decide (n0 ≤ n2)))] :=
  .of [Ans.br true] _ Try.func62 rfl (by kernel_rfl) h

theorem impl_within_p1 (n0 : Int) (n1 : Int) (n2 : Int)
    (h : Obs [decide (n0 ≥ n1) = false]) :
    Ret Try.prog 62 [AD.one (I n0), AD.one (I n1), AD.one (I n2)] [AD.one (B false)] :=
  .of [Ans.br false] _ Try.func62 rfl (by kernel_rfl) h

/- loop.example/g00973/spec.l01In -/

theorem spec_l01In_p0 (n0 : Int) (n1 : Int) (n2 : Int)
    (h : Obs [decide (n0 ≥ n1) = true]) :
    Ret Try.prog 57 [AD.one (I n0), AD.one (I n1), AD.one (I n2)] [AD.one (B (decide (n0 ≤ n2)))] :=
  .of [Ans.br true] _ Try.func57 rfl (by kernel_rfl) h

theorem spec_l01In_p1 (n0 : Int) (n1 : Int) (n2 : Int)
    (h : Obs [decide (n0 ≥ n1) = false]) :
    Ret Try.prog 57 [AD.one (I n0), AD.one (I n1), AD.one (I n2)] [AD.one (B false)] :=
  .of [Ans.br false] _ Try.func57 rfl (by kernel_rfl) h

end Go.Proofs.Ytbbjajmimckabaa
