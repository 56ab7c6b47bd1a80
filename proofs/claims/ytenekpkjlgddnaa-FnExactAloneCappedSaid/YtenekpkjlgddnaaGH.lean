import Derived.Test.YtenekpkjlgddnaaRows
import Derived.Test.YtenekpkjlgddnaaR22
import Derived.Test.YtenekpkjlgddnaaR33
set_option linter.unusedVariables false
set_option linter.unusedSimpArgs false
namespace Go.Proofs.Ytenekpkjlgddnaa
open Go.Sx Go.RowKit

/- loop.example/g00973/spec.AloneCapped -/

theorem spec_AloneCapped_p0 (l0 : List (List D)) (n1 : Int) (n2 : Int) (l3 : List (List D)) (n4 : Int) (l5 : List (List D)) (n6 : Int) (b7 : Bool) (b8 : Bool)
    (h : Obs [Ret Try.prog 23 [AD.agg [D.sl 4 l0, I n1, I n2], AD.one (D.sl 5 l3), AD.one (I n4)] [AD.one (D.sl 4 l5), AD.one (I n6), AD.one (B b7), AD.one (B b8)]]) :
    Ret Try.prog 8 [AD.agg [D.sl 4 l0, I n1, I n2], AD.one (D.sl 5 l3), AD.one (I n4)] [AD.one (B b8)] :=
  .of [Ans.res [AD.one (D.sl 4 l5), AD.one (I n6), AD.one (B b7), AD.one (B b8)]] _ Try.func8 rfl (by kernel_rfl) h

/- loop.example/g00973/impl.SameBag -/

end Go.Proofs.Ytenekpkjlgddnaa
