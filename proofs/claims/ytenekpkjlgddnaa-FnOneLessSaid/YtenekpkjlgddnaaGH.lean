import Derived.Test.YtenekpkjlgddnaaRows
import Derived.Test.YtenekpkjlgddnaaR22
import Derived.Test.YtenekpkjlgddnaaR33
set_option linter.unusedVariables false
set_option linter.unusedSimpArgs false
namespace Go.Proofs.Ytenekpkjlgddnaa
open Go.Sx Go.RowKit

/- loop.example/g00973/spec.AloneCapped -/

/- loop.example/g00973/impl.AloneCapped -/

/- loop.example/g00973/impl.AloneCapped$1 -/

-- STUCK 27: no answer for an operation of function 27: store, slot none, at some (1) : Go.Sx.PV.al
/- loop.example/g00973/impl.SameBag -/

theorem impl_SameBag_p0 (l0 : List (List D)) (l1 : List (List D)) (l2 : List (List D)) (l3 : List (List D)) (b4 : Bool)
    (h : Obs [Ret Try.prog 39 [AD.one (D.sl 5 l0)] [AD.one (D.sl 5 l2)], Ret Try.prog 39 [AD.one (D.sl 5 l1)] [AD.one (D.sl 5 l3)], Ret Try.prog 38 [AD.one (D.sl 5 l2), AD.one (D.sl 5 l3)] [AD.one (B b4)]]) :
    Ret Try.prog 17 [AD.one (D.sl 5 l0), AD.one (D.sl 5 l1)] [AD.one (B b4)] :=
  .of [Ans.res [AD.one (D.sl 5 l2)], Ans.res [AD.one (D.sl 5 l3)], Ans.res [AD.one (B b4)]] _ Try.func17 rfl (by kernel_rfl) h

end Go.Proofs.Ytenekpkjlgddnaa
