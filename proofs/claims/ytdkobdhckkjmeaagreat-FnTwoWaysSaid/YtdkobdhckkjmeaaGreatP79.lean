/- What the laws hold for the same is the same as itself. -/
import Derived.Test.YtdkobdhckkjmeaaGreatC0
import Derived.Test.YtdkobdhckkjmeaaGreatG1
import Derived.Test.YtdkobdhckkjmeaaGreatGT
set_option linter.unusedVariables false
set_option linter.unusedSimpArgs false
namespace Go.Proofs.YtdkobdhckkjmeaaGreat
open Go.Sx Go.RowKit Go.Proofs.Tryz
theorem qQt(xs:List Cell)(hl:xs.length≤8388608):Rt 22 [.one (.sl 4 (xs.map Cell.e)),.one (.sl 4 (xs.map Cell.e))] [.one (B true)]:=by
 have l:=qao (P:=prog) (c:=(qaa f22 0)) (qaf 0) xs.length (fun i:Nat=>qhU (xs.map Cell.e) (xs.map Cell.e) i) (fun i hi=>by
  obtain⟨a,ha⟩:=qal hi;exact qJe ⟨lt1 hi,lt0,lt2 hi,qac Cell.e ha,lt0,lt2 hi,qac Cell.e ha,by simp,up1 hi hl,trivial⟩) (qJf ⟨ge1,trivial⟩)
 exact qJg ⟨by simp,l,trivial⟩
end Go.Proofs.YtdkobdhckkjmeaaGreat
