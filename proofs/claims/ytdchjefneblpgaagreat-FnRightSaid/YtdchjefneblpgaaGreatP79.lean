import Derived.Test.YtdchjefneblpgaaGreatC0
import Derived.Test.YtdchjefneblpgaaGreatG1
import Derived.Test.YtdchjefneblpgaaGreatG3
set_option linter.unusedVariables false
set_option linter.unusedSimpArgs false
namespace Go.Proofs.YtdchjefneblpgaaGreat
open Go.Sx Go.RowKit Go.Proofs.Tryz
theorem ZS{xs:List Cell}(aj:xs.length<=8388608):av 19 [.one (.J 4 (xs.map Cell.e)),.one (.J 4 (xs.map Cell.e))] [.one (B true)]:=by
 have l:=dO (P:=prog) (c:=(ap f19 0)) (ci 0) xs.length (fun i:Nat=>Dw (xs.map Cell.e) (xs.map Cell.e) i) (fun i hi=>by
  obtain⟨a,ae⟩:=cV hi;exact arF ⟨bT hi,bx,bA hi,bw Cell.e ae,bx,bA hi,bw Cell.e ae,by simp,cP hi aj,ad⟩) (arG ⟨dq,ad⟩)
 exact arH ⟨by simp,l,ad⟩
