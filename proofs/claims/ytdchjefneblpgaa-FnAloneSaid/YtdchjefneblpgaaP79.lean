import Derived.Test.YtdchjefneblpgaaC0
import Derived.Test.YtdchjefneblpgaaG1
import Derived.Test.YtdchjefneblpgaaGT
set_option linter.unusedVariables false
set_option linter.unusedSimpArgs false
namespace Go.Proofs.Ytdchjefneblpgaa
open Go.Sx Go.RowKit Go.Proofs.Try
theorem M9(xs:List Cell)(ak:xs.length<=8388608):aA 8 [.one (.aa 4 (xs.map Cell.e)),.one (.aa 4 (xs.map Cell.e))] [.one (B true)]:=by
 have l:=gx (P:=prog) (c:=(aF f8 0)) (di 0) xs.length (fun i:Nat=>qN (xs.map Cell.e) (xs.map Cell.e) i) (fun i hi=>by
  obtain⟨a,aC⟩:=cT hi;exact L5 ⟨dr hi,c1,dh hi,c2 Cell.e aC,c1,dh hi,c2 Cell.e aC,by simp,eN hi ak,aj⟩) (L7 ⟨fb,aj⟩)
 exact L8 ⟨by simp,l,aj⟩
