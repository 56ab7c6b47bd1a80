import Derived.Test.YtdchjefneblpgaaGreatC0
import Derived.Test.YtdchjefneblpgaaGreatG1
import Derived.Test.YtdchjefneblpgaaGreatGT
set_option linter.unusedVariables false
set_option linter.unusedSimpArgs false
namespace Go.Proofs.YtdchjefneblpgaaGreat
open Go.Sx Go.RowKit Go.Proofs.Tryz
theorem XV(xs:List aq)(ap:xs.length<=8388608):al 37 [.one (.J 5 (xs.map aq.e)),.one (.J 5 (xs.map aq.e))] [.one (B true)]:=by
 have l:=fC (P:=prog) (c:=(ar f37 0)) (cH 0) xs.length (fun i:Nat=>CK (xs.map aq.e) (xs.map aq.e) i) (fun i hi=>by
  obtain⟨a,ak⟩:=c9 hi;exact amL ⟨b5 hi,bD,bK hi,bE aq.e ak,bD,bK hi,bE aq.e ak,by simp,dj hi ap,aa⟩) (amM ⟨dT,aa⟩)
 exact amN ⟨by simp,l,aa⟩
