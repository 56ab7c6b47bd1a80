/- The laws StepPick and CanMove answer true. -/
import Derived.Test.YtdanpadojemjeaaGreatP51
import Derived.Test.YtdanpadojemjeaaGreatP45
set_option linter.unusedVariables false
set_option linter.unusedSimpArgs false
namespace Go.Proofs.YtdanpadojemjeaaGreat
open Go.Sx Go.RowKit
theorem qPP(c:Cluster)(hw:c.wf):Rt 5 [.agg c.e] [.one (B true)]:=by
 have r:=qg7 c 1048576 (by omega) (by omega) hw
 by_cases h:c.sz≤1048576
 ·rw[qaR (by omega)]at r
  have hb:c.sz≤8388608:=by omega
  have t:=qhj c hb
  exact qPL ⟨r,dF (by omega),t,qOo c hb (GotLe.of hw),t,qOp c hb (GotLe.of hw),nbb _,t,qdC c c true (by simp) hb,rfl,trivial⟩
 ·rw[qax (by omega)]at r
  exact qPK ⟨r,rfl,trivial⟩
end Go.Proofs.YtdanpadojemjeaaGreat
