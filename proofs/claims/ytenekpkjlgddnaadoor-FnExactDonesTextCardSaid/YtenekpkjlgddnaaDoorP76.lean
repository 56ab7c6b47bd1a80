/- The law DonesText answers true. -/
import Derived.Test.YtenekpkjlgddnaaDoorP74
import Derived.Test.YtenekpkjlgddnaaDoorP75
import Derived.Test.YtenekpkjlgddnaaDoorT2
set_option linter.unusedVariables false
set_option linter.unusedSimpArgs false
namespace Go.Proofs.YtenekpkjlgddnaaDoor
open Go.Sx Go.RowKit
theorem qlC(x:Worker)(hw:x.wf):Rt 4 [.agg x.e] [.one (B true)]:=by
 have r:=qjv x 1048576 (by omega) (by omega) hw
 by_cases h:x.sz≤1048576
 ·rw[qbf (by omega)]at r
  have t:=qjX x (by omega)
  have hl:x.dones.length≤8388608:=by
   simp only[Worker.sz]at h
   omega
  exact qlA _ _ _ _ _ _ _ _ _ _ _ _ _ _ _ _ _ _ _ _ _ _ _ _ _ _ _ _ _ _ _ _ _ _ _ _ ⟨r,by simp only[zf];omega,t,qly x hw.dones_ok.2 hl,t,qlw x hw.dones_ok.2 hl,by simp,t,qk1 x x true (by simp) (by omega),rfl,trivial⟩
 ·rw[qav (by omega)]at r
  exact qlz ⟨r,rfl,trivial⟩
end Go.Proofs.YtenekpkjlgddnaaDoor
