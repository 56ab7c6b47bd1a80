/- OfEpoch: what program and reference compute. -/
import Derived.Test.YtenekpkjlgddnaaC0
set_option linter.unusedVariables false
set_option linter.unusedSimpArgs false
namespace Go.Proofs.Ytenekpkjlgddnaa
open Go.Sx Go.RowKit Go.Proofs.Try
def qcX(e:Int)(xs:List Record):List Record:=xs.filter fun r=>r.stamp.epoch==e
theorem qor(xs:List Record)(e:Int)(hl:xs.length≤8388608):Rt 54 [.one (.sl 5 (xs.map Record.e)),.one (I e)] [.one (.sl 5 ((qcX e xs).map Record.e))]:=by
 let p:=fun r:Record=>r.stamp.epoch==e
 have l:=qbw (P:=prog) (c:=(qab f54 0)) (qaF 0) xs.length (fun i:Nat=>qcr (xs.map Record.e) e i (((xs.take i).filter p).map Record.e)) (fun i hi=>by
  obtain⟨a,ha⟩:=qag hi
  have hf:=qfZ p xs i
  have hs:=qec p ha
  by_cases hp:p a=true
  ·rw[zp hp]at hs
   rw[hs,zU]
   exact qkv ⟨lt1 hi,lt0,lt2 hi,qaB Record.e ha,hp,by simp;omega,by simp;omega,qdn a.flat,up1 hi hl,trivial⟩
  ·rw[zo hp,zaa]at hs
   rw[hs]
   exact qkw ⟨lt1 hi,lt0,lt2 hi,qaB Record.e ha,zQ.2 hp,up1 hi hl,trivial⟩) (qkx ⟨ge1,trivial⟩)
 rw[zC]at l
 exact qky ⟨l,trivial⟩
end Go.Proofs.Ytenekpkjlgddnaa
