/- OfEpoch: what program and reference compute. -/
import Derived.Test.YtenekpkjlgddnaaGreatC0
set_option linter.unusedVariables false
set_option linter.unusedSimpArgs false
namespace Go.Proofs.YtenekpkjlgddnaaGreat
open Go.Sx Go.RowKit Go.Proofs.Tryz
def qdH(e:Int)(xs:List Record):List Record:=xs.filter fun r=>r.stamp.epoch==e
theorem qk7(xs:List Record)(e:Int)(hl:xs.length≤8388608):Rt 85 [.one (.sl 5 (xs.map Record.e)),.one (I e)] [.one (.sl 5 ((qdH e xs).map Record.e))]:=by
 let p:=fun r:Record=>r.stamp.epoch==e
 have l:=qaT (P:=prog) (c:=(qab f85 0)) (qaj 0) xs.length (fun i:Nat=>qdx (xs.map Record.e) e i (((xs.take i).filter p).map Record.e)) (fun i hi=>by
  obtain⟨a,ha⟩:=qah hi
  have hf:=qky p xs i
  have hs:=qfP p ha
  by_cases hp:p a=true
  ·rw[zp hp]at hs
   rw[hs,zU]
   exact qox ⟨lt1 hi,lt0,lt2 hi,qad Record.e ha,hp,by simp;omega,by simp;omega,qbA a.flat,up1 hi hl,trivial⟩
  ·rw[zo hp,zaa]at hs
   rw[hs]
   exact qoy ⟨lt1 hi,lt0,lt2 hi,qad Record.e ha,zQ.2 hp,up1 hi hl,trivial⟩) (qoz ⟨ge1,trivial⟩)
 rw[zC]at l
 exact qoA ⟨l,trivial⟩
end Go.Proofs.YtenekpkjlgddnaaGreat
