/- Small functions that many others call, and lemmas for loops. -/
import Derived.Test.YtenekpkjlgddnaaDoorT2
import Derived.Test.YtenekpkjlgddnaaDoorGN
set_option linter.unusedVariables false
set_option linter.unusedSimpArgs false
namespace Go.Proofs.YtenekpkjlgddnaaDoor
open Go.Sx Go.RowKit
theorem Record.flat(r:Record):∀d∈r.e,∃x,d=.v x:=by
 intro d hd
 simp only[Record.e,zL,zbu,or_false]at hd
 rcases hd with rfl | rfl | rfl | rfl | rfl<;>exact⟨_,rfl⟩
theorem Cell.flat(r:Cell):∀d∈r.e,∃x,d=.v x:=by
 intro d hd
 simp only[Cell.e,zL,zbu,or_false]at hd
 rcases hd with rfl | rfl | rfl | rfl<;>exact⟨_,rfl⟩
theorem Pick.flat(r:Pick):∀d∈r.e,∃x,d=.v x:=by
 intro d hd
 simp only[Pick.e,zL,zbu,or_false]at hd
 rcases hd with rfl | rfl | rfl<;>exact⟨_,rfl⟩
theorem Stamp.flat(r:Stamp):∀d∈r.e,∃x,d=.v x:=by
 intro d hd
 simp only[Stamp.e,zL,zbu,or_false]at hd
 rcases hd with rfl | rfl<;>exact⟨_,rfl⟩
theorem dT{p:Prop}[Decidable p](h:p):decide p=true:=zap h
theorem dF{p:Prop}[Decidable p](h:¬p):decide p=false:=zt h
end Go.Proofs.YtenekpkjlgddnaaDoor
