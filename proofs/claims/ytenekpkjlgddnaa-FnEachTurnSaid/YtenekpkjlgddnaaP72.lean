/- Capped: what the program computes. -/
import Derived.Test.YtenekpkjlgddnaaP16
set_option linter.unusedVariables false
set_option linter.unusedSimpArgs false
namespace Go.Proofs.Ytenekpkjlgddnaa
open Go.Sx Go.RowKit
theorem qoA{g:Graph}{op:Int}{x:Node}(h:qas g op=some x):0≤op∧op<(↑(g.nodes.map Node.e).length:Int)∧(g.nodes.map Node.e)[op.toNat]?=some x.e:=by
 unfold qas at h
 split at h
 ·have:=lt_of h
  exact⟨‹_›,by rw[zb];omega,qac Node.e h⟩
 ·cases h
theorem qiN(g:Graph)(r:Record)(hg:g.sz≤8388608):Rt 20 [.agg g.e,.agg r.e] [.one (B (capped g r))]:=by
 have k:=qen g hg
 have kr:=qem r
 have nt:=qf6 r.stamp
 cases h1:qaC g with
 | false=>
  rw[h1]at k
  rw[show capped g r=false by unfold capped;split<;>simp[qa6,h1]]
  exact qof ⟨k,rfl,trivial⟩
 | true=>
 rw[h1]at k
 cases h2:qaw r with
 | false=>
  rw[h2]at kr
  rw[show capped g r=false by unfold capped;split<;>simp[qa6,h2]]
  exact qog ⟨k,rfl,kr,rfl,trivial⟩
 | true=>
 rw[h2]at kr
 cases h3:qas g r.op with
 | none=>
  rw[show capped g r=false by unfold capped;rw[h3]]
  exact qoh ⟨k,rfl,kr,rfl,qel g r.op false (by rw[h3];rfl) hg,rfl,trivial⟩
 | some x=>
  obtain⟨m1,m2,m3⟩:=qoA h3
  have ni:=qel g r.op true (by rw[h3];rfl) hg
  rw[show capped g r=qa6 g r x by unfold capped;rw[h3]]
  cases h4:(x.kind==7) with
  | false=>
   rw[show qa6 g r x=false by simp[qa6,h4]]
   exact qok ⟨k,rfl,kr,rfl,ni,rfl,m1,m2,m3,nt,h4,trivial⟩
  | true=>
  by_cases h5:0<x.outs.length
  ·rw[show qa6 g r x=!(qat r.stamp).2 by simp[qa6,h1,h2,h4,h5]]
   exact qoi ⟨k,rfl,kr,rfl,ni,rfl,m1,m2,m3,nt,h4,dT (by rw[zb];omega),trivial⟩
  ·rw[show qa6 g r x=false by simp[qa6,h5]]
   exact qoj ⟨k,rfl,kr,rfl,ni,rfl,m1,m2,m3,nt,h4,dF (by rw[zb];omega),trivial⟩
end Go.Proofs.Ytenekpkjlgddnaa
