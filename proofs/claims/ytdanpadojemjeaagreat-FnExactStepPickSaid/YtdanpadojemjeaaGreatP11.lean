/- Orders of stamps and records, SortRecords, PendingAll, PendingOf: what program and reference compute. -/
import Derived.Test.YtdanpadojemjeaaGreatC0
import Derived.Test.YtdanpadojemjeaaGreatGU
set_option linter.unusedVariables false
set_option linter.unusedSimpArgs false
namespace Go.Proofs.YtdanpadojemjeaaGreat
open Go.Sx Go.RowKit Go.Sort Go.Proofs.Tryz
theorem qhZ(xs:List Record)(hl:xs.length≤8388608):Rt 195 [.one (.sl 5 (xs.map Record.e))] [.one (.sl 5 (xs.map Record.e))]:=
 qwh ⟨by simp;omega,by simp;omega,qae _ Record.flat _,trivial⟩
theorem Cluster.wlen_le{c:Cluster}(h:c.sz≤8388608):c.workers.length≤8388608:=by simp only[Cluster.sz,szS]at h;omega
theorem Cluster.llen_le{c:Cluster}(h:c.sz≤8388608):c.links.length≤8388608:=by simp only[Cluster.sz,szS]at h;omega
end Go.Proofs.YtdanpadojemjeaaGreat
namespace Go.Proofs.YtdanpadojemjeaaGreat
open Go.Sx Go.RowKit Go.Proofs.Tryz
def qbQ(w:Worker)(e:Int):Bool:=w.dones.any fun d=>d.epoch==e
theorem Worker.dones_le{w:Worker}(h:w.sz≤8388608):w.dones.length≤8388608:=by simp only[Worker.sz]at h;omega
theorem Cluster.worker_sz{c:Cluster}(h:c.sz≤8388608){w:Worker}(hl:w∈c.workers):w.sz≤8388608:=by
 have:=qc1 (sz:=Worker.sz) hl
 simp only[Cluster.sz,szS]at h;omega
theorem qyC(w:Worker)(e:Int)(hw:w.sz≤8388608):Rt 114 [.agg w.e,.one (I e)] [.one (B (qbQ w e))]:=by
 have hl:=Worker.dones_le hw
 have l:=qaT (P:=prog) (c:=(qaa f114 0)) w.dones (fun d=>d.epoch==e) (fun i=>qeD (w.queue.map Record.e) (w.staged.map Record.e) (w.inputs.map Record.e) (w.cells.map Cell.e) (w.sums.map eI) (w.black.map eB) (w.caps.map eB) (w.dones.map Done.e) e i) (X:=fun _ _=>qj4 true) qav (qaf 0)
  (fun i a ha h=>qwI ⟨lt1 (lt_of ha),lt0,lt2 (lt_of ha),qac Done.e ha,h,up1 (lt_of ha) hl,trivial⟩)
  (fun i a ha h=>qwH ⟨lt1 (lt_of ha),lt0,lt2 (lt_of ha),qac Done.e ha,h,trivial⟩)
  (qwJ ⟨ge1,trivial⟩)
 unfold qbQ
 rcases l with⟨_,_,h1,h2⟩ | ⟨i,a,_,_,_,_,h1,h2⟩
 ·rw[h1];exact qwL ⟨h2,trivial⟩
 ·rw[h1];exact qwK ⟨h2,trivial⟩
theorem qof(xs:List Done)(e:Int)(hl:xs.length≤8388608):Rt 126 [.one (.sl 2 (xs.map Done.e)),.one (I e)] [.one (B (xs.any fun d=>d.epoch==e))]:=
 qwM ⟨qyz xs (fun d=>d.epoch==e) _ _ hl (by kernel_rfl) (fun x _=>qwN trivial),trivial⟩
theorem qyD(w:Worker)(e:Int)(hw:w.sz≤8388608):Rt 66 [.agg w.e,.one (I e)] [.one (B (qbQ w e))]:=
 qwO ⟨qof w.dones e (Worker.dones_le hw),trivial⟩
theorem qke(w:Worker)(e:Int)(r:Bool)(h:qbQ w e=r)(hw:w.sz≤8388608):Rt 114 [.agg w.e,.one (I e)] [.one (B r)]:=h▸qyC w e hw
theorem len0{α:Type}{f:α→List D}(xs:List α)(b:Bool)(h:decide (xs.length=0)=b):((↑(xs.map f).length:Int)==0)=b:=by
 subst h
 by_cases h:xs.length=0
 ·simp[h]
 ·rw[show decide (xs.length=0)=false from dF h]
  simp only[zb,zbp,zcb]
  omega
end Go.Proofs.YtdanpadojemjeaaGreat
namespace Go.Proofs.YtdanpadojemjeaaGreat
open Go.Sx Go.RowKit Go.Proofs.Tryz
theorem Cluster.link_wf{c:Cluster}(h:c.wf){l:Link}(hl:l∈c.links):l.wf:=h.links_ok.2 l hl
theorem Cluster.link_sz{c:Cluster}(h:c.sz≤8388608){l:Link}(hl:l∈c.links):l.sz≤8388608:=by
 have:=qck (sz:=Link.sz) (xs:=c.links) (m:=8388608) (by simp only[Cluster.sz]at h;omega) hl
 exact this
def qcO(key workers:Int):Int:=if workers<1 then 0 else if key.tmod workers<0 then key.tmod workers+workers else key.tmod workers
theorem qkf(a b:Int)(h:0<b):- b<a.tmod b:=by
 rcases Int.le_total 0 a with ha | ha
 ·have:=Int.tmod_nonneg b ha;omega
 ·have h1:(-a).tmod b<b:=Int.tmod_lt_of_pos _ h
  rw[Int.neg_tmod]at h1
  omega
theorem qyE(key workers:Int)(hw:workers≤9223372036854775807):Rt 212 [.one (I key),.one (I workers)] [.one (I (qcO key workers))]:=by
 unfold qcO
 split
 ·exact qAn ⟨by simpa using ‹workers<1›,trivial⟩
 ·rename_i h
  have h1:=qkf key workers (by omega)
  have h2:key.tmod workers<workers:=Int.tmod_lt_of_pos _ (by omega)
  split
  ·rename_i h3
   exact qAo ⟨by simp only[zf];omega,by omega,by simpa using h3,⟨by omega,by omega⟩,trivial⟩
  ·rename_i h3
   exact qAp ⟨by simp only[zf];omega,by omega,by simpa using h3,trivial⟩
theorem qyF(key workers:Int)(hw:workers≤9223372036854775807):Rt 153 [.one (I key),.one (I workers)] [.one (I (qcO key workers))]:=by
 unfold qcO
 split
 ·exact qAq ⟨by simpa using ‹workers<1›,trivial⟩
 ·rename_i h
  have h1:=qkf key workers (by omega)
  have h2:key.tmod workers<workers:=Int.tmod_lt_of_pos _ (by omega)
  split
  ·rename_i h3
   exact qAr ⟨by simp only[zf];omega,by omega,by simpa using h3,⟨by omega,by omega⟩,trivial⟩
  ·rename_i h3
   exact qAs ⟨by simp only[zf];omega,by omega,by simpa using h3,trivial⟩
theorem Worker.queue_le{w:Worker}(h:w.sz≤8388608):w.queue.length≤8388608:=by simp only[Worker.sz]at h;omega
theorem Worker.inputs_le{w:Worker}(h:w.sz≤8388608):w.inputs.length≤8388608:=by simp only[Worker.sz]at h;omega
end Go.Proofs.YtdanpadojemjeaaGreat
