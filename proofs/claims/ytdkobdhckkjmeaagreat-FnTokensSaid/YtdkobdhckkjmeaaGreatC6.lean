import Derived.Test.YtdkobdhckkjmeaaGreatC0
import Derived.Test.YtdkobdhckkjmeaaGreatR22
import Derived.Test.YtdkobdhckkjmeaaGreatT1
import Derived.Test.YtdkobdhckkjmeaaGreatS1
set_option linter.unusedVariables false
set_option linter.unusedSimpArgs false
namespace Go.Proofs.YtdkobdhckkjmeaaGreat
open Go.Sx Go.RowKit Go.Proofs.Tryz
def qa6(e:Int)(xs:List Record):List Record:=xs.filter fun r=>r.stamp.epoch==e
theorem qrb(xs:List Record)(e:Int)(hl:xs.length≤8388608):Rt 185 [.one (.sl 5 (xs.map Record.e)),.one (I e)] [.one (.sl 5 ((qa6 e xs).map Record.e))]:=by
 let p:=fun r:Record=>r.stamp.epoch==e
 have l:=qao (P:=prog) (c:=(qaa f185 0)) (qaf 0) xs.length (fun i:Nat=>qe3 (xs.map Record.e) e i (((xs.take i).filter p).map Record.e)) (fun i hi=>by
  obtain⟨a,ha⟩:=qal hi;have hf:=qju p xs i;have hs:=qeY p ha;by_cases hp:p a=true
  ·rw[zp hp]at hs;rw[hs,zU];exact qxp ⟨lt1 hi,lt0,lt2 hi,qac Record.e ha,hp,lt0,lt2 hi,qac Record.e ha,by simp;omega,by simp;omega,qat a.flat,up1 hi hl,trivial⟩
  ·rw[zo hp,zaa]at hs;rw[hs];exact qxq ⟨lt1 hi,lt0,lt2 hi,qac Record.e ha,zQ.2 hp,up1 hi hl,trivial⟩) (qxr ⟨ge1,trivial⟩)
 rw[zC]at l;exact qxs ⟨l,trivial⟩
theorem qgn(xs:List Record)(e:Int)(hl:xs.length≤8388608):Rt 147 [.one (.sl 5 (xs.map Record.e)),.one (I e)] [.one (.sl 5 ((qa6 e xs).map Record.e))]:=by
 let p:=fun r:Record=>r.stamp.epoch==e
 have l:=qao (P:=prog) (c:=(qaa f147 0)) (qaf 0) xs.length (fun i:Nat=>qe4 (xs.map Record.e) e i (((xs.take i).filter p).map Record.e)) (fun i hi=>by
  obtain⟨a,ha⟩:=qal hi;have hf:=qju p xs i;have hs:=qeY p ha;by_cases hp:p a=true
  ·rw[zp hp]at hs;rw[hs,zU];exact qxt ⟨lt1 hi,lt0,lt2 hi,qac Record.e ha,hp,by simp;omega,by simp;omega,qat a.flat,up1 hi hl,trivial⟩
  ·rw[zo hp,zaa]at hs;rw[hs];exact qxu ⟨lt1 hi,lt0,lt2 hi,qac Record.e ha,zQ.2 hp,up1 hi hl,trivial⟩) (qxv ⟨ge1,trivial⟩)
 rw[zC]at l;exact qxw ⟨l,trivial⟩
end Go.Proofs.YtdkobdhckkjmeaaGreat
namespace Go.Proofs.YtdkobdhckkjmeaaGreat
open Go.Sx Go.RowKit Go.Shelf Go.Lib Go.Sort Go.Proofs.Tryz
instance:Inhabited Record:=⟨(by constructor<;>first | exact (0:Int) | exact⟨0,0⟩)⟩
end Go.Proofs.YtdkobdhckkjmeaaGreat
namespace Go.Proofs.YtdkobdhckkjmeaaGreat
open Go.Sx Go.RowKit Go.Sort Go.Proofs.Tryz
theorem qgo(xs:List Record)(hl:xs.length≤8388608):Rt 239 [.one (.sl 5 (xs.map Record.e))] [.one (.sl 5 (xs.map Record.e))]:=
 qww ⟨by simp;omega,by simp;omega,qae _ Record.flat _,trivial⟩
theorem Cluster.wlen_le{c:Cluster}(h:c.sz≤8388608):c.workers.length≤8388608:=by simp only[Cluster.sz,szS]at h;omega
theorem Cluster.llen_le{c:Cluster}(h:c.sz≤8388608):c.links.length≤8388608:=by simp only[Cluster.sz,szS]at h;omega
end Go.Proofs.YtdkobdhckkjmeaaGreat
namespace Go.Proofs.YtdkobdhckkjmeaaGreat
open Go.Sx Go.RowKit Go.Proofs.Tryz
def qaz(w:Worker)(e:Int):Bool:=w.dones.any fun d=>d.epoch==e
theorem Worker.dones_le{w:Worker}(h:w.sz≤8388608):w.dones.length≤8388608:=by simp only[Worker.sz]at h;omega
theorem Cluster.worker_sz{c:Cluster}(h:c.sz≤8388608){w:Worker}(hl:w∈c.workers):w.sz≤8388608:=by
 have:=qjh (sz:=Worker.sz) hl;simp only[Cluster.sz,szS]at h;omega
theorem qEf(w:Worker)(e:Int)(hw:w.sz≤8388608):Rt 166 [.agg w.e,.one (I e)] [.one (B (qaz w e))]:=by
 have hl:=Worker.dones_le hw;have l:=qaW (P:=prog) (c:=(qaa f166 0)) w.dones (fun d=>d.epoch==e) (fun i=>qe5 (w.queue.map Record.e) (w.staged.map Record.e) (w.inputs.map Record.e) (w.cells.map Cell.e) (w.sums.map eI) (w.black.map eB) (w.caps.map eB) (w.dones.map Done.e) e i) (X:=fun _ _=>qmd true) qaE (qaf 0)
  (fun i a ha h=>qxz ⟨lt1 (lt_of ha),lt0,lt2 (lt_of ha),qac Done.e ha,h,up1 (lt_of ha) hl,trivial⟩)
  (fun i a ha h=>qxy ⟨lt1 (lt_of ha),lt0,lt2 (lt_of ha),qac Done.e ha,h,trivial⟩)
  (qxA ⟨ge1,trivial⟩)
 unfold qaz;rcases l with⟨_,_,h1,h2⟩ | ⟨i,a,_,_,_,_,h1,h2⟩
 ·rw[h1];exact qxC ⟨h2,trivial⟩
 ·rw[h1];exact qxB ⟨h2,trivial⟩
theorem qrh(xs:List Done)(e:Int)(hl:xs.length≤8388608):Rt 271 [.one (.sl 2 (xs.map Done.e)),.one (I e)] [.one (B (xs.any fun d=>d.epoch==e))]:=
 qxD ⟨qEc xs (fun d=>d.epoch==e) _ _ hl (by kernel_rfl) (fun x _=>qxE trivial),trivial⟩
theorem qri(w:Worker)(e:Int)(hw:w.sz≤8388608):Rt 163 [.agg w.e,.one (I e)] [.one (B (qaz w e))]:=
 qxF ⟨qrh w.dones e (Worker.dones_le hw),trivial⟩
def toldW(c:Cluster)(e:Int):Bool:=c.workers.any fun w=>qaz w e
def toldN(c:Cluster)(e:Int):Bool:=c.news.any fun x=>x.epoch==e
theorem qmJ(w:Worker)(e:Int)(r:Bool)(h:qaz w e=r)(hw:w.sz≤8388608):Rt 166 [.agg w.e,.one (I e)] [.one (B r)]:=h▸qEf w e hw
theorem len0{α:Type}{f:α→List D}(xs:List α)(b:Bool)(h:decide (xs.length=0)=b):((↑(xs.map f).length:Int)==0)=b:=by
 subst h;by_cases h:xs.length=0
 ·simp[h]
 ·rw[show decide (xs.length=0)=false from dF h];simp only[zb,zbq,zcc];omega
