import Derived.Test.YtdchjefneblpgaaGreatC0
import Derived.Test.YtdchjefneblpgaaGreatS1
set_option linter.unusedVariables false
set_option linter.unusedSimpArgs false
namespace Go.Proofs.YtdchjefneblpgaaGreat
open Go.Sx Go.RowKit Go.Proofs.Tryz
def pC(e:Int)(xs:List aB):List aB:=xs.filter fun r=>r.bp.bc==e
theorem QH(xs:List aB)(e:Int)(ap:xs.length<=8388608):ar 116 [.one (.J 5 (xs.map aB.e)),.one (I e)] [.one (.J 5 ((pC e xs).map aB.e))]:=by
 let p:=fun r:aB=>r.bp.bc==e
 have l:=eN (P:=prog) (c:=(ao f116 0)) (cH 0) xs.length (fun i:Nat=>vk (xs.map aB.e) e i (((xs.take i).filter p).map aB.e)) (fun i hi=>by
  obtain⟨a,ah⟩:=cS hi;have b0:=JY p xs i;have ai:=yX p ah;by_cases hp:p a=true
  ·rw[bM hp]at ai;rw[ai,hy];exact amT ⟨b6 hi,bw,bE hi,bA aB.e ah,hp,bw,bE hi,bA aB.e ah,by simp;omega,by simp;omega,fV a.flat,dc hi ap,aa⟩
  rw[bG hp,k']at ai;rw[ai];exact amU ⟨b6 hi,bw,bE hi,bA aB.e ah,Vk.2 hp,dc hi ap,aa⟩) (amV ⟨dz,aa⟩)
 rw[k8]at l;exact amW ⟨l,aa⟩
end Go.Proofs.YtdchjefneblpgaaGreat
namespace Go.Proofs.YtdchjefneblpgaaGreat
open Go.Sx Go.RowKit Go.Shelf Go.Lib Go.Sort Go.Proofs.Tryz
instance:Inhabited aB:=⟨(by constructor<;>first | exact (0:Int) | exact⟨0,0⟩)⟩
instance:Inhabited gd:=⟨(by constructor<;>first | exact (0:Int) | exact⟨0,0⟩)⟩
end Go.Proofs.YtdchjefneblpgaaGreat
namespace Go.Proofs.YtdchjefneblpgaaGreat
open Go.Sx Go.RowKit Go.Sort Go.Proofs.Tryz
theorem C0(xs:List aB)(ap:xs.length<=8388608):ar 233 [.one (.J 5 (xs.map aB.e))] [.one (.J 5 (xs.map aB.e))]:=
 alw ⟨by simp;omega,by simp;omega,dA _ aB.flat _,aa⟩
theorem bb.Aj{c:bb}(h:c.sz<=8388608):c.ay.length<=8388608:=by simp only[bb.sz,eZ]at h;omega
theorem bb.B5{c:bb}(h:c.sz<=8388608):c.bW.length<=8388608:=by simp only[bb.sz,eZ]at h;omega
end Go.Proofs.YtdchjefneblpgaaGreat
namespace Go.Proofs.YtdchjefneblpgaaGreat
open Go.Sx Go.RowKit Go.Proofs.Tryz
def iQ(w:aR)(e:Int):Bool:=w.bZ.any fun d=>d.bc==e
theorem aR.VL{w:aR}(h:w.sz<=8388608):w.bZ.length<=8388608:=by simp only[aR.sz]at h;omega
theorem bb.D0{c:bb}(h:c.sz<=8388608){w:aR}(ap:w∈c.ay):w.sz<=8388608:=by
 have:=CF (sz:=aR.sz) ap;simp only[bb.sz,eZ]at h;omega
theorem YY(w:aR)(e:Int)(hw:w.sz<=8388608):ar 213 [.agg w.e,.one (I e)] [.one (B (iQ w e))]:=by
 have ap:=aR.VL hw;have l:=gy (P:=prog) (c:=(ao f213 0)) w.bZ (fun d=>d.bc==e) (fun i=>vl (w.queue.map aB.e) (w.cg.map aB.e) (w.b3.map aB.e) (w.cells.map Cell.e) (w.bF.map a6) (w.bO.map cq) (w.br.map cq) (w.bZ.map cw.e) e i) (X:=fun _ _=>JR true) e7 (cH 0)
  (fun i a ah h=>amY ⟨b6 (a1 ah),bw,bE (a1 ah),bA cw.e ah,h,dc (a1 ah) ap,aa⟩)
  (fun i a ah h=>amX ⟨b6 (a1 ah),bw,bE (a1 ah),bA cw.e ah,h,aa⟩)
  (al9 ⟨dz,aa⟩)
 unfold iQ;rcases l with⟨_,_,h1,U⟩ | ⟨i,a,_,_,_,_,h1,U⟩
 ·rw[h1];exact amb ⟨U,aa⟩
 rw[h1];exact ama ⟨U,aa⟩
theorem YZ(xs:List cw)(e:Int)(ap:xs.length<=8388608):ar 281 [.one (.J 2 (xs.map cw.e)),.one (I e)] [.one (B (xs.any fun d=>d.bc==e))]:=
 amc ⟨aoF xs (fun d=>d.bc==e) _ _ ap (by kernel_rfl) (fun x _=>amd trivial),aa⟩
def xk(c:bb)(e:Int):Bool:=c.ay.any fun w=>iQ w e
def qH(c:bb)(e:Int):Bool:=c.news.any fun x=>x.bc==e
theorem Kb(w:aR)(e:Int)(r:Bool)(h:iQ w e=r)(hw:w.sz<=8388608):ar 213 [.agg w.e,.one (I e)] [.one (B r)]:=h▸YY w e hw
theorem NM{α:Type}{f:α->List D}(xs:List α)(b:Bool)(h:decide (xs.length=0)=b):((↑(xs.map f).length:Int)==0)=b:=by
 subst h;by_cases h:xs.length=0
 ·simp[h]
 rw[show decide (xs.length=0)=false from eL h];simp only[cm,xr,mr];omega
