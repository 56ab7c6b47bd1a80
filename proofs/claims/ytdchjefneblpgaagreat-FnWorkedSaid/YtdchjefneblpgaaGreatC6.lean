import Derived.Test.YtdchjefneblpgaaGreatC0
import Derived.Test.YtdchjefneblpgaaGreatS1
set_option linter.unusedVariables false
set_option linter.unusedSimpArgs false
namespace Go.Proofs.YtdchjefneblpgaaGreat
open Go.Sx Go.RowKit Go.Proofs.Tryz
def pV(e:Int)(xs:List aG):List aG:=xs.filter fun r=>r.bw.bc==e
theorem Rc(xs:List aG)(e:Int)(al:xs.length<=8388608):av 116 [.one (.J 5 (xs.map aG.e)),.one (I e)] [.one (.J 5 ((pV e xs).map aG.e))]:=by
 let p:=fun r:aG=>r.bw.bc==e
 have l:=eY (P:=prog) (c:=(aq f116 0)) (cM 0) xs.length (fun i:Nat=>vL (xs.map aG.e) e i (((xs.take i).filter p).map aG.e)) (fun i hi=>by
  obtain⟨a,ah⟩:=c0 hi;have bT:=Kn p xs i;have aj:=zp p ah;by_cases hp:p a=true
  ·rw[br hp]at aj;rw[aj,hx];exact anB ⟨b' hi,bF,bI hi,bG aG.e ah,hp,bF,bI hi,bG aG.e ah,by simp;omega,by simp;omega,dL a.flat,df hi al,aa⟩
  rw[bh hp,lz]at aj;rw[aj];exact amJ ⟨b' hi,bF,bI hi,bG aG.e ah,oQ.2 hp,df hi al,aa⟩) (amK ⟨dG,aa⟩)
 rw[k3]at l;exact amL ⟨l,aa⟩
end Go.Proofs.YtdchjefneblpgaaGreat
namespace Go.Proofs.YtdchjefneblpgaaGreat
open Go.Sx Go.RowKit Go.Shelf Go.Lib Go.Sort Go.Proofs.Tryz
instance:Inhabited aG:=⟨(by constructor<;>first | exact (0:Int) | exact⟨0,0⟩)⟩
instance:Inhabited gB:=⟨(by constructor<;>first | exact (0:Int) | exact⟨0,0⟩)⟩
end Go.Proofs.YtdchjefneblpgaaGreat
namespace Go.Proofs.YtdchjefneblpgaaGreat
open Go.Sx Go.RowKit Go.Sort Go.Proofs.Tryz
theorem CR(xs:List aG)(al:xs.length<=8388608):av 233 [.one (.J 5 (xs.map aG.e))] [.one (.J 5 (xs.map aG.e))]:=
 alB ⟨by simp;omega,by simp;omega,cf _ aG.flat _,aa⟩
theorem bd.AP{c:bd}(h:c.sz<=8388608):c.az.length<=8388608:=by simp only[bd.sz,fb]at h;omega
theorem bd.Cw{c:bd}(h:c.sz<=8388608):c.bZ.length<=8388608:=by simp only[bd.sz,fb]at h;omega
end Go.Proofs.YtdchjefneblpgaaGreat
namespace Go.Proofs.YtdchjefneblpgaaGreat
open Go.Sx Go.RowKit Go.Proofs.Tryz
def jl(w:aS)(e:Int):Bool:=w.b4.any fun d=>d.bc==e
theorem aS.Wd{w:aS}(h:w.sz<=8388608):w.b4.length<=8388608:=by simp only[aS.sz]at h;omega
theorem bd.Et{c:bd}(h:c.sz<=8388608){w:aS}(al:w∈c.az):w.sz<=8388608:=by
 have:=C6 (sz:=aS.sz) al;simp only[bd.sz,fb]at h;omega
theorem ZG(w:aS)(e:Int)(hw:w.sz<=8388608):av 213 [.agg w.e,.one (I e)] [.one (B (jl w e))]:=by
 have al:=aS.Wd hw;have l:=gN (P:=prog) (c:=(aq f213 0)) w.b4 (fun d=>d.bc==e) (fun i=>vM (w.queue.map aG.e) (w.cm.map aG.e) (w.b8.map aG.e) (w.cells.map Cell.e) (w.bK.map a') (w.bS.map cv) (w.bC.map cv) (w.b4.map cD.e) e i) (X:=fun _ _=>Kg true) fg (cM 0)
  (fun i a ah h=>amN ⟨b' (a8 ah),bF,bI (a8 ah),bG cD.e ah,h,df (a8 ah) al,aa⟩)
  (fun i a ah h=>amM ⟨b' (a8 ah),bF,bI (a8 ah),bG cD.e ah,h,aa⟩)
  (amO ⟨dG,aa⟩)
 unfold jl;rcases l with⟨_,_,h1,U⟩ | ⟨i,a,_,_,_,_,h1,U⟩
 ·rw[h1];exact amQ ⟨U,aa⟩
 rw[h1];exact amP ⟨U,aa⟩
theorem ZH(xs:List cD)(e:Int)(al:xs.length<=8388608):av 281 [.one (.J 2 (xs.map cD.e)),.one (I e)] [.one (B (xs.any fun d=>d.bc==e))]:=
 amR ⟨apk xs (fun d=>d.bc==e) _ _ al (by kernel_rfl) (fun x _=>amS trivial),aa⟩
def xN(c:bd)(e:Int):Bool:=c.az.any fun w=>jl w e
def qY(c:bd)(e:Int):Bool:=c.news.any fun x=>x.bc==e
theorem JM(w:aS)(e:Int)(r:Bool)(h:jl w e=r)(hw:w.sz<=8388608):av 213 [.agg w.e,.one (I e)] [.one (B r)]:=h▸ZG w e hw
theorem Oi{α:Type}{f:α->List D}(xs:List α)(b:Bool)(h:decide (xs.length=0)=b):((↑(xs.map f).length:Int)==0)=b:=by
 subst h;by_cases h:xs.length=0
 ·simp[h]
 rw[show decide (xs.length=0)=false from eT h];simp only[bk,ua,hZ];omega
