import Derived.Test.YtdchjefneblpgaaGreatC0
import Derived.Test.YtdchjefneblpgaaGreatS1
set_option linter.unusedVariables false
set_option linter.unusedSimpArgs false
namespace Go.Proofs.YtdchjefneblpgaaGreat
open Go.Sx Go.RowKit Go.Proofs.Tryz
def gH(e:Int)(xs:List aB):List aB:=xs.filter fun r=>r.bq.bh==e
theorem LU(xs:List aB)(e:Int)(ag:xs.length<=8388608):aw 116 [.one (.J 5 (xs.map aB.e)),.one (I e)] [.one (.J 5 ((gH e xs).map aB.e))]:=by
 let p:=fun r:aB=>r.bq.bh==e
 have l:=e6 (P:=prog) (c:=(aq f116 0)) (cC 0) xs.length (fun i:Nat=>wA (xs.map aB.e) e i (((xs.take i).filter p).map aB.e)) (fun i hi=>by
  obtain⟨a,ae⟩:=db hi;have bw:=LS p xs i;have ai:=Bz p ae;by_cases hp:p a=true
  ·rw[bi hp]at ai;rw[ai,gW];exact auD ⟨bV hi,bk,bm hi,bl aB.e ae,hp,bk,bm hi,bl aB.e ae,by simp;omega,by simp;omega,dU a.flat,c3 hi ag,ad⟩
  rw[ba hp,lL]at ai;rw[ai];exact auE ⟨bV hi,bk,bm hi,bl aB.e ae,lj.2 hp,c3 hi ag,ad⟩) (auF ⟨dk,ad⟩)
 rw[lh]at l;exact auG ⟨l,ad⟩
theorem Sr(xs:List aB)(e:Int)(ag:xs.length<=8388608):aw 182 [.one (.J 5 (xs.map aB.e)),.one (I e)] [.one (.J 5 ((gH e xs).map aB.e))]:=by
 let p:=fun r:aB=>r.bq.bh==e
 have l:=e6 (P:=prog) (c:=(aq f182 0)) (cC 0) xs.length (fun i:Nat=>wB (xs.map aB.e) e i (((xs.take i).filter p).map aB.e)) (fun i hi=>by
  obtain⟨a,ae⟩:=db hi;have bw:=LS p xs i;have ai:=Bz p ae;by_cases hp:p a=true
  ·rw[bi hp]at ai;rw[ai,gW];exact auH ⟨bV hi,bk,bm hi,bl aB.e ae,hp,by simp;omega,by simp;omega,dU a.flat,c3 hi ag,ad⟩
  rw[ba hp,lL]at ai;rw[ai];exact auI ⟨bV hi,bk,bm hi,bl aB.e ae,lj.2 hp,c3 hi ag,ad⟩) (auJ ⟨dk,ad⟩)
 rw[lh]at l;exact auK ⟨l,ad⟩
end Go.Proofs.YtdchjefneblpgaaGreat
namespace Go.Proofs.YtdchjefneblpgaaGreat
open Go.Sx Go.RowKit Go.Shelf Go.Lib Go.Sort Go.Proofs.Tryz
instance:Inhabited aB:=⟨(by constructor<;>first | exact (0:Int) | exact⟨0,0⟩)⟩
instance:Inhabited hG:=⟨(by constructor<;>first | exact (0:Int) | exact⟨0,0⟩)⟩
end Go.Proofs.YtdchjefneblpgaaGreat
namespace Go.Proofs.YtdchjefneblpgaaGreat
open Go.Sx Go.RowKit Go.Sort Go.Proofs.Tryz
theorem au4(xs:List aB)(ag:xs.length<=8388608):aw 233 [.one (.J 5 (xs.map aB.e))] [.one (.J 5 (xs.map aB.e))]:=
 atc ⟨by simp;omega,by simp;omega,cM _ aB.flat _,ad⟩
theorem LV{α β:Type}(f:α->List β)(sz:α->Nat)(h:∀a,(f a).length<=sz a):∀xs:List α,(xs.flatMap f).length<=(xs.map sz).sum
 | []=>by simp
 | a::xs=>by
  have:=LV f sz h xs;have:=h a;simp only[List.flatMap_cons,jy,jW,nf];omega
theorem au5{α β:Type}(f:α->List β)(xs:List α)(i:Nat):((xs.take i).flatMap f).length<=(xs.flatMap f).length:=by
 have:xs.flatMap f=(xs.take i).flatMap f++(xs.drop i).flatMap f:=by rw[<-List.flatMap_append,O4]
 rw[this,jy];omega
theorem Ss{α β:Type}(f:α->List β){xs:List α}{i:Nat}{a:α}(h:xs[i]?=some a):(xs.take (i+1)).flatMap f=(xs.take i).flatMap f++f a:=by
 simp[r',h]
theorem a8.zF{c:a8}(h:c.sz<=8388608):c.ap.length<=8388608:=by simp only[a8.sz,eZ]at h;omega
theorem a8.Jr{c:a8}(h:c.sz<=8388608):c.bR.length<=8388608:=by simp only[a8.sz,eZ]at h;omega
end Go.Proofs.YtdchjefneblpgaaGreat
namespace Go.Proofs.YtdchjefneblpgaaGreat
open Go.Sx Go.RowKit Go.Proofs.Tryz
def eV(w:aQ)(e:Int):Bool:=w.b'.any fun d=>d.bh==e
theorem aQ.Z1{w:aQ}(h:w.sz<=8388608):w.b'.length<=8388608:=by simp only[aQ.sz]at h;omega
theorem a8.zG{c:a8}(h:c.sz<=8388608){w:aQ}(ag:w∈c.ap):w.sz<=8388608:=by
 have:=ED (sz:=aQ.sz) ag;simp only[a8.sz,eZ]at h;omega
theorem au6(w:aQ)(e:Int)(hw:w.sz<=8388608):aw 213 [.agg w.e,.one (I e)] [.one (B (eV w e))]:=by
 have ag:=aQ.Z1 hw;have l:=hM (P:=prog) (c:=(aq f213 0)) w.b' (fun d=>d.bh==e) (fun i=>wC (w.queue.map aB.e) (w.b3.map aB.e) (w.bK.map aB.e) (w.cells.map Cell.e) (w.bG.map bb) (w.bN.map cy) (w.bB.map cy) (w.b'.map cx.e) e i) (X:=fun _ _=>LO true) dZ (cC 0)
  (fun i a ae h=>auM ⟨bV (aP ae),bk,bm (aP ae),bl cx.e ae,h,c3 (aP ae) ag,ad⟩)
  (fun i a ae h=>auL ⟨bV (aP ae),bk,bm (aP ae),bl cx.e ae,h,ad⟩)
  (auN ⟨dk,ad⟩)
 unfold eV;rcases l with⟨_,_,h1,U⟩ | ⟨i,a,_,_,_,_,h1,U⟩
 ·rw[h1];exact atY ⟨U,ad⟩
 rw[h1];exact auO ⟨U,ad⟩
theorem au7(xs:List cx)(e:Int)(ag:xs.length<=8388608):aw 281 [.one (.J 2 (xs.map cx.e)),.one (I e)] [.one (B (xs.any fun d=>d.bh==e))]:=
 atZ ⟨au3 xs (fun d=>d.bh==e) _ _ ag (by kernel_rfl) (fun x _=>at0 trivial),ad⟩
def qx(c:a8)(e:Int):List aB:=c.ap.flatMap fun w=>gH e w.bK
theorem LW(e:Int)(xs:List aB):(gH e xs).length<=xs.length:=r9 ..
theorem St{c:a8}(h:c.sz<=8388608)(e:Int)(i:Nat):((c.ap.take i).flatMap fun w=>gH e w.bK).length<=8388608:=by
 have h1:=au5 (fun w:aQ=>gH e w.bK) c.ap i;have U:=LV (fun w:aQ=>gH e w.bK) aQ.sz (fun w=>by have:=LW e w.bK;simp only[aQ.sz];omega) c.ap;simp only[a8.sz,eZ]at h;omega
theorem au8(c:a8)(e:Int)(ak:c.sz<=8388608):aw 59 [.agg c.e,.one (I e)] [.one (.J 5 ((qx c e).map aB.e))]:=by
 have l:=e6 (P:=prog) (c:=(aq f59 0)) (cC 0) c.ap.length (fun i:Nat=>A8 (c.aC.nodes.map Node.e) c.aC.ap c.aC.cap (c.ap.map aQ.e) (c.bR.map bD.e) (c.tokens.map bT.e) (c.news.map cb.e) e i (((c.ap.take i).flatMap fun w=>gH e w.bK).map aB.e)) (fun i hi=>by
  obtain⟨w,hw⟩:=db hi;have h1:=Ss (fun w:aQ=>gH e w.bK) hw;have U:=St ak e (i+1);have ax:=a8.zG ak (cS hw);rw[h1,jy]at U;rw[h1,gW];exact at1 ⟨bV hi,bk,bm hi,bl aQ.e hw,LU w.bK e (by simp only[aQ.sz]at ax;omega),by simp only[bA];omega,by simp only[bA];omega,cM _ aB.flat _,c3 hi (a8.zF ak),ad⟩) (at2 ⟨dk,ad⟩)
 rw[lh]at l;exact at3 ⟨l,ad⟩
theorem Su(c:a8)(e:Int)(ak:c.sz<=8388608):aw 58 [.agg c.e,.one (I e)] [.one (.J 5 ((qx c e).map aB.e))]:=by
 have l:=e6 (P:=prog) (c:=(aq f58 0)) (cC 0) c.ap.length (fun i:Nat=>A9 (c.ap.map aQ.e) e i (((c.ap.take i).flatMap fun w=>gH e w.bK).map aB.e)) (fun i hi=>by
  obtain⟨w,hw⟩:=db hi;have h1:=Ss (fun w:aQ=>gH e w.bK) hw;have U:=St ak e (i+1);have ax:=a8.zG ak (cS hw);rw[h1,jy]at U;rw[h1,gW];exact at4 ⟨bV hi,bk,bm hi,bl aQ.e hw,Sr w.bK e (by simp only[aQ.sz]at ax;omega),by simp only[bA];omega,by simp only[bA];omega,cM _ aB.flat _,c3 hi (a8.zF ak),ad⟩) (at5 ⟨dk,ad⟩)
 rw[lh]at l;exact at6 ⟨l,ad⟩
def mT(c:a8)(e:Int):Bool:=c.ap.any fun w=>eV w e
def mm(c:a8)(e:Int):Bool:=c.news.any fun x=>x.bh==e
theorem LX(w:aQ)(e:Int)(r:Bool)(h:eV w e=r)(hw:w.sz<=8388608):aw 213 [.agg w.e,.one (I e)] [.one (B r)]:=h▸au6 w e hw
theorem QN{α:Type}{f:α->List D}(xs:List α)(b:Bool)(h:decide (xs.length=0)=b):((↑(xs.map f).length:Int)==0)=b:=by
 subst h;by_cases h:xs.length=0
 ·simp[h]
 rw[show decide (xs.length=0)=false from bY h];simp only[bA,xM,hc];omega
