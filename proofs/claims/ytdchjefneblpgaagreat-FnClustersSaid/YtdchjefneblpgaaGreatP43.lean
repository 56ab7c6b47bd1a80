import Derived.Test.YtdchjefneblpgaaGreatP21
import Derived.Test.YtdchjefneblpgaaGreatGV
import Derived.WalkKit
import Derived.Deep.RegionLaw
import Derived.Shelf.RegionOpenPlain
import Derived.Lib.SliceRun
import Derived.Deep.LoopGhost
import Derived.Lib.Walk
set_option linter.unusedVariables false
set_option linter.unusedSimpArgs false
namespace Go.Proofs.YtdchjefneblpgaaGreat
open Go.Sx Go.RowKit Go.Proofs.Tryz
theorem Dw(xs:List Int):Flat (xs.map bb):=cM bb (fun _ _ aE=>⟨_,List.mem_singleton.1 aE⟩) xs
theorem HD(xs:List Bool):Flat (xs.map cy):=cM cy (fun _ _ aE=>⟨_,List.mem_singleton.1 aE⟩) xs
theorem cx.flat(r:cx):∀d∈r.e,∃x,d=.v x:=by
 intro d aE;simp only[cx.e,ez,n1,or_false]at aE;rcases aE with rfl | rfl<;>exact⟨_,rfl⟩
theorem cb.flat(r:cb):∀d∈r.e,∃x,d=.v x:=by
 intro d aE;simp only[cb.e,ez,n1,or_false]at aE;rcases aE with rfl | rfl | rfl<;>exact⟨_,rfl⟩
theorem bT.flat(r:bT):∀d∈r.e,∃x,d=.v x:=by
 intro d aE;simp only[bT.e,ez,n1,or_false]at aE;rcases aE with rfl | rfl | rfl | rfl | rfl<;>exact⟨_,rfl⟩
theorem FL{α:Type}{f:α->List D}{xs:List α}{i:Nat}{a:α}(h:xs[i]?=some a):(xs.take (i+1)).map f=(xs.take i).map f++[f a]:=by simp[r',h]
theorem nl{l:List (List D)}{k m:Nat}(h:l.length*k<=m):(([]:List (List D)).length+l.length)*k<=m:=by simpa using h
theorem mJ{l:List (List D)}{m:Nat}(h:l.length<=m):([]:List (List D)).length+l.length<=m:=by simpa using h
theorem bS.QS{g:bS}(h:g.sz<=8388608){x:Node}(aa:x∈g.nodes):x.sz<=8388608:=kQ (sz:=Node.sz) (xs:=g.nodes) (m:=8388608) (by simp only[bS.sz]at h;omega) aa
theorem bS.QT{g:bS}(h:g.sz<=8388608):g.nodes.length<=8388608:=by simp only[bS.sz,eZ]at h;omega
variable{c:a8}
theorem a8.XY(h:c.sz<=8388608){w:aQ}(hw:w∈c.ap):w.sz<=8388608:=kQ (sz:=aQ.sz) (xs:=c.ap) (m:=8388608) (by simp only[a8.sz]at h;omega) hw
theorem a8.QO(h:c.sz<=8388608){w:bD}(hw:w∈c.bR):w.sz<=8388608:=kQ (sz:=bD.sz) (xs:=c.bR) (m:=8388608) (by simp only[a8.sz]at h;omega) hw
theorem a8.p0(h:c.sz<=8388608):c.aC.sz<=8388608:=by simp only[a8.sz]at h;omega
theorem ajG(x:Node)(h:x.sz<=8388608):aw 276 [.agg x.e] [.agg x.e]:=by
 simp only[Node.sz]at h;exact ah4 ⟨nl (by simp;omega),mJ (by simp;omega),Dw _,ad⟩
theorem FM(x:bD)(h:x.sz<=8388608):aw 279 [.agg x.e] [.agg x.e]:=by
 simp only[bD.sz]at h;exact ah8 ⟨nl (by simp;omega),mJ (by simp;omega),cM _ aB.flat _,ad⟩
theorem zk(x:aQ)(h:x.sz<=8388608):aw 174 [.agg x.e] [.agg x.e]:=by
 simp only[aQ.sz]at h;exact aic ⟨nl (by simp;omega),mJ (by simp;omega),cM _ aB.flat _,nl (by simp;omega),mJ (by simp;omega),cM _ aB.flat _,nl (by simp;omega),mJ (by simp;omega),cM _ aB.flat _,nl (by simp;omega),mJ (by simp;omega),cM _ Cell.flat _,nl (by simp;omega),mJ (by simp;omega),Dw _,nl (by simp;omega),mJ (by simp;omega),HD _,nl (by simp;omega),mJ (by simp;omega),HD _,nl (by simp;omega),mJ (by simp;omega),cM _ cx.flat _,ad⟩
theorem ajH(g:bS)(av:g.sz<=8388608):aw 181 [.agg g.e] [.agg g.e]:=by
 have aR:=bS.QT av;have l:=e6 (P:=prog) (c:=(aq f181 0)) (cC 0) g.nodes.length (fun i:Nat=>Ca (g.nodes.map Node.e) i ((g.nodes.take i).map Node.e) g.ap g.cap 0 0) (fun i hi=>by
  obtain⟨a,ae⟩:=db hi;rw[FL ae];exact ah5 ⟨bV hi,bk,bm hi,bl Node.e ae,ajG a (bS.QS av (cS ae)),by simp;omega,by simp;omega,c3 hi aR,ad⟩) (ah6 ⟨dk,ad⟩)
 rw[lh]at l;exact ah7 ⟨l,ad⟩
theorem Vj(g:bS)(av:g.sz<=8388608):aw 123 [.agg g.e] [.agg g.e]:=by
 have aR:=bS.QT av;have l:=e6 (P:=prog) (c:=(aq f123 0)) (cC 0) g.nodes.length (fun i:Nat=>Cb i ((g.nodes.take i).map Node.e) g.ap g.cap 0 0 (g.nodes.map Node.e) g.ap g.cap) (fun i hi=>by
  obtain⟨a,ae⟩:=db hi;have ai:=bS.QS av (cS ae);simp only[Node.sz]at ai;rw[FL ae];exact ah9 ⟨bV hi,bk,bm hi,bl Node.e ae,nl (by simp;omega),mJ (by simp;omega),Dw _,by simp;omega,by simp;omega,c3 hi aR,ad⟩) (aia ⟨dk,ad⟩)
 rw[lh]at l;exact aib ⟨l,ad⟩
theorem Vk(c:a8)(ak:c.sz<=8388608):aw 186 [.agg c.e] [.agg c.e]:=by
 have hw:=a8.zF ak;have ag:=a8.Jr ak;have bH:c.tokens.length<=8388608:=by simp only[a8.sz,eZ]at ak;omega
 have aa:c.news.length<=8388608:=by simp only[a8.sz,eZ]at ak;omega
 have gh:=e6 (P:=prog) (c:=(aq f186 0)) (cC 0) c.ap.length (fun i:Nat=>Cc i (c.aC.nodes.map Node.e) c.aC.ap c.aC.cap ((c.ap.take i).map aQ.e) (c.tokens.map bT.e) (c.news.map cb.e) 0 0 (c.aC.nodes.map Node.e) c.aC.ap c.aC.cap (c.ap.map aQ.e) (c.bR.map bD.e) (c.tokens.map bT.e) (c.news.map cb.e)) (fun i hi=>by
  obtain⟨a,ae⟩:=db hi;rw[FL ae];exact aid ⟨bV hi,bk,bm hi,bl aQ.e ae,zk a (a8.XY ak (cS ae)),by simp;omega,by simp;omega,c3 hi hw,ad⟩) (aie ⟨dk,ad⟩)
 have kr:=e6 (P:=prog) (c:=(aq f186 1)) (cC 2) c.bR.length (fun i:Nat=>Cd i (c.aC.nodes.map Node.e) c.aC.ap c.aC.cap (c.ap.map aQ.e) ((c.bR.take i).map bD.e) (c.tokens.map bT.e) (c.news.map cb.e) 0 0 (c.aC.nodes.map Node.e) c.aC.ap c.aC.cap (c.ap.map aQ.e) (c.bR.map bD.e) (c.tokens.map bT.e) (c.news.map cb.e)) (fun i hi=>by
  obtain⟨a,ae⟩:=db hi;rw[FL ae];exact aif ⟨bV hi,bk,bm hi,bl bD.e ae,FM a (a8.QO ak (cS ae)),by simp;omega,by simp;omega,c3 hi ag,ad⟩) (aih ⟨dk,ad⟩)
 rw[lh]at gh kr;exact aii ⟨Vj c.aC (a8.p0 ak),nl (by simp;omega),mJ (by simp;omega),cM _ bT.flat _,nl (by simp;omega),mJ (by simp;omega),cM _ cb.flat _,gh,kr,ad⟩
end Go.Proofs.YtdchjefneblpgaaGreat
namespace Go.Proofs.YtdchjefneblpgaaGreat
open Go.Sx Go.RowKit Go.Shelf Go.Lib Go.Proofs.Tryz
theorem cell_of_heap{w:World}{b:Nat}{arr:Array Value}{tb:TypeId}(aj:w.heap[b]?=some (.cells arr tb (0,0))){x:Nat}{v:Value}(h:arr[x]?=some v):w.cell? ⟨b,x,none⟩=some v:=by
 simp[World.cell?,aj,h]
end Go.Proofs.YtdchjefneblpgaaGreat
namespace Go.Proofs.YtdchjefneblpgaaGreat
open Go.Sx Go.RowKit Go.Proofs.Tryz
def qC(w:Nat):List cP:=[⟨1,w,0⟩,⟨3,w,0⟩,⟨2,w,0⟩,⟨7,w,0⟩]
def mU(a b:Nat):List cP:=if a=b then [] else [⟨4,a,b⟩,⟨5,a,b⟩]
def pG(n:Nat):List cP:=(List.range n).flatMap qC
def rX(a n:Nat):List cP:=(List.range n).flatMap (mU a)
def pH(m n:Nat):List cP:=(List.range n).flatMap fun a=>rX a m
def oneOf(e:Nat):List cP:=[⟨6,e,0⟩]
def xr(n:Nat):List cP:=(List.range n).flatMap oneOf
def fZ(c:a8):List cP:=pG (gG c.aC.ap 0 4).toNat++pH (gG c.aC.ap 0 4).toNat (gG c.aC.ap 0 4).toNat++xr 4
theorem ajI(n:Nat):pG (n+1)=pG n++qC n:=by simp[pG,List.range_succ]
theorem ajJ(a n:Nat):rX a (n+1)=rX a n++mU a n:=by simp[rX,List.range_succ]
theorem ajK(m n:Nat):pH m (n+1)=pH m n++rX n m:=by simp[pH,List.range_succ]
theorem ajL(n:Nat):xr (n+1)=xr n++[⟨6,n,0⟩]:=by simp[xr,List.range_succ,oneOf]
theorem K8(n:Nat):(pG n).length<=n*4:=by
 have h:=y' qC 4 (fun _=>by simp[qC]) (List.range n);rwa[vA]at h
theorem Vl(a n:Nat):(rX a n).length<=n*2:=by
 have h:=y' (mU a) 2 (fun b=>by unfold mU;split<;>simp) (List.range n);rwa[vA]at h
theorem K9(m n:Nat):(pH m n).length<=n*(m*2):=by
 have h:=y' (fun a=>rX a m) (m*2) (fun a=>Vl a m) (List.range n);rwa[vA]at h
theorem Vm(n:Nat):(xr n).length<=n*1:=by
 have h:=y' oneOf 1 (fun _=>by simp[oneOf]) (List.range n);rwa[vA]at h
theorem Vn(n:Int):∃k:Nat,gG n 0 4=k/\k<=4:=by
 refine⟨(gG n 0 4).toNat,?_,?_⟩<;>(unfold gG;simp only[show ¬(4:Int)<0 by omega,ll];split<;>(try split)<;>omega)
theorem Ju(a b:Nat)(ae:a<=4)(aj:b<=4):a*(b*2)<=32:=by
 have:=Nat.mul_le_mul ae (hq 2 aj);omega
theorem Vo(c:a8):(fZ c).length<=100:=by
 obtain⟨k,hk,aK⟩:=Vn c.aC.ap;unfold fZ;rw[hk];have a:=K8 k;have b:=K9 k k;have e:=Vm 4;have m:=Ju k k aK aK;simp only[jy,oX];omega
theorem Vp(c:a8):aw 129 [.agg c.e] [.one (.J 3 ((fZ c).map cP.e))]:=by
 have b:=EK c.aC.ap 0 4;obtain⟨k,hk,aK⟩:=Vn c.aC.ap;unfold fZ;rw[hk]at b ⊢;have azA:=K8 k;have QL:=K9 k k;have m:=Ju k k aK aK;have gh:=e6 (P:=prog) (c:=(aq f129 0)) (cC 0) k (fun i:Nat=>A5 k i ((pG i).map cP.e)) (fun i hi=>by
  have h1:=K8 i;rw[ajI,gW];exact atk ⟨bU (by omega),by simp;omega,by simp;omega,cM cP.e cP.flat (qC i),⟨by omega,by omega⟩,ad⟩) (atl ⟨bY (by omega),ad⟩)
 have ui:=fun (a:Nat) (ae:a<k)=>e6 (P:=prog) (c:=(aq f129 2)) (cC 4) k (fun i:Nat=>wy k a i ((pG k++pH k a++rX a i).map cP.e)) (fun i hi=>by
  have h1:=Vl a i;have U:=K9 k a;have ax:=Ju a k (by omega) aK;rw[ajJ,<-tw,gW (l₂:=mU a i)];by_cases ek:a=i
  ·have e:(mU a i).map cP.e=[]:=by simp[mU,ek]
   rw[e,lL];exact asN ⟨bU (by omega),by simp[ek],⟨by omega,by omega⟩,ad⟩
  have e:(mU a i).map cP.e=[[I 4,I a,I i],[I 5,I a,I i]]:=by simp[mU,ek,cP.e]
  rw[e];have bw:Flat [[I 4,I a,I i],[I 5,I a,I i]]:=by rw[<-e];exact cM cP.e cP.flat _
  exact atm ⟨bU (by omega),by simp;omega,by simp;omega,by simp;omega,bw,⟨by omega,by omega⟩,ad⟩) (asO ⟨bY (by omega),ad⟩)
 have kr:=e6 (P:=prog) (c:=(aq f129 1)) (cC 2) k (fun i:Nat=>A6 k i ((pG k++pH k i).map cP.e)) (fun i hi=>by
  have h:=ui i hi;rw[ajK,<-tw];simp only[rX,G',O5,lL]at h;exact asP ⟨bU (by omega),h,⟨by omega,by omega⟩,ad⟩) (asQ ⟨bY (by omega),ad⟩)
 have D1:=e6 (P:=prog) (c:=(aq f129 3)) (cC 6) 4 (fun i:Nat=>A7 i ((pG k++pH k k++xr i).map cP.e)) (fun i hi=>by
  have h1:=Vm i;rw[ajL,<-tw,gW (l₂:=[_])];exact asR ⟨bU (by omega),by simp;omega,by simp;omega,cM cP.e cP.flat [⟨6,i,0⟩],⟨by omega,by omega⟩,ad⟩) (asS ⟨bY (by omega),ad⟩)
 simp only[pH,G',O5,lL]at kr;simp only[xr,G',O5,lL]at D1;rw[oX];exact asT ⟨b,gh,kr,D1,ad⟩
