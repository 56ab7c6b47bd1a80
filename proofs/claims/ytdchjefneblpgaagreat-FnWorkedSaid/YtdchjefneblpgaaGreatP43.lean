import Derived.Test.YtdchjefneblpgaaGreatC6
import Derived.Test.YtdchjefneblpgaaGreatQ2
import Derived.Test.YtdchjefneblpgaaGreatGV
import Derived.WalkKit
import Derived.Deep.RegionLaw
import Derived.Shelf.RegionOpenPlain
import Derived.Lib.SliceRun
import Derived.Deep.LoopGhost
import Derived.Lib.Walk
set_option linter.unusedVariables false
set_option linter.unusedSimpArgs false
namespace Go.Proofs.YtdchjefneblpgaaGreat
open Go.Sx Go.RowKit Go.Proofs.Tryz
theorem xT(xs:List Int):Flat (xs.map a6):=dA a6 (fun _ _ aG=>⟨_,List.mem_singleton.1 aG⟩) xs
theorem xS(xs:List Bool):Flat (xs.map cq):=dA cq (fun _ _ aG=>⟨_,List.mem_singleton.1 aG⟩) xs
theorem cw.flat(r:cw):∀d∈r.e,∃x,d=.v x:=by
 intro d aG;simp only[cw.e,ep,nG,or_false]at aG;rcases aG with rfl | rfl<;>exact⟨_,rfl⟩
theorem b7.flat(r:b7):∀d∈r.e,∃x,d=.v x:=by
 intro d aG;simp only[b7.e,ep,nG,or_false]at aG;rcases aG with rfl | rfl | rfl<;>exact⟨_,rfl⟩
theorem bV.flat(r:bV):∀d∈r.e,∃x,d=.v x:=by
 intro d aG;simp only[bV.e,ep,nG,or_false]at aG;rcases aG with rfl | rfl | rfl | rfl | rfl<;>exact⟨_,rfl⟩
theorem xe{α:Type}{f:α->List D}{xs:List α}{i:Nat}{a:α}(h:xs[i]?=some a):(xs.take (i+1)).map f=(xs.take i).map f++[f a]:=by simp[vy,h]
theorem nl{l:List (List D)}{k m:Nat}(h:l.length*k<=m):(([]:List (List D)).length+l.length)*k<=m:=by simpa using h
theorem jC{l:List (List D)}{m:Nat}(h:l.length<=m):([]:List (List D)).length+l.length<=m:=by simpa using h
theorem bR.NP{g:bR}(h:g.sz<=8388608){x:Node}(ak:x∈g.nodes):x.sz<=8388608:=s' (sz:=Node.sz) (xs:=g.nodes) (m:=8388608) (by simp only[bR.sz]at h;omega) ak
theorem bR.NQ{g:bR}(h:g.sz<=8388608):g.nodes.length<=8388608:=by simp only[bR.sz,eZ]at h;omega
theorem bb.Ak{c:bb}(h:c.sz<=8388608){w:aR}(hw:w∈c.ay):w.sz<=8388608:=s' (sz:=aR.sz) (xs:=c.ay) (m:=8388608) (by simp only[bb.sz]at h;omega) hw
theorem bb.G9{c:bb}(h:c.sz<=8388608){w:bu}(hw:w∈c.bW):w.sz<=8388608:=s' (sz:=bu.sz) (xs:=c.bW) (m:=8388608) (by simp only[bb.sz]at h;omega) hw
theorem bb.lk{c:bb}(h:c.sz<=8388608):c.aC.sz<=8388608:=by simp only[bb.sz]at h;omega
theorem adp(x:Node)(h:x.sz<=8388608):ar 276 [.agg x.e] [.agg x.e]:=by
 simp only[Node.sz]at h;exact adX ⟨nl (by simp;omega),jC (by simp;omega),xT _,aa⟩
theorem adq(x:bu)(h:x.sz<=8388608):ar 256 [.agg x.e] [.agg x.e]:=
 ad1 ⟨C0 x.queue h,aa⟩
theorem DF(x:bu)(h:x.sz<=8388608):ar 279 [.agg x.e] [.agg x.e]:=by
 simp only[bu.sz]at h;exact ad8 ⟨nl (by simp;omega),jC (by simp;omega),dA _ aB.flat _,aa⟩
theorem Jh(x:aR)(h:x.sz<=8388608):ar 255 [.agg x.e] [.agg x.e]:=by
 simp only[aR.sz]at h;exact ad2 ⟨C0 x.queue (by omega),C0 x.cg (by omega),C0 x.b3 (by omega),td x.cells (by omega),nl (by simp;omega),jC (by simp;omega),xT _,nl (by simp;omega),jC (by simp;omega),xS _,nl (by simp;omega),jC (by simp;omega),xS _,nl (by simp;omega),jC (by simp;omega),dA _ cw.flat _,aa⟩
theorem wJ(x:aR)(h:x.sz<=8388608):ar 174 [.agg x.e] [.agg x.e]:=by
 simp only[aR.sz]at h;exact aec ⟨nl (by simp;omega),jC (by simp;omega),dA _ aB.flat _,nl (by simp;omega),jC (by simp;omega),dA _ aB.flat _,nl (by simp;omega),jC (by simp;omega),dA _ aB.flat _,nl (by simp;omega),jC (by simp;omega),dA _ Cell.flat _,nl (by simp;omega),jC (by simp;omega),xT _,nl (by simp;omega),jC (by simp;omega),xS _,nl (by simp;omega),jC (by simp;omega),xS _,nl (by simp;omega),jC (by simp;omega),dA _ cw.flat _,aa⟩
theorem adr(g:bR)(av:g.sz<=8388608):ar 181 [.agg g.e] [.agg g.e]:=by
 have a8:=bR.NQ av;have l:=eN (P:=prog) (c:=(ao f181 0)) (cH 0) g.nodes.length (fun i:Nat=>z1 (g.nodes.map Node.e) i ((g.nodes.take i).map Node.e) g.ay g.cap 0 0) (fun i hi=>by
  obtain⟨a,ah⟩:=cS hi;rw[xe ah];exact adY ⟨b6 hi,bw,bE hi,bA Node.e ah,adp a (bR.NP av (eA ah)),by simp;omega,by simp;omega,dc hi a8,aa⟩) (adZ ⟨dz,aa⟩)
 rw[k8]at l;exact ad0 ⟨l,aa⟩
theorem RM(g:bR)(av:g.sz<=8388608):ar 123 [.agg g.e] [.agg g.e]:=by
 have a8:=bR.NQ av;have l:=eN (P:=prog) (c:=(ao f123 0)) (cH 0) g.nodes.length (fun i:Nat=>z8 i ((g.nodes.take i).map Node.e) g.ay g.cap 0 0 (g.nodes.map Node.e) g.ay g.cap) (fun i hi=>by
  obtain⟨a,ah⟩:=cS hi;have ai:=bR.NP av (eA ah);simp only[Node.sz]at ai;rw[xe ah];exact ad9 ⟨b6 hi,bw,bE hi,bA Node.e ah,nl (by simp;omega),jC (by simp;omega),xT _,by simp;omega,by simp;omega,dc hi a8,aa⟩) (aea ⟨dz,aa⟩)
 rw[k8]at l;exact aeb ⟨l,aa⟩
theorem RN(c:bb)(al:c.sz<=8388608):ar 144 [.agg c.e] [.agg c.e]:=by
 have hw:=bb.Aj al;have ap:=bb.B5 al;have bU:c.tokens.length<=8388608:=by simp only[bb.sz,eZ]at al;omega
 have ak:c.news.length<=8388608:=by simp only[bb.sz,eZ]at al;omega
 have fo:=eN (P:=prog) (c:=(ao f144 0)) (cH 0) c.ay.length (fun i:Nat=>z6 (c.ay.map aR.e) i (c.aC.nodes.map Node.e) c.aC.ay c.aC.cap ((c.ay.take i).map aR.e) (c.tokens.map bV.e) (c.news.map b7.e) 0 0 (c.aC.nodes.map Node.e) c.aC.ay c.aC.cap (c.ay.map aR.e) (c.bW.map bu.e) (c.tokens.map bV.e) (c.news.map b7.e)) (fun i hi=>by
  obtain⟨a,ah⟩:=cS hi;rw[xe ah];exact ad3 ⟨b6 hi,bw,bE hi,bA aR.e ah,Jh a (bb.Ak al (eA ah)),by simp;omega,by simp;omega,dc hi hw,aa⟩) (ad4 ⟨dz,aa⟩)
 have kW:=eN (P:=prog) (c:=(ao f144 1)) (cH 2) c.bW.length (fun i:Nat=>z7 (c.bW.map bu.e) i (c.aC.nodes.map Node.e) c.aC.ay c.aC.cap (c.ay.map aR.e) ((c.bW.take i).map bu.e) (c.tokens.map bV.e) (c.news.map b7.e) 0 0) (fun i hi=>by
  obtain⟨a,ah⟩:=cS hi;rw[xe ah];exact ad5 ⟨b6 hi,bw,bE hi,bA bu.e ah,adq a (bb.G9 al (eA ah)),by simp;omega,by simp;omega,dc hi ap,aa⟩) (ad6 ⟨dz,aa⟩)
 rw[k8]at fo kW;exact ad7 ⟨adr c.aC (bb.lk al),nl (by simp;omega),jC (by simp;omega),dA _ bV.flat _,nl (by simp;omega),jC (by simp;omega),dA _ b7.flat _,fo,kW,aa⟩
theorem ads(c:bb)(al:c.sz<=8388608):ar 186 [.agg c.e] [.agg c.e]:=by
 have hw:=bb.Aj al;have ap:=bb.B5 al;have bU:c.tokens.length<=8388608:=by simp only[bb.sz,eZ]at al;omega
 have ak:c.news.length<=8388608:=by simp only[bb.sz,eZ]at al;omega
 have fo:=eN (P:=prog) (c:=(ao f186 0)) (cH 0) c.ay.length (fun i:Nat=>z' i (c.aC.nodes.map Node.e) c.aC.ay c.aC.cap ((c.ay.take i).map aR.e) (c.tokens.map bV.e) (c.news.map b7.e) 0 0 (c.aC.nodes.map Node.e) c.aC.ay c.aC.cap (c.ay.map aR.e) (c.bW.map bu.e) (c.tokens.map bV.e) (c.news.map b7.e)) (fun i hi=>by
  obtain⟨a,ah⟩:=cS hi;rw[xe ah];exact aed ⟨b6 hi,bw,bE hi,bA aR.e ah,wJ a (bb.Ak al (eA ah)),by simp;omega,by simp;omega,dc hi hw,aa⟩) (aee ⟨dz,aa⟩)
 have kW:=eN (P:=prog) (c:=(ao f186 1)) (cH 2) c.bW.length (fun i:Nat=>zl i (c.aC.nodes.map Node.e) c.aC.ay c.aC.cap (c.ay.map aR.e) ((c.bW.take i).map bu.e) (c.tokens.map bV.e) (c.news.map b7.e) 0 0 (c.aC.nodes.map Node.e) c.aC.ay c.aC.cap (c.ay.map aR.e) (c.bW.map bu.e) (c.tokens.map bV.e) (c.news.map b7.e)) (fun i hi=>by
  obtain⟨a,ah⟩:=cS hi;rw[xe ah];exact aef ⟨b6 hi,bw,bE hi,bA bu.e ah,DF a (bb.G9 al (eA ah)),by simp;omega,by simp;omega,dc hi ap,aa⟩) (aeg ⟨dz,aa⟩)
 rw[k8]at fo kW;exact aeh ⟨RM c.aC (bb.lk al),nl (by simp;omega),jC (by simp;omega),dA _ bV.flat _,nl (by simp;omega),jC (by simp;omega),dA _ b7.flat _,fo,kW,aa⟩
end Go.Proofs.YtdchjefneblpgaaGreat
namespace Go.Proofs.YtdchjefneblpgaaGreat
open Go.Sx Go.RowKit Go.Shelf Go.Lib Go.Proofs.Tryz
theorem cell_of_heap{w:World}{b:Nat}{arr:Array Value}{tb:TypeId}(aw:w.heap[b]?=some (.cells arr tb (0,0))){x:Nat}{v:Value}(h:arr[x]?=some v):w.cell? ⟨b,x,none⟩=some v:=by
 simp[World.cell?,aw,h]
theorem aB.Bp(xs:List aB):xs.map aB.e=fK (xs.map fun r=>r.e.map D.Ai):=by
 simp only[fK,List.map_map];rfl
theorem b7.Bp(xs:List b7):xs.map b7.e=fK (xs.map fun r=>r.e.map D.Ai):=by
 simp only[fK,List.map_map];rfl
end Go.Proofs.YtdchjefneblpgaaGreat
namespace Go.Proofs.YtdchjefneblpgaaGreat
open Go.Sx Go.RowKit Go.Proofs.Tryz
def zn(w:Nat):List c9:=[⟨1,w,0⟩,⟨3,w,0⟩,⟨2,w,0⟩,⟨7,w,0⟩]
def r'(a b:Nat):List c9:=if a=b then [] else [⟨4,a,b⟩,⟨5,a,b⟩]
def rX(n:Nat):List c9:=(List.range n).flatMap zn
def rY(a n:Nat):List c9:=(List.range n).flatMap (r' a)
def rZ(m n:Nat):List c9:=(List.range n).flatMap fun a=>rY a m
def oneOf(e:Nat):List c9:=[⟨6,e,0⟩]
def uZ(n:Nat):List c9:=(List.range n).flatMap oneOf
def nv(c:bb):List c9:=rX (hq c.aC.ay 0 4).toNat++rZ (hq c.aC.ay 0 4).toNat (hq c.aC.ay 0 4).toNat++uZ 4
theorem adt(n:Nat):rX (n+1)=rX n++zn n:=by simp[rX,List.range_succ]
theorem adu(a n:Nat):rY a (n+1)=rY a n++r' a n:=by simp[rY,List.range_succ]
theorem aeV(m n:Nat):rZ m (n+1)=rZ m n++rY n m:=by simp[rZ,List.range_succ]
theorem aeW(n:Nat):uZ (n+1)=uZ n++[⟨6,n,0⟩]:=by simp[uZ,List.range_succ,oneOf]
theorem Ji(n:Nat):(rX n).length<=n*4:=by
 have h:=w4 zn 4 (fun _=>by simp[zn]) (List.range n);rwa[xw]at h
theorem RO(a n:Nat):(rY a n).length<=n*2:=by
 have h:=w4 (r' a) 2 (fun b=>by unfold r';split<;>simp) (List.range n);rwa[xw]at h
theorem Jj(m n:Nat):(rZ m n).length<=n*(m*2):=by
 have h:=w4 (fun a=>rY a m) (m*2) (fun a=>RO a m) (List.range n);rwa[xw]at h
theorem RP(n:Nat):(uZ n).length<=n*1:=by
 have h:=w4 oneOf 1 (fun _=>by simp[oneOf]) (List.range n);rwa[xw]at h
theorem RQ(n:Int):∃k:Nat,hq n 0 4=k/\k<=4:=by
 refine⟨(hq n 0 4).toNat,?_,?_⟩<;>(unfold hq;simp only[show ¬(4:Int)<0 by omega,lK];split<;>(try split)<;>omega)
theorem Hc(a b:Nat)(ah:a<=4)(aw:b<=4):a*(b*2)<=32:=by
 have:=Nat.mul_le_mul ah (gW 2 aw);omega
theorem RR(c:bb):(nv c).length<=100:=by
 obtain⟨k,hk,aJ⟩:=RQ c.aC.ay;unfold nv;rw[hk];have a:=Ji k;have b:=Jj k k;have e:=RP 4;have m:=Hc k k aJ aJ;simp only[kH,pP];omega
theorem Ri(c:bb):ar 129 [.agg c.e] [.one (.J 3 ((nv c).map c9.e))]:=by
 have b:=CT c.aC.ay 0 4;obtain⟨k,hk,aJ⟩:=RQ c.aC.ay;unfold nv;rw[hk]at b ⊢;have auo:=Ji k;have aup:=Jj k k;have m:=Hc k k aJ aJ;have fo:=eN (P:=prog) (c:=(ao f129 0)) (cH 0) k (fun i:Nat=>zG k i ((rX i).map c9.e)) (fun i hi=>by
  have h1:=Ji i;rw[adt,hy];exact akZ ⟨dM (by omega),by simp;omega,by simp;omega,dA c9.e c9.flat (zn i),⟨by omega,by omega⟩,aa⟩) (ak0 ⟨eL (by omega),aa⟩)
 have yJ:=fun (a:Nat) (ah:a<k)=>eN (P:=prog) (c:=(ao f129 2)) (cH 4) k (fun i:Nat=>vi k a i ((rX k++rZ k a++rY a i).map c9.e)) (fun i hi=>by
  have h1:=RO a i;have U:=Jj k a;have ax:=Hc a k (by omega) aJ;rw[adu,<-tG,hy (l₂:=r' a i)];by_cases hU:a=i
  ·have e:(r' a i).map c9.e=[]:=by simp[r',hU]
   rw[e,k'];exact ak2 ⟨dM (by omega),by simp[hU],⟨by omega,by omega⟩,aa⟩
  have e:(r' a i).map c9.e=[[I 4,I a,I i],[I 5,I a,I i]]:=by simp[r',hU,c9.e]
  rw[e];have b0:Flat [[I 4,I a,I i],[I 5,I a,I i]]:=by rw[<-e];exact dA c9.e c9.flat _
  exact ak1 ⟨dM (by omega),by simp;omega,by simp;omega,by simp;omega,b0,⟨by omega,by omega⟩,aa⟩) (ak3 ⟨eL (by omega),aa⟩)
 have kW:=eN (P:=prog) (c:=(ao f129 1)) (cH 2) k (fun i:Nat=>zH k i ((rX k++rZ k i).map c9.e)) (fun i hi=>by
  have h:=yJ i hi;rw[aeV,<-tG];simp only[rY,Me,Md,k']at h;exact ak4 ⟨dM (by omega),h,⟨by omega,by omega⟩,aa⟩) (ak5 ⟨eL (by omega),aa⟩)
 have NK:=eN (P:=prog) (c:=(ao f129 3)) (cH 6) 4 (fun i:Nat=>zI i ((rX k++rZ k k++uZ i).map c9.e)) (fun i hi=>by
  have h1:=RP i;rw[aeW,<-tG,hy (l₂:=[_])];exact ak6 ⟨dM (by omega),by simp;omega,by simp;omega,dA c9.e c9.flat [⟨6,i,0⟩],⟨by omega,by omega⟩,aa⟩) (amz ⟨eL (by omega),aa⟩)
 simp only[rZ,Me,Md,k']at kW;simp only[uZ,Me,Md,k']at NK;rw[pP];exact amA ⟨b,fo,kW,NK,aa⟩
