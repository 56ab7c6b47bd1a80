import Derived.Test.YtdchjefneblpgaaGreatC6
import Derived.Test.YtdchjefneblpgaaGreatQ2
import Derived.Test.YtdchjefneblpgaaGreatGV
import Derived.WalkKit
import Derived.Deep.RegionLaw
import Derived.Shelf.RegionOpenPlain
import Derived.Lib.SliceRun
import Derived.Deep.LoopGhost
import Derived.Lib.Walk
set_option linter.unusedVariables false
set_option linter.unusedSimpArgs false
namespace Go.Proofs.YtdchjefneblpgaaGreat
open Go.Sx Go.RowKit Go.Proofs.Tryz
theorem xV(xs:List Int):Flat (xs.map a6):=dA a6 (fun _ _ aG=>⟨_,List.mem_singleton.1 aG⟩) xs
theorem xU(xs:List Bool):Flat (xs.map cq):=dA cq (fun _ _ aG=>⟨_,List.mem_singleton.1 aG⟩) xs
theorem cw.flat(r:cw):∀d∈r.e,∃x,d=.v x:=by
 intro d aG;simp only[cw.e,ev,nH,or_false]at aG;rcases aG with rfl | rfl<;>exact⟨_,rfl⟩
theorem b7.flat(r:b7):∀d∈r.e,∃x,d=.v x:=by
 intro d aG;simp only[b7.e,ev,nH,or_false]at aG;rcases aG with rfl | rfl | rfl<;>exact⟨_,rfl⟩
theorem bW.flat(r:bW):∀d∈r.e,∃x,d=.v x:=by
 intro d aG;simp only[bW.e,ev,nH,or_false]at aG;rcases aG with rfl | rfl | rfl | rfl | rfl<;>exact⟨_,rfl⟩
theorem wJ{α:Type}{f:α->List D}{xs:List α}{i:Nat}{a:α}(h:xs[i]?=some a):(xs.take (i+1)).map f=(xs.take i).map f++[f a]:=by simp[vA,h]
theorem nl{l:List (List D)}{k m:Nat}(h:l.length*k<=m):(([]:List (List D)).length+l.length)*k<=m:=by simpa using h
theorem jk{l:List (List D)}{m:Nat}(h:l.length<=m):([]:List (List D)).length+l.length<=m:=by simpa using h
theorem bR.NR{g:bR}(h:g.sz<=8388608){x:Node}(ak:x∈g.nodes):x.sz<=8388608:=ta (sz:=Node.sz) (xs:=g.nodes) (m:=8388608) (by simp only[bR.sz]at h;omega) ak
theorem bR.NS{g:bR}(h:g.sz<=8388608):g.nodes.length<=8388608:=by simp only[bR.sz,eZ]at h;omega
theorem bb.Am{c:bb}(h:c.sz<=8388608){w:aR}(hw:w∈c.ay):w.sz<=8388608:=ta (sz:=aR.sz) (xs:=c.ay) (m:=8388608) (by simp only[bb.sz]at h;omega) hw
theorem bb.G'{c:bb}(h:c.sz<=8388608){w:bu}(hw:w∈c.bV):w.sz<=8388608:=ta (sz:=bu.sz) (xs:=c.bV) (m:=8388608) (by simp only[bb.sz]at h;omega) hw
theorem bb.ln{c:bb}(h:c.sz<=8388608):c.aC.sz<=8388608:=by simp only[bb.sz]at h;omega
theorem adt(x:Node)(h:x.sz<=8388608):ar 276 [.agg x.e] [.agg x.e]:=by
 simp only[Node.sz]at h;exact ad1 ⟨nl (by simp;omega),jk (by simp;omega),xV _,aa⟩
theorem adu(x:bu)(h:x.sz<=8388608):ar 256 [.agg x.e] [.agg x.e]:=
 ad5 ⟨C2 x.queue h,aa⟩
theorem DH(x:bu)(h:x.sz<=8388608):ar 279 [.agg x.e] [.agg x.e]:=by
 simp only[bu.sz]at h;exact aec ⟨nl (by simp;omega),jk (by simp;omega),dA _ aB.flat _,aa⟩
theorem Ji(x:aR)(h:x.sz<=8388608):ar 255 [.agg x.e] [.agg x.e]:=by
 simp only[aR.sz]at h;exact ad6 ⟨C2 x.queue (by omega),C2 x.ch (by omega),C2 x.b3 (by omega),te x.cells (by omega),nl (by simp;omega),jk (by simp;omega),xV _,nl (by simp;omega),jk (by simp;omega),xU _,nl (by simp;omega),jk (by simp;omega),xU _,nl (by simp;omega),jk (by simp;omega),dA _ cw.flat _,aa⟩
theorem wK(x:aR)(h:x.sz<=8388608):ar 174 [.agg x.e] [.agg x.e]:=by
 simp only[aR.sz]at h;exact aeg ⟨nl (by simp;omega),jk (by simp;omega),dA _ aB.flat _,nl (by simp;omega),jk (by simp;omega),dA _ aB.flat _,nl (by simp;omega),jk (by simp;omega),dA _ aB.flat _,nl (by simp;omega),jk (by simp;omega),dA _ Cell.flat _,nl (by simp;omega),jk (by simp;omega),xV _,nl (by simp;omega),jk (by simp;omega),xU _,nl (by simp;omega),jk (by simp;omega),xU _,nl (by simp;omega),jk (by simp;omega),dA _ cw.flat _,aa⟩
theorem adv(g:bR)(av:g.sz<=8388608):ar 181 [.agg g.e] [.agg g.e]:=by
 have a8:=bR.NS av;have l:=eN (P:=prog) (c:=(ao f181 0)) (cH 0) g.nodes.length (fun i:Nat=>z7 (g.nodes.map Node.e) i ((g.nodes.take i).map Node.e) g.ay g.cap 0 0) (fun i hi=>by
  obtain⟨a,ag⟩:=cS hi;rw[wJ ag];exact ad2 ⟨b6 hi,bw,bE hi,bA Node.e ag,adt a (bR.NR av (eA ag)),by simp;omega,by simp;omega,dc hi a8,aa⟩) (ad3 ⟨dz,aa⟩)
 rw[la]at l;exact ad4 ⟨l,aa⟩
theorem RO(g:bR)(av:g.sz<=8388608):ar 123 [.agg g.e] [.agg g.e]:=by
 have a8:=bR.NS av;have l:=eN (P:=prog) (c:=(ao f123 0)) (cH 0) g.nodes.length (fun i:Nat=>Aa i ((g.nodes.take i).map Node.e) g.ay g.cap 0 0 (g.nodes.map Node.e) g.ay g.cap) (fun i hi=>by
  obtain⟨a,ag⟩:=cS hi;have ai:=bR.NR av (eA ag);simp only[Node.sz]at ai;rw[wJ ag];exact aed ⟨b6 hi,bw,bE hi,bA Node.e ag,nl (by simp;omega),jk (by simp;omega),xV _,by simp;omega,by simp;omega,dc hi a8,aa⟩) (aee ⟨dz,aa⟩)
 rw[la]at l;exact aef ⟨l,aa⟩
theorem RP(c:bb)(al:c.sz<=8388608):ar 144 [.agg c.e] [.agg c.e]:=by
 have hw:=bb.Al al;have ap:=bb.B7 al;have bU:c.tokens.length<=8388608:=by simp only[bb.sz,eZ]at al;omega
 have ak:c.news.length<=8388608:=by simp only[bb.sz,eZ]at al;omega
 have fo:=eN (P:=prog) (c:=(ao f144 0)) (cH 0) c.ay.length (fun i:Nat=>z8 (c.ay.map aR.e) i (c.aC.nodes.map Node.e) c.aC.ay c.aC.cap ((c.ay.take i).map aR.e) (c.tokens.map bW.e) (c.news.map b7.e) 0 0 (c.aC.nodes.map Node.e) c.aC.ay c.aC.cap (c.ay.map aR.e) (c.bV.map bu.e) (c.tokens.map bW.e) (c.news.map b7.e)) (fun i hi=>by
  obtain⟨a,ag⟩:=cS hi;rw[wJ ag];exact ad7 ⟨b6 hi,bw,bE hi,bA aR.e ag,Ji a (bb.Am al (eA ag)),by simp;omega,by simp;omega,dc hi hw,aa⟩) (ad8 ⟨dz,aa⟩)
 have kZ:=eN (P:=prog) (c:=(ao f144 1)) (cH 2) c.bV.length (fun i:Nat=>z' (c.bV.map bu.e) i (c.aC.nodes.map Node.e) c.aC.ay c.aC.cap (c.ay.map aR.e) ((c.bV.take i).map bu.e) (c.tokens.map bW.e) (c.news.map b7.e) 0 0) (fun i hi=>by
  obtain⟨a,ag⟩:=cS hi;rw[wJ ag];exact ad9 ⟨b6 hi,bw,bE hi,bA bu.e ag,adu a (bb.G' al (eA ag)),by simp;omega,by simp;omega,dc hi ap,aa⟩) (aea ⟨dz,aa⟩)
 rw[la]at fo kZ;exact aeb ⟨adv c.aC (bb.ln al),nl (by simp;omega),jk (by simp;omega),dA _ bW.flat _,nl (by simp;omega),jk (by simp;omega),dA _ b7.flat _,fo,kZ,aa⟩
theorem adw(c:bb)(al:c.sz<=8388608):ar 186 [.agg c.e] [.agg c.e]:=by
 have hw:=bb.Al al;have ap:=bb.B7 al;have bU:c.tokens.length<=8388608:=by simp only[bb.sz,eZ]at al;omega
 have ak:c.news.length<=8388608:=by simp only[bb.sz,eZ]at al;omega
 have fo:=eN (P:=prog) (c:=(ao f186 0)) (cH 0) c.ay.length (fun i:Nat=>Ab i (c.aC.nodes.map Node.e) c.aC.ay c.aC.cap ((c.ay.take i).map aR.e) (c.tokens.map bW.e) (c.news.map b7.e) 0 0 (c.aC.nodes.map Node.e) c.aC.ay c.aC.cap (c.ay.map aR.e) (c.bV.map bu.e) (c.tokens.map bW.e) (c.news.map b7.e)) (fun i hi=>by
  obtain⟨a,ag⟩:=cS hi;rw[wJ ag];exact aeh ⟨b6 hi,bw,bE hi,bA aR.e ag,wK a (bb.Am al (eA ag)),by simp;omega,by simp;omega,dc hi hw,aa⟩) (aei ⟨dz,aa⟩)
 have kZ:=eN (P:=prog) (c:=(ao f186 1)) (cH 2) c.bV.length (fun i:Nat=>zn i (c.aC.nodes.map Node.e) c.aC.ay c.aC.cap (c.ay.map aR.e) ((c.bV.take i).map bu.e) (c.tokens.map bW.e) (c.news.map b7.e) 0 0 (c.aC.nodes.map Node.e) c.aC.ay c.aC.cap (c.ay.map aR.e) (c.bV.map bu.e) (c.tokens.map bW.e) (c.news.map b7.e)) (fun i hi=>by
  obtain⟨a,ag⟩:=cS hi;rw[wJ ag];exact aej ⟨b6 hi,bw,bE hi,bA bu.e ag,DH a (bb.G' al (eA ag)),by simp;omega,by simp;omega,dc hi ap,aa⟩) (aek ⟨dz,aa⟩)
 rw[la]at fo kZ;exact ael ⟨RO c.aC (bb.ln al),nl (by simp;omega),jk (by simp;omega),dA _ bW.flat _,nl (by simp;omega),jk (by simp;omega),dA _ b7.flat _,fo,kZ,aa⟩
end Go.Proofs.YtdchjefneblpgaaGreat
namespace Go.Proofs.YtdchjefneblpgaaGreat
open Go.Sx Go.RowKit Go.Shelf Go.Lib Go.Proofs.Tryz
theorem cell_of_heap{w:World}{b:Nat}{arr:Array Value}{tb:TypeId}(aw:w.heap[b]?=some (.cells arr tb (0,0))){x:Nat}{v:Value}(h:arr[x]?=some v):w.cell? ⟨b,x,none⟩=some v:=by
 simp[World.cell?,aw,h]
theorem aB.Br(xs:List aB):xs.map aB.e=fK (xs.map fun r=>r.e.map D.Ak):=by
 simp only[fK,List.map_map];rfl
theorem b7.Br(xs:List b7):xs.map b7.e=fK (xs.map fun r=>r.e.map D.Ak):=by
 simp only[fK,List.map_map];rfl
end Go.Proofs.YtdchjefneblpgaaGreat
namespace Go.Proofs.YtdchjefneblpgaaGreat
open Go.Sx Go.RowKit Go.Proofs.Tryz
def zp(w:Nat):List c9:=[⟨1,w,0⟩,⟨3,w,0⟩,⟨2,w,0⟩,⟨7,w,0⟩]
def r'(a b:Nat):List c9:=if a=b then [] else [⟨4,a,b⟩,⟨5,a,b⟩]
def rX(n:Nat):List c9:=(List.range n).flatMap zp
def rY(a n:Nat):List c9:=(List.range n).flatMap (r' a)
def rZ(m n:Nat):List c9:=(List.range n).flatMap fun a=>rY a m
def oneOf(e:Nat):List c9:=[⟨6,e,0⟩]
def u2(n:Nat):List c9:=(List.range n).flatMap oneOf
def nx(c:bb):List c9:=rX (hs c.aC.ay 0 4).toNat++rZ (hs c.aC.ay 0 4).toNat (hs c.aC.ay 0 4).toNat++u2 4
theorem adx(n:Nat):rX (n+1)=rX n++zp n:=by simp[rX,List.range_succ]
theorem ady(a n:Nat):rY a (n+1)=rY a n++r' a n:=by simp[rY,List.range_succ]
theorem aeZ(m n:Nat):rZ m (n+1)=rZ m n++rY n m:=by simp[rZ,List.range_succ]
theorem ae0(n:Nat):u2 (n+1)=u2 n++[⟨6,n,0⟩]:=by simp[u2,List.range_succ,oneOf]
theorem Jj(n:Nat):(rX n).length<=n*4:=by
 have h:=w5 zp 4 (fun _=>by simp[zp]) (List.range n);rwa[xy]at h
theorem RQ(a n:Nat):(rY a n).length<=n*2:=by
 have h:=w5 (r' a) 2 (fun b=>by unfold r';split<;>simp) (List.range n);rwa[xy]at h
theorem Jk(m n:Nat):(rZ m n).length<=n*(m*2):=by
 have h:=w5 (fun a=>rY a m) (m*2) (fun a=>RQ a m) (List.range n);rwa[xy]at h
theorem RR(n:Nat):(u2 n).length<=n*1:=by
 have h:=w5 oneOf 1 (fun _=>by simp[oneOf]) (List.range n);rwa[xy]at h
theorem RS(n:Int):∃k:Nat,hs n 0 4=k/\k<=4:=by
 refine⟨(hs n 0 4).toNat,?_,?_⟩<;>(unfold hs;simp only[show ¬(4:Int)<0 by omega,lN];split<;>(try split)<;>omega)
theorem Hd(a b:Nat)(ag:a<=4)(aw:b<=4):a*(b*2)<=32:=by
 have:=Nat.mul_le_mul ag (gX 2 aw);omega
theorem RT(c:bb):(nx c).length<=100:=by
 obtain⟨k,hk,aI⟩:=RS c.aC.ay;unfold nx;rw[hk];have a:=Jj k;have b:=Jk k k;have e:=RR 4;have m:=Hd k k aI aI;simp only[kI,pP];omega
theorem Rk(c:bb):ar 129 [.agg c.e] [.one (.J 3 ((nx c).map c9.e))]:=by
 have b:=CV c.aC.ay 0 4;obtain⟨k,hk,aI⟩:=RS c.aC.ay;unfold nx;rw[hk]at b ⊢;have auo:=Jj k;have aup:=Jk k k;have m:=Hd k k aI aI;have fo:=eN (P:=prog) (c:=(ao f129 0)) (cH 0) k (fun i:Nat=>zI k i ((rX i).map c9.e)) (fun i hi=>by
  have h1:=Jj i;rw[adx,gY];exact ak3 ⟨dM (by omega),by simp;omega,by simp;omega,dA c9.e c9.flat (zp i),⟨by omega,by omega⟩,aa⟩) (ak4 ⟨eL (by omega),aa⟩)
 have yL:=fun (a:Nat) (ag:a<k)=>eN (P:=prog) (c:=(ao f129 2)) (cH 4) k (fun i:Nat=>vl k a i ((rX k++rZ k a++rY a i).map c9.e)) (fun i hi=>by
  have h1:=RQ a i;have U:=Jk k a;have ax:=Hd a k (by omega) aI;rw[ady,<-tI,gY (l₂:=r' a i)];by_cases je:a=i
  ·have e:(r' a i).map c9.e=[]:=by simp[r',je]
   rw[e,lc];exact ak6 ⟨dM (by omega),by simp[je],⟨by omega,by omega⟩,aa⟩
  have e:(r' a i).map c9.e=[[I 4,I a,I i],[I 5,I a,I i]]:=by simp[r',je,c9.e]
  rw[e];have b0:Flat [[I 4,I a,I i],[I 5,I a,I i]]:=by rw[<-e];exact dA c9.e c9.flat _
  exact ak5 ⟨dM (by omega),by simp;omega,by simp;omega,by simp;omega,b0,⟨by omega,by omega⟩,aa⟩) (ak7 ⟨eL (by omega),aa⟩)
 have kZ:=eN (P:=prog) (c:=(ao f129 1)) (cH 2) k (fun i:Nat=>zJ k i ((rX k++rZ k i).map c9.e)) (fun i hi=>by
  have h:=yL i hi;rw[aeZ,<-tI];simp only[rY,Mg,Mf,lc]at h;exact ak8 ⟨dM (by omega),h,⟨by omega,by omega⟩,aa⟩) (ak9 ⟨eL (by omega),aa⟩)
 have NM:=eN (P:=prog) (c:=(ao f129 3)) (cH 6) 4 (fun i:Nat=>zK i ((rX k++rZ k k++u2 i).map c9.e)) (fun i hi=>by
  have h1:=RR i;rw[ae0,<-tI,gY (l₂:=[_])];exact ala ⟨dM (by omega),by simp;omega,by simp;omega,dA c9.e c9.flat [⟨6,i,0⟩],⟨by omega,by omega⟩,aa⟩) (amD ⟨eL (by omega),aa⟩)
 simp only[rZ,Mg,Mf,lc]at kZ;simp only[u2,Mg,Mf,lc]at NM;rw[pP];exact amE ⟨b,fo,kZ,NM,aa⟩
