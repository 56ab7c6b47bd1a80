import Derived.Test.YtdchjefneblpgaaGreatC6
import Derived.Test.YtdchjefneblpgaaGreatQ2
import Derived.Test.YtdchjefneblpgaaGreatGV
import Derived.WalkKit
import Derived.Deep.RegionLaw
import Derived.Shelf.RegionOpenPlain
import Derived.Lib.SliceRun
import Derived.Deep.LoopGhost
import Derived.Lib.Walk
set_option linter.unusedVariables false
set_option linter.unusedSimpArgs false
namespace Go.Proofs.YtdchjefneblpgaaGreat
open Go.Sx Go.RowKit Go.Proofs.Tryz
theorem yi(xs:List Int):Flat (xs.map a'):=cf a' (fun _ _ aD=>⟨_,List.mem_singleton.1 aD⟩) xs
theorem yh(xs:List Bool):Flat (xs.map cv):=cf cv (fun _ _ aD=>⟨_,List.mem_singleton.1 aD⟩) xs
theorem cD.flat(r:cD):∀d∈r.e,∃x,d=.v x:=by
 intro d aD;simp only[cD.e,eu,mT,or_false]at aD;rcases aD with rfl | rfl<;>exact⟨_,rfl⟩
theorem ca.flat(r:ca):∀d∈r.e,∃x,d=.v x:=by
 intro d aD;simp only[ca.e,eu,mT,or_false]at aD;rcases aD with rfl | rfl | rfl<;>exact⟨_,rfl⟩
theorem b0.flat(r:b0):∀d∈r.e,∃x,d=.v x:=by
 intro d aD;simp only[b0.e,eu,mT,or_false]at aD;rcases aD with rfl | rfl | rfl | rfl | rfl<;>exact⟨_,rfl⟩
theorem xc{α:Type}{f:α->List D}{xs:List α}{i:Nat}{a:α}(h:xs[i]?=some a):(xs.take (i+1)).map f=(xs.take i).map f++[f a]:=by simp[vW,h]
theorem nl{l:List (List D)}{k m:Nat}(h:l.length*k<=m):(([]:List (List D)).length+l.length)*k<=m:=by simpa using h
theorem jJ{l:List (List D)}{m:Nat}(h:l.length<=m):([]:List (List D)).length+l.length<=m:=by simpa using h
theorem bX.Om{g:bX}(h:g.sz<=8388608){x:Node}(ag:x∈g.nodes):x.sz<=8388608:=tx (sz:=Node.sz) (xs:=g.nodes) (m:=8388608) (by simp only[bX.sz]at h;omega) ag
theorem bX.On{g:bX}(h:g.sz<=8388608):g.nodes.length<=8388608:=by simp only[bX.sz,fb]at h;omega
theorem bd.AQ{c:bd}(h:c.sz<=8388608){w:aS}(hw:w∈c.az):w.sz<=8388608:=tx (sz:=aS.sz) (xs:=c.az) (m:=8388608) (by simp only[bd.sz]at h;omega) hw
theorem bd.Hv{c:bd}(h:c.sz<=8388608){w:bD}(hw:w∈c.bZ):w.sz<=8388608:=tx (sz:=bD.sz) (xs:=c.bZ) (m:=8388608) (by simp only[bd.sz]at h;omega) hw
theorem bd.lL{c:bd}(h:c.sz<=8388608):c.aF.sz<=8388608:=by simp only[bd.sz]at h;omega
theorem ad6(x:Node)(h:x.sz<=8388608):av 276 [.agg x.e] [.agg x.e]:=by
 simp only[Node.sz]at h;exact aeE ⟨nl (by simp;omega),jJ (by simp;omega),yi _,aa⟩
theorem ad7(x:bD)(h:x.sz<=8388608):av 256 [.agg x.e] [.agg x.e]:=
 aeI ⟨CR x.queue h,aa⟩
theorem D6(x:bD)(h:x.sz<=8388608):av 279 [.agg x.e] [.agg x.e]:=by
 simp only[bD.sz]at h;exact aeP ⟨nl (by simp;omega),jJ (by simp;omega),cf _ aG.flat _,aa⟩
theorem JH(x:aS)(h:x.sz<=8388608):av 255 [.agg x.e] [.agg x.e]:=by
 simp only[aS.sz]at h;exact aeJ ⟨CR x.queue (by omega),CR x.cm (by omega),CR x.b8 (by omega),tB x.cells (by omega),nl (by simp;omega),jJ (by simp;omega),yi _,nl (by simp;omega),jJ (by simp;omega),yh _,nl (by simp;omega),jJ (by simp;omega),yh _,nl (by simp;omega),jJ (by simp;omega),cf _ cD.flat _,aa⟩
theorem xd(x:aS)(h:x.sz<=8388608):av 174 [.agg x.e] [.agg x.e]:=by
 simp only[aS.sz]at h;exact aeT ⟨nl (by simp;omega),jJ (by simp;omega),cf _ aG.flat _,nl (by simp;omega),jJ (by simp;omega),cf _ aG.flat _,nl (by simp;omega),jJ (by simp;omega),cf _ aG.flat _,nl (by simp;omega),jJ (by simp;omega),cf _ Cell.flat _,nl (by simp;omega),jJ (by simp;omega),yi _,nl (by simp;omega),jJ (by simp;omega),yh _,nl (by simp;omega),jJ (by simp;omega),yh _,nl (by simp;omega),jJ (by simp;omega),cf _ cD.flat _,aa⟩
theorem ad8(g:bX)(au:g.sz<=8388608):av 181 [.agg g.e] [.agg g.e]:=by
 have aW:=bX.On au;have l:=eY (P:=prog) (c:=(aq f181 0)) (cM 0) g.nodes.length (fun i:Nat=>AA (g.nodes.map Node.e) i ((g.nodes.take i).map Node.e) g.az g.cap 0 0) (fun i hi=>by
  obtain⟨a,ah⟩:=c0 hi;rw[xc ah];exact aeF ⟨b' hi,bF,bI hi,bG Node.e ah,ad6 a (bX.Om au (eA ah)),by simp;omega,by simp;omega,df hi aW,aa⟩) (aeG ⟨dG,aa⟩)
 rw[k3]at l;exact aeH ⟨l,aa⟩
theorem RK(g:bX)(au:g.sz<=8388608):av 123 [.agg g.e] [.agg g.e]:=by
 have aW:=bX.On au;have l:=eY (P:=prog) (c:=(aq f123 0)) (cM 0) g.nodes.length (fun i:Nat=>AE i ((g.nodes.take i).map Node.e) g.az g.cap 0 0 (g.nodes.map Node.e) g.az g.cap) (fun i hi=>by
  obtain⟨a,ah⟩:=c0 hi;have aj:=bX.Om au (eA ah);simp only[Node.sz]at aj;rw[xc ah];exact aeQ ⟨b' hi,bF,bI hi,bG Node.e ah,nl (by simp;omega),jJ (by simp;omega),yi _,by simp;omega,by simp;omega,df hi aW,aa⟩) (aeR ⟨dG,aa⟩)
 rw[k3]at l;exact aeS ⟨l,aa⟩
theorem RL(c:bd)(ai:c.sz<=8388608):av 144 [.agg c.e] [.agg c.e]:=by
 have hw:=bd.AP ai;have al:=bd.Cw ai;have bQ:c.tokens.length<=8388608:=by simp only[bd.sz,fb]at ai;omega
 have ag:c.news.length<=8388608:=by simp only[bd.sz,fb]at ai;omega
 have fx:=eY (P:=prog) (c:=(aq f144 0)) (cM 0) c.az.length (fun i:Nat=>AB (c.az.map aS.e) i (c.aF.nodes.map Node.e) c.aF.az c.aF.cap ((c.az.take i).map aS.e) (c.tokens.map b0.e) (c.news.map ca.e) 0 0 (c.aF.nodes.map Node.e) c.aF.az c.aF.cap (c.az.map aS.e) (c.bZ.map bD.e) (c.tokens.map b0.e) (c.news.map ca.e)) (fun i hi=>by
  obtain⟨a,ah⟩:=c0 hi;rw[xc ah];exact aeK ⟨b' hi,bF,bI hi,bG aS.e ah,JH a (bd.AQ ai (eA ah)),by simp;omega,by simp;omega,df hi hw,aa⟩) (aeL ⟨dG,aa⟩)
 have lk:=eY (P:=prog) (c:=(aq f144 1)) (cM 2) c.bZ.length (fun i:Nat=>AD (c.bZ.map bD.e) i (c.aF.nodes.map Node.e) c.aF.az c.aF.cap (c.az.map aS.e) ((c.bZ.take i).map bD.e) (c.tokens.map b0.e) (c.news.map ca.e) 0 0) (fun i hi=>by
  obtain⟨a,ah⟩:=c0 hi;rw[xc ah];exact aeM ⟨b' hi,bF,bI hi,bG bD.e ah,ad7 a (bd.Hv ai (eA ah)),by simp;omega,by simp;omega,df hi al,aa⟩) (aeN ⟨dG,aa⟩)
 rw[k3]at fx lk;exact aeO ⟨ad8 c.aF (bd.lL ai),nl (by simp;omega),jJ (by simp;omega),cf _ b0.flat _,nl (by simp;omega),jJ (by simp;omega),cf _ ca.flat _,fx,lk,aa⟩
theorem afz(c:bd)(ai:c.sz<=8388608):av 186 [.agg c.e] [.agg c.e]:=by
 have hw:=bd.AP ai;have al:=bd.Cw ai;have bQ:c.tokens.length<=8388608:=by simp only[bd.sz,fb]at ai;omega
 have ag:c.news.length<=8388608:=by simp only[bd.sz,fb]at ai;omega
 have fx:=eY (P:=prog) (c:=(aq f186 0)) (cM 0) c.az.length (fun i:Nat=>AF i (c.aF.nodes.map Node.e) c.aF.az c.aF.cap ((c.az.take i).map aS.e) (c.tokens.map b0.e) (c.news.map ca.e) 0 0 (c.aF.nodes.map Node.e) c.aF.az c.aF.cap (c.az.map aS.e) (c.bZ.map bD.e) (c.tokens.map b0.e) (c.news.map ca.e)) (fun i hi=>by
  obtain⟨a,ah⟩:=c0 hi;rw[xc ah];exact aeU ⟨b' hi,bF,bI hi,bG aS.e ah,xd a (bd.AQ ai (eA ah)),by simp;omega,by simp;omega,df hi hw,aa⟩) (aeV ⟨dG,aa⟩)
 have lk:=eY (P:=prog) (c:=(aq f186 1)) (cM 2) c.bZ.length (fun i:Nat=>zO i (c.aF.nodes.map Node.e) c.aF.az c.aF.cap (c.az.map aS.e) ((c.bZ.take i).map bD.e) (c.tokens.map b0.e) (c.news.map ca.e) 0 0 (c.aF.nodes.map Node.e) c.aF.az c.aF.cap (c.az.map aS.e) (c.bZ.map bD.e) (c.tokens.map b0.e) (c.news.map ca.e)) (fun i hi=>by
  obtain⟨a,ah⟩:=c0 hi;rw[xc ah];exact aeW ⟨b' hi,bF,bI hi,bG bD.e ah,D6 a (bd.Hv ai (eA ah)),by simp;omega,by simp;omega,df hi al,aa⟩) (aeX ⟨dG,aa⟩)
 rw[k3]at fx lk;exact aeY ⟨RK c.aF (bd.lL ai),nl (by simp;omega),jJ (by simp;omega),cf _ b0.flat _,nl (by simp;omega),jJ (by simp;omega),cf _ ca.flat _,fx,lk,aa⟩
end Go.Proofs.YtdchjefneblpgaaGreat
namespace Go.Proofs.YtdchjefneblpgaaGreat
open Go.Sx Go.RowKit Go.Shelf Go.Lib Go.Proofs.Tryz
theorem cell_of_heap{w:World}{b:Nat}{arr:Array Value}{tb:TypeId}(ar:w.heap[b]?=some (.cells arr tb (0,0))){x:Nat}{v:Value}(h:arr[x]?=some v):w.cell? ⟨b,x,none⟩=some v:=by
 simp[World.cell?,ar,h]
theorem aG.BW(xs:List aG):xs.map aG.e=gb (xs.map fun r=>r.e.map D.AO):=by
 simp only[gb,List.map_map];rfl
theorem ca.BW(xs:List ca):xs.map ca.e=gb (xs.map fun r=>r.e.map D.AO):=by
 simp only[gb,List.map_map];rfl
end Go.Proofs.YtdchjefneblpgaaGreat
namespace Go.Proofs.YtdchjefneblpgaaGreat
open Go.Sx Go.RowKit Go.Proofs.Tryz
def zQ(w:Nat):List dd:=[⟨1,w,0⟩,⟨3,w,0⟩,⟨2,w,0⟩,⟨7,w,0⟩]
def sq(a b:Nat):List dd:=if a=b then [] else [⟨4,a,b⟩,⟨5,a,b⟩]
def sc(n:Nat):List dd:=(List.range n).flatMap zQ
def sd(a n:Nat):List dd:=(List.range n).flatMap (sq a)
def se(m n:Nat):List dd:=(List.range n).flatMap fun a=>sd a m
def oneOf(e:Nat):List dd:=[⟨6,e,0⟩]
def vq(n:Nat):List dd:=(List.range n).flatMap oneOf
def nX(c:bd):List dd:=sc (hQ c.aF.az 0 4).toNat++se (hQ c.aF.az 0 4).toNat (hQ c.aF.az 0 4).toNat++vq 4
theorem afA(n:Nat):sc (n+1)=sc n++zQ n:=by simp[sc,List.range_succ]
theorem afB(a n:Nat):sd a (n+1)=sd a n++sq a n:=by simp[sd,List.range_succ]
theorem afC(m n:Nat):se m (n+1)=se m n++sd n m:=by simp[se,List.range_succ]
theorem afD(n:Nat):vq (n+1)=vq n++[⟨6,n,0⟩]:=by simp[vq,List.range_succ,oneOf]
theorem JI(n:Nat):(sc n).length<=n*4:=by
 have h:=xy zQ 4 (fun _=>by simp[zQ]) (List.range n);rwa[xY]at h
theorem RM(a n:Nat):(sd a n).length<=n*2:=by
 have h:=xy (sq a) 2 (fun b=>by unfold sq;split<;>simp) (List.range n);rwa[xY]at h
theorem JJ(m n:Nat):(se m n).length<=n*(m*2):=by
 have h:=xy (fun a=>sd a m) (m*2) (fun a=>RM a m) (List.range n);rwa[xY]at h
theorem RN(n:Nat):(vq n).length<=n*1:=by
 have h:=xy oneOf 1 (fun _=>by simp[oneOf]) (List.range n);rwa[xY]at h
theorem RO(n:Int):∃k:Nat,hQ n 0 4=k/\k<=4:=by
 refine⟨(hQ n 0 4).toNat,?_,?_⟩<;>(unfold hQ;simp only[show ¬(4:Int)<0 by omega,lD];split<;>(try split)<;>omega)
theorem HA(a b:Nat)(ah:a<=4)(ar:b<=4):a*(b*2)<=32:=by
 have:=Nat.mul_le_mul ah (gR 2 ar);omega
theorem RP(c:bd):(nX c).length<=100:=by
 obtain⟨k,hk,aH⟩:=RO c.aF.az;unfold nX;rw[hk];have a:=JI k;have b:=JJ k k;have e:=RN 4;have m:=HA k k aH aH;simp only[km,oR];omega
theorem RQ(c:bd):av 129 [.agg c.e] [.one (.J 3 ((nX c).map dd.e))]:=by
 have b:=Dj c.aF.az 0 4;obtain⟨k,hk,aH⟩:=RO c.aF.az;unfold nX;rw[hk]at b ⊢;have auv:=JI k;have auw:=JJ k k;have m:=HA k k aH aH;have fx:=eY (P:=prog) (c:=(aq f129 0)) (cM 0) k (fun i:Nat=>Af k i ((sc i).map dd.e)) (fun i hi=>by
  have h1:=JI i;rw[afA,hx];exact alG ⟨dW (by omega),by simp;omega,by simp;omega,cf dd.e dd.flat (zQ i),⟨by omega,by omega⟩,aa⟩) (alH ⟨eT (by omega),aa⟩)
 have zb:=fun (a:Nat) (ah:a<k)=>eY (P:=prog) (c:=(aq f129 2)) (cM 4) k (fun i:Nat=>vJ k a i ((sc k++se k a++sd a i).map dd.e)) (fun i hi=>by
  have h1:=RM a i;have U:=JJ k a;have aw:=HA a k (by omega) aH;rw[afB,<-t',hx (l₂:=sq a i)];by_cases ho:a=i
  ·have e:(sq a i).map dd.e=[]:=by simp[sq,ho]
   rw[e,lz];exact am9 ⟨dW (by omega),by simp[ho],⟨by omega,by omega⟩,aa⟩
  have e:(sq a i).map dd.e=[[I 4,I a,I i],[I 5,I a,I i]]:=by simp[sq,ho,dd.e]
  rw[e];have bT:Flat [[I 4,I a,I i],[I 5,I a,I i]]:=by rw[<-e];exact cf dd.e dd.flat _
  exact alI ⟨dW (by omega),by simp;omega,by simp;omega,by simp;omega,bT,⟨by omega,by omega⟩,aa⟩) (ana ⟨eT (by omega),aa⟩)
 have lk:=eY (P:=prog) (c:=(aq f129 1)) (cM 2) k (fun i:Nat=>Ag k i ((sc k++se k i).map dd.e)) (fun i hi=>by
  have h:=zb i hi;rw[afC,<-t'];simp only[sd,MG,MF,lz]at h;exact anb ⟨dW (by omega),h,⟨by omega,by omega⟩,aa⟩) (anc ⟨eT (by omega),aa⟩)
 have Og:=eY (P:=prog) (c:=(aq f129 3)) (cM 6) 4 (fun i:Nat=>Ah i ((sc k++se k k++vq i).map dd.e)) (fun i hi=>by
  have h1:=RN i;rw[afD,<-t',hx (l₂:=[_])];exact ane ⟨dW (by omega),by simp;omega,by simp;omega,cf dd.e dd.flat [⟨6,i,0⟩],⟨by omega,by omega⟩,aa⟩) (ang ⟨eT (by omega),aa⟩)
 simp only[se,MG,MF,lz]at lk;simp only[vq,MG,MF,lz]at Og;rw[oR];exact anh ⟨b,fx,lk,Og,aa⟩
