import Derived.Test.YtdchjefneblpgaaGreatQ3
import Derived.Test.YtdchjefneblpgaaGreatP119
import Derived.Test.YtdchjefneblpgaaGreatGV
import Derived.WalkKit
import Derived.Deep.RegionLaw
import Derived.Shelf.RegionOpenPlain
import Derived.Lib.SliceRun
import Derived.Deep.LoopGhost
import Derived.Lib.Walk
set_option linter.unusedVariables false
set_option linter.unusedSimpArgs false
namespace Go.Proofs.YtdchjefneblpgaaGreat
open Go.Sx Go.RowKit Go.Proofs.Tryz
theorem Gn(xs:List Int):Flat (xs.map cv):=cn cv (fun _ _ ax=>⟨_,List.mem_singleton.1 ax⟩) xs
theorem Gm(xs:List Bool):Flat (xs.map c6):=cn c6 (fun _ _ ax=>⟨_,List.mem_singleton.1 ax⟩) xs
theorem dA.flat(r:dA):∀d∈r.e,∃x,d=.v x:=by
 intro d ax;simp only[dA.e,dG,mr,or_false]at ax;rcases ax with rfl | rfl<;>exact⟨_,rfl⟩
theorem cA.flat(r:cA):∀d∈r.e,∃x,d=.v x:=by
 intro d ax;simp only[cA.e,dG,mr,or_false]at ax;rcases ax with rfl | rfl | rfl<;>exact⟨_,rfl⟩
theorem b'.flat(r:b'):∀d∈r.e,∃x,d=.v x:=by
 intro d ax;simp only[b'.e,dG,mr,or_false]at ax;rcases ax with rfl | rfl | rfl | rfl | rfl<;>exact⟨_,rfl⟩
theorem Lu{α:Type}{f:α->List D}{xs:List α}{i:Nat}{a:α}(h:xs[i]?=some a):(xs.take (i+1)).map f=(xs.take i).map f++[f a]:=by simp[lK,h]
theorem nl{l:List (List D)}{k m:Nat}(h:l.length*k<=m):(([]:List (List D)).length+l.length)*k<=m:=by simpa using h
theorem nI{l:List (List D)}{m:Nat}(h:l.length<=m):([]:List (List D)).length+l.length<=m:=by simpa using h
theorem bW.Zf{g:bW}(h:g.sz<=8388608){x:Node}(aa:x∈g.nodes):x.sz<=8388608:=EO (sz:=Node.sz) (xs:=g.nodes) (m:=8388608) (by simp only[bW.sz]at h;omega) aa
theorem bW.Zh{g:bW}(h:g.sz<=8388608):g.nodes.length<=8388608:=by simp only[bW.sz,fp]at h;omega
variable{c:aU}
theorem aU.Vh(h:c.sz<=8388608){w:aP}(hw:w∈c.ap):w.sz<=8388608:=EO (sz:=aP.sz) (xs:=c.ap) (m:=8388608) (by simp only[aU.sz]at h;omega) hw
theorem aU.On(h:c.sz<=8388608){w:bC}(hw:w∈c.bQ):w.sz<=8388608:=EO (sz:=bC.sz) (xs:=c.bQ) (m:=8388608) (by simp only[aU.sz]at h;omega) hw
theorem aU.vj(h:c.sz<=8388608):c.aF.sz<=8388608:=by simp only[aU.sz]at h;omega
theorem D8(x:bC)(h:x.sz<=8388608):aK 279 [.agg x.e] [.agg x.e]:=by
 simp only[bC.sz]at h;exact adQ ⟨nl (by simp;omega),nI (by simp;omega),cn _ aA.flat _,aj⟩
theorem yQ(x:aP)(h:x.sz<=8388608):aK 174 [.agg x.e] [.agg x.e]:=by
 simp only[aP.sz]at h;exact adU ⟨nl (by simp;omega),nI (by simp;omega),cn _ aA.flat _,nl (by simp;omega),nI (by simp;omega),cn _ aA.flat _,nl (by simp;omega),nI (by simp;omega),cn _ aA.flat _,nl (by simp;omega),nI (by simp;omega),cn _ Cell.flat _,nl (by simp;omega),nI (by simp;omega),Gn _,nl (by simp;omega),nI (by simp;omega),Gm _,nl (by simp;omega),nI (by simp;omega),Gm _,nl (by simp;omega),nI (by simp;omega),cn _ dA.flat _,aj⟩
theorem S1(g:bW)(ao:g.sz<=8388608):aK 123 [.agg g.e] [.agg g.e]:=by
 have aL:=bW.Zh ao;have l:=ef (P:=prog) (c:=(az f123 0)) (cL 0) g.nodes.length (fun i:Nat=>Bz i ((g.nodes.take i).map Node.e) g.ap g.cap 0 0 (g.nodes.map Node.e) g.ap g.cap) (fun i hi=>by
  obtain⟨a,ag⟩:=dv hi;have ae:=bW.Zf ao (c8 ag);simp only[Node.sz]at ae;rw[Lu ag];exact adR ⟨cg hi,bG,bJ hi,bF Node.e ag,nl (by simp;omega),nI (by simp;omega),Gn _,by simp;omega,by simp;omega,cY hi aL,aj⟩) (adS ⟨dH,aj⟩)
 rw[hP]at l;exact adT ⟨l,aj⟩
theorem afn(c:aU)(ad:c.sz<=8388608):aK 186 [.agg c.e] [.agg c.e]:=by
 have hw:=aU.xe ad;have af:=aU.xY ad;have bt:c.tokens.length<=8388608:=by simp only[aU.sz,fp]at ad;omega
 have aa:c.news.length<=8388608:=by simp only[aU.sz,fp]at ad;omega
 have ej:=ef (P:=prog) (c:=(az f186 0)) (cL 0) c.ap.length (fun i:Nat=>BA i (c.aF.nodes.map Node.e) c.aF.ap c.aF.cap ((c.ap.take i).map aP.e) (c.tokens.map b'.e) (c.news.map cA.e) 0 0 (c.aF.nodes.map Node.e) c.aF.ap c.aF.cap (c.ap.map aP.e) (c.bQ.map bC.e) (c.tokens.map b'.e) (c.news.map cA.e)) (fun i hi=>by
  obtain⟨a,ag⟩:=dv hi;rw[Lu ag];exact adV ⟨cg hi,bG,bJ hi,bF aP.e ag,yQ a (aU.Vh ad (c8 ag)),by simp;omega,by simp;omega,cY hi hw,aj⟩) (adW ⟨dH,aj⟩)
 have gT:=ef (P:=prog) (c:=(az f186 1)) (cL 2) c.bQ.length (fun i:Nat=>BB i (c.aF.nodes.map Node.e) c.aF.ap c.aF.cap (c.ap.map aP.e) ((c.bQ.take i).map bC.e) (c.tokens.map b'.e) (c.news.map cA.e) 0 0 (c.aF.nodes.map Node.e) c.aF.ap c.aF.cap (c.ap.map aP.e) (c.bQ.map bC.e) (c.tokens.map b'.e) (c.news.map cA.e)) (fun i hi=>by
  obtain⟨a,ag⟩:=dv hi;rw[Lu ag];exact adX ⟨cg hi,bG,bJ hi,bF bC.e ag,D8 a (aU.On ad (c8 ag)),by simp;omega,by simp;omega,cY hi af,aj⟩) (adY ⟨dH,aj⟩)
 rw[hP]at ej gT;exact adZ ⟨S1 c.aF (aU.vj ad),nl (by simp;omega),nI (by simp;omega),cn _ b'.flat _,nl (by simp;omega),nI (by simp;omega),cn _ cA.flat _,ej,gT,aj⟩
end Go.Proofs.YtdchjefneblpgaaGreat
namespace Go.Proofs.YtdchjefneblpgaaGreat
open Go.Sx Go.RowKit Go.Shelf Go.Lib Go.Proofs.Tryz
theorem cell_of_heap{w:World}{b:Nat}{arr:Array Value}{tb:TypeId}(ah:w.heap[b]?=some (.cells arr tb (0,0))){x:Nat}{v:Value}(h:arr[x]?=some v):w.cell? ⟨b,x,none⟩=some v:=by
 simp[World.cell?,ah,h]
theorem aA.CF(xs:List aA):xs.map aA.e=fE (xs.map fun r=>r.e.map D.tn):=by
 simp only[fE,List.map_map];rfl
theorem cA.CF(xs:List cA):xs.map cA.e=fE (xs.map fun r=>r.e.map D.tn):=by
 simp only[fE,List.map_map];rfl
end Go.Proofs.YtdchjefneblpgaaGreat
namespace Go.Proofs.YtdchjefneblpgaaGreat
open Go.Sx Go.RowKit Go.Proofs.Tryz
def ql(w:Nat):List cE:=[⟨1,w,0⟩,⟨3,w,0⟩,⟨2,w,0⟩,⟨7,w,0⟩]
def na(a b:Nat):List cE:=if a=b then [] else [⟨4,a,b⟩,⟨5,a,b⟩]
def pz(n:Nat):List cE:=(List.range n).flatMap ql
def rK(a n:Nat):List cE:=(List.range n).flatMap (na a)
def pA(m n:Nat):List cE:=(List.range n).flatMap fun a=>rK a m
def oneOf(e:Nat):List cE:=[⟨6,e,0⟩]
def wY(n:Nat):List cE:=(List.range n).flatMap oneOf
def gb(c:aU):List cE:=pz (hf c.aF.ap 0 4).toNat++pA (hf c.aF.ap 0 4).toNat (hf c.aF.ap 0 4).toNat++wY 4
theorem afo(n:Nat):pz (n+1)=pz n++ql n:=by simp[pz,List.range_succ]
theorem afp(a n:Nat):rK a (n+1)=rK a n++na a n:=by simp[rK,List.range_succ]
theorem afq(m n:Nat):pA m (n+1)=pA m n++rK n m:=by simp[pA,List.range_succ]
theorem afr(n:Nat):wY (n+1)=wY n++[⟨6,n,0⟩]:=by simp[wY,List.range_succ,oneOf]
theorem Lv(n:Nat):(pz n).length<=n*4:=by
 have h:=yA ql 4 (fun _=>by simp[ql]) (List.range n);rwa[u3]at h
theorem S2(a n:Nat):(rK a n).length<=n*2:=by
 have h:=yA (na a) 2 (fun b=>by unfold na;split<;>simp) (List.range n);rwa[u3]at h
theorem Lw(m n:Nat):(pA m n).length<=n*(m*2):=by
 have h:=yA (fun a=>rK a m) (m*2) (fun a=>S2 a m) (List.range n);rwa[u3]at h
theorem S3(n:Nat):(wY n).length<=n*1:=by
 have h:=yA oneOf 1 (fun _=>by simp[oneOf]) (List.range n);rwa[u3]at h
theorem S4(n:Int):∃k:Nat,hf n 0 4=k/\k<=4:=by
 refine⟨(hf n 0 4).toNat,?_,?_⟩<;>(unfold hf;simp only[show ¬(4:Int)<0 by omega,j4];split<;>(try split)<;>omega)
theorem HQ(a b:Nat)(ag:a<=4)(ah:b<=4):a*(b*2)<=32:=by
 have:=Nat.mul_le_mul ag (gW 2 ah);omega
theorem S5(c:aU):(gb c).length<=100:=by
 obtain⟨k,hk,aH⟩:=S4 c.aF.ap;unfold gb;rw[hk];have a:=Lv k;have b:=Lw k k;have e:=S3 4;have m:=HQ k k aH aH;simp only[eK,jh];omega
theorem S6(c:aU):aK 129 [.agg c.e] [.one (.J 3 ((gb c).map cE.e))]:=by
 have b:=EX c.aF.ap 0 4;obtain⟨k,hk,aH⟩:=S4 c.aF.ap;unfold gb;rw[hk]at b ⊢;have ar4:=Lv k;have ar5:=Lw k k;have m:=HQ k k aH aH;have ej:=ef (P:=prog) (c:=(az f129 0)) (cL 0) k (fun i:Nat=>AU k i ((pz i).map cE.e)) (fun i hi=>by
  have h1:=Lv i;rw[afo,e3];exact akK ⟨dU (by omega),by simp;omega,by simp;omega,cn cE.e cE.flat (ql i),⟨by omega,by omega⟩,aj⟩) (akL ⟨eX (by omega),aj⟩)
 have rh:=fun (a:Nat) (ag:a<k)=>ef (P:=prog) (c:=(az f129 2)) (cL 4) k (fun i:Nat=>wo k a i ((pz k++pA k a++rK a i).map cE.e)) (fun i hi=>by
  have h1:=S2 a i;have U:=Lw k a;have au:=HQ a k (by omega) aH;rw[afp,<-mo,e3 (l₂:=na a i)];by_cases dW:a=i
  ·have e:(na a i).map cE.e=[]:=by simp[na,dW]
   rw[e,ix];exact akd ⟨dU (by omega),by simp[dW],⟨by omega,by omega⟩,aj⟩
  have e:(na a i).map cE.e=[[I 4,I a,I i],[I 5,I a,I i]]:=by simp[na,dW,cE.e]
  rw[e];have bl:Flat [[I 4,I a,I i],[I 5,I a,I i]]:=by rw[<-e];exact cn cE.e cE.flat _
  exact akM ⟨dU (by omega),by simp;omega,by simp;omega,by simp;omega,bl,⟨by omega,by omega⟩,aj⟩) (ake ⟨eX (by omega),aj⟩)
 have gT:=ef (P:=prog) (c:=(az f129 1)) (cL 2) k (fun i:Nat=>AV k i ((pz k++pA k i).map cE.e)) (fun i hi=>by
  have h:=rh i hi;rw[afq,<-mo];simp only[rK,FQ,xi,ix]at h;exact akf ⟨dU (by omega),h,⟨by omega,by omega⟩,aj⟩) (akg ⟨eX (by omega),aj⟩)
 have Oh:=ef (P:=prog) (c:=(az f129 3)) (cL 6) 4 (fun i:Nat=>AW i ((pz k++pA k k++wY i).map cE.e)) (fun i hi=>by
  have h1:=S3 i;rw[afr,<-mo,e3 (l₂:=[_])];exact akh ⟨dU (by omega),by simp;omega,by simp;omega,cn cE.e cE.flat [⟨6,i,0⟩],⟨by omega,by omega⟩,aj⟩) (aki ⟨eX (by omega),aj⟩)
 simp only[pA,FQ,xi,ix]at gT;simp only[wY,FQ,xi,ix]at Oh;rw[jh];exact akj ⟨b,ej,gT,Oh,aj⟩
