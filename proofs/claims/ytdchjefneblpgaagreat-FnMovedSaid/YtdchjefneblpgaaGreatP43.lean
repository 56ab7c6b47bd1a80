import Derived.Test.YtdchjefneblpgaaGreatGV
import Derived.WalkKit
import Derived.Deep.RegionLaw
import Derived.Shelf.RegionOpenPlain
import Derived.Lib.SliceRun
import Derived.Deep.LoopGhost
import Derived.Lib.Walk
import Derived.Test.YtdchjefneblpgaaGreatP18
set_option linter.unusedVariables false
set_option linter.unusedSimpArgs false
namespace Go.Proofs.YtdchjefneblpgaaGreat
open Go.Sx Go.RowKit Go.Proofs.Tryz
theorem yq(xs:List Int):Flat (xs.map a8):=cr a8 (fun _ _ aE=>⟨_,List.mem_singleton.1 aE⟩) xs
theorem yp(xs:List Bool):Flat (xs.map cu):=cr cu (fun _ _ aE=>⟨_,List.mem_singleton.1 aE⟩) xs
theorem cD.flat(r:cD):∀d∈r.e,∃x,d=.v x:=by
 intro d aE;simp only[cD.e,et,mX,or_false]at aE;rcases aE with rfl | rfl<;>exact⟨_,rfl⟩
theorem cb.flat(r:cb):∀d∈r.e,∃x,d=.v x:=by
 intro d aE;simp only[cb.e,et,mX,or_false]at aE;rcases aE with rfl | rfl | rfl<;>exact⟨_,rfl⟩
theorem b2.flat(r:b2):∀d∈r.e,∃x,d=.v x:=by
 intro d aE;simp only[b2.e,et,mX,or_false]at aE;rcases aE with rfl | rfl | rfl | rfl | rfl<;>exact⟨_,rfl⟩
theorem xT{α:Type}{f:α->List D}{xs:List α}{i:Nat}{a:α}(h:xs[i]?=some a):(xs.take (i+1)).map f=(xs.take i).map f++[f a]:=by simp[sE,h]
theorem nl{l:List (List D)}{k m:Nat}(h:l.length*k<=m):(([]:List (List D)).length+l.length)*k<=m:=by simpa using h
theorem jA{l:List (List D)}{m:Nat}(h:l.length<=m):([]:List (List D)).length+l.length<=m:=by simpa using h
theorem b1.Of{g:b1}(h:g.sz<=8388608){x:Node}(ag:x∈g.nodes):x.sz<=8388608:=vP (sz:=Node.sz) (xs:=g.nodes) (m:=8388608) (by simp only[b1.sz]at h;omega) ag
theorem b1.Og{g:b1}(h:g.sz<=8388608):g.nodes.length<=8388608:=by simp only[b1.sz,eZ]at h;omega
variable{c:bb}
theorem bb.Lt(h:c.sz<=8388608){w:aP}(hw:w∈c.ay):w.sz<=8388608:=vP (sz:=aP.sz) (xs:=c.ay) (m:=8388608) (by simp only[bb.sz]at h;omega) hw
theorem bb.Hy(h:c.sz<=8388608){w:bt}(hw:w∈c.bV):w.sz<=8388608:=vP (sz:=bt.sz) (xs:=c.bV) (m:=8388608) (by simp only[bb.sz]at h;omega) hw
theorem bb.nj(h:c.sz<=8388608):c.aF.sz<=8388608:=by simp only[bb.sz]at h;omega
theorem aeN(x:Node)(h:x.sz<=8388608):av 276 [.agg x.e] [.agg x.e]:=by
 simp only[Node.sz]at h;exact ac3 ⟨nl (by simp;omega),jA (by simp;omega),yq _,aa⟩
theorem D'(x:bt)(h:x.sz<=8388608):av 256 [.agg x.e] [.agg x.e]:=
 ac7 ⟨CL x.queue h,aa⟩
theorem Ea(x:bt)(h:x.sz<=8388608):av 279 [.agg x.e] [.agg x.e]:=by
 simp only[bt.sz]at h;exact adg ⟨nl (by simp;omega),jA (by simp;omega),cr _ aA.flat _,aa⟩
theorem zX(x:aP)(h:x.sz<=8388608):av 255 [.agg x.e] [.agg x.e]:=by
 simp only[aP.sz]at h;exact ac8 ⟨CL x.queue (by omega),CL x.cg (by omega),CL x.b8 (by omega),aa8 x.cells (by omega),nl (by simp;omega),jA (by simp;omega),yq _,nl (by simp;omega),jA (by simp;omega),yp _,nl (by simp;omega),jA (by simp;omega),yp _,nl (by simp;omega),jA (by simp;omega),cr _ cD.flat _,aa⟩
theorem xU(x:aP)(h:x.sz<=8388608):av 174 [.agg x.e] [.agg x.e]:=by
 simp only[aP.sz]at h;exact adk ⟨nl (by simp;omega),jA (by simp;omega),cr _ aA.flat _,nl (by simp;omega),jA (by simp;omega),cr _ aA.flat _,nl (by simp;omega),jA (by simp;omega),cr _ aA.flat _,nl (by simp;omega),jA (by simp;omega),cr _ Cell.flat _,nl (by simp;omega),jA (by simp;omega),yq _,nl (by simp;omega),jA (by simp;omega),yp _,nl (by simp;omega),jA (by simp;omega),yp _,nl (by simp;omega),jA (by simp;omega),cr _ cD.flat _,aa⟩
theorem aeO(g:b1)(au:g.sz<=8388608):av 181 [.agg g.e] [.agg g.e]:=by
 have aT:=b1.Og au;have l:=e7 (P:=prog) (c:=(ar f181 0)) (cM 0) g.nodes.length (fun i:Nat=>AK (g.nodes.map Node.e) i ((g.nodes.take i).map Node.e) g.ay g.cap 0 0) (fun i hi=>by
  obtain⟨a,aj⟩:=cY hi;rw[xT aj];exact ac4 ⟨cf hi,bG,bL hi,bF Node.e aj,aeN a (b1.Of au (eX aj)),by simp;omega,by simp;omega,dw hi aT,aa⟩) (ac5 ⟨dU,aa⟩)
 rw[k1]at l;exact ac6 ⟨l,aa⟩
theorem RC(g:b1)(au:g.sz<=8388608):av 123 [.agg g.e] [.agg g.e]:=by
 have aT:=b1.Og au;have l:=e7 (P:=prog) (c:=(ar f123 0)) (cM 0) g.nodes.length (fun i:Nat=>AN i ((g.nodes.take i).map Node.e) g.ay g.cap 0 0 (g.nodes.map Node.e) g.ay g.cap) (fun i hi=>by
  obtain⟨a,aj⟩:=cY hi;have ai:=b1.Of au (eX aj);simp only[Node.sz]at ai;rw[xT aj];exact adh ⟨cf hi,bG,bL hi,bF Node.e aj,nl (by simp;omega),jA (by simp;omega),yq _,by simp;omega,by simp;omega,dw hi aT,aa⟩) (adi ⟨dU,aa⟩)
 rw[k1]at l;exact adj ⟨l,aa⟩
theorem Eb(c:bb)(ah:c.sz<=8388608):av 144 [.agg c.e] [.agg c.e]:=by
 have hw:=bb.x3 ah;have ak:=bb.zl ah;have bR:c.tokens.length<=8388608:=by simp only[bb.sz,eZ]at ah;omega
 have ag:c.news.length<=8388608:=by simp only[bb.sz,eZ]at ah;omega
 have eP:=e7 (P:=prog) (c:=(ar f144 0)) (cM 0) c.ay.length (fun i:Nat=>AL (c.ay.map aP.e) i (c.aF.nodes.map Node.e) c.aF.ay c.aF.cap ((c.ay.take i).map aP.e) (c.tokens.map b2.e) (c.news.map cb.e) 0 0 (c.aF.nodes.map Node.e) c.aF.ay c.aF.cap (c.ay.map aP.e) (c.bV.map bt.e) (c.tokens.map b2.e) (c.news.map cb.e)) (fun i hi=>by
  obtain⟨a,aj⟩:=cY hi;rw[xT aj];exact ac9 ⟨cf hi,bG,bL hi,bF aP.e aj,zX a (bb.Lt ah (eX aj)),by simp;omega,by simp;omega,dw hi hw,aa⟩) (ada ⟨dU,aa⟩)
 have hD:=e7 (P:=prog) (c:=(ar f144 1)) (cM 2) c.bV.length (fun i:Nat=>AM (c.bV.map bt.e) i (c.aF.nodes.map Node.e) c.aF.ay c.aF.cap (c.ay.map aP.e) ((c.bV.take i).map bt.e) (c.tokens.map b2.e) (c.news.map cb.e) 0 0) (fun i hi=>by
  obtain⟨a,aj⟩:=cY hi;rw[xT aj];exact adb ⟨cf hi,bG,bL hi,bF bt.e aj,D' a (bb.Hy ah (eX aj)),by simp;omega,by simp;omega,dw hi ak,aa⟩) (ade ⟨dU,aa⟩)
 rw[k1]at eP hD;exact adf ⟨aeO c.aF (bb.nj ah),nl (by simp;omega),jA (by simp;omega),cr _ b2.flat _,nl (by simp;omega),jA (by simp;omega),cr _ cb.flat _,eP,hD,aa⟩
theorem aeP(c:bb)(ah:c.sz<=8388608):av 186 [.agg c.e] [.agg c.e]:=by
 have hw:=bb.x3 ah;have ak:=bb.zl ah;have bR:c.tokens.length<=8388608:=by simp only[bb.sz,eZ]at ah;omega
 have ag:c.news.length<=8388608:=by simp only[bb.sz,eZ]at ah;omega
 have eP:=e7 (P:=prog) (c:=(ar f186 0)) (cM 0) c.ay.length (fun i:Nat=>AO i (c.aF.nodes.map Node.e) c.aF.ay c.aF.cap ((c.ay.take i).map aP.e) (c.tokens.map b2.e) (c.news.map cb.e) 0 0 (c.aF.nodes.map Node.e) c.aF.ay c.aF.cap (c.ay.map aP.e) (c.bV.map bt.e) (c.tokens.map b2.e) (c.news.map cb.e)) (fun i hi=>by
  obtain⟨a,aj⟩:=cY hi;rw[xT aj];exact adl ⟨cf hi,bG,bL hi,bF aP.e aj,xU a (bb.Lt ah (eX aj)),by simp;omega,by simp;omega,dw hi hw,aa⟩) (adm ⟨dU,aa⟩)
 have hD:=e7 (P:=prog) (c:=(ar f186 1)) (cM 2) c.bV.length (fun i:Nat=>zV i (c.aF.nodes.map Node.e) c.aF.ay c.aF.cap (c.ay.map aP.e) ((c.bV.take i).map bt.e) (c.tokens.map b2.e) (c.news.map cb.e) 0 0 (c.aF.nodes.map Node.e) c.aF.ay c.aF.cap (c.ay.map aP.e) (c.bV.map bt.e) (c.tokens.map b2.e) (c.news.map cb.e)) (fun i hi=>by
  obtain⟨a,aj⟩:=cY hi;rw[xT aj];exact adn ⟨cf hi,bG,bL hi,bF bt.e aj,Ea a (bb.Hy ah (eX aj)),by simp;omega,by simp;omega,dw hi ak,aa⟩) (ado ⟨dU,aa⟩)
 rw[k1]at eP hD;exact adp ⟨RC c.aF (bb.nj ah),nl (by simp;omega),jA (by simp;omega),cr _ b2.flat _,nl (by simp;omega),jA (by simp;omega),cr _ cb.flat _,eP,hD,aa⟩
end Go.Proofs.YtdchjefneblpgaaGreat
namespace Go.Proofs.YtdchjefneblpgaaGreat
open Go.Sx Go.RowKit Go.Shelf Go.Lib Go.Proofs.Tryz
theorem cell_of_heap{w:World}{b:Nat}{arr:Array Value}{tb:TypeId}(aq:w.heap[b]?=some (.cells arr tb (0,0))){x:Nat}{v:Value}(h:arr[x]?=some v):w.cell? ⟨b,x,none⟩=some v:=by
 simp[World.cell?,aq,h]
end Go.Proofs.YtdchjefneblpgaaGreat
namespace Go.Proofs.YtdchjefneblpgaaGreat
open Go.Sx Go.RowKit Go.Proofs.Tryz
def zY(w:Nat):List df:=[⟨1,w,0⟩,⟨3,w,0⟩,⟨2,w,0⟩,⟨7,w,0⟩]
def sB(a b:Nat):List df:=if a=b then [] else [⟨4,a,b⟩,⟨5,a,b⟩]
def sl(n:Nat):List df:=(List.range n).flatMap zY
def sm(a n:Nat):List df:=(List.range n).flatMap (sB a)
def sn(m n:Nat):List df:=(List.range n).flatMap fun a=>sm a m
def oneOf(e:Nat):List df:=[⟨6,e,0⟩]
def vx(n:Nat):List df:=(List.range n).flatMap oneOf
def nY(c:bb):List df:=sl (hT c.aF.ay 0 4).toNat++sn (hT c.aF.ay 0 4).toNat (hT c.aF.ay 0 4).toNat++vx 4
theorem ad0(n:Nat):sl (n+1)=sl n++zY n:=by simp[sl,List.range_succ]
theorem ad1(a n:Nat):sm a (n+1)=sm a n++sB a n:=by simp[sm,List.range_succ]
theorem ad2(m n:Nat):sn m (n+1)=sn m n++sm n m:=by simp[sn,List.range_succ]
theorem ad3(n:Nat):vx (n+1)=vx n++[⟨6,n,0⟩]:=by simp[vx,List.range_succ,oneOf]
theorem KU(n:Nat):(sl n).length<=n*4:=by
 have h:=xI zY 4 (fun _=>by simp[zY]) (List.range n);rwa[ye]at h
theorem RD(a n:Nat):(sm a n).length<=n*2:=by
 have h:=xI (sB a) 2 (fun b=>by unfold sB;split<;>simp) (List.range n);rwa[ye]at h
theorem KV(m n:Nat):(sn m n).length<=n*(m*2):=by
 have h:=xI (fun a=>sm a m) (m*2) (fun a=>RD a m) (List.range n);rwa[ye]at h
theorem RE(n:Nat):(vx n).length<=n*1:=by
 have h:=xI oneOf 1 (fun _=>by simp[oneOf]) (List.range n);rwa[ye]at h
theorem RF(n:Int):∃k:Nat,hT n 0 4=k/\k<=4:=by
 refine⟨(hT n 0 4).toNat,?_,?_⟩<;>(unfold hT;simp only[show ¬(4:Int)<0 by omega,mY];split<;>(try split)<;>omega)
theorem HC(a b:Nat)(aj:a<=4)(aq:b<=4):a*(b*2)<=32:=by
 have:=Nat.mul_le_mul aj (gK 2 aq);omega
theorem RG(c:bb):(nY c).length<=100:=by
 obtain⟨k,hk,aK⟩:=RF c.aF.ay;unfold nY;rw[hk];have a:=KU k;have b:=KV k k;have e:=RE 4;have m:=HC k k aK aK;simp only[hs,l0];omega
theorem RH(c:bb):av 129 [.agg c.e] [.one (.J 3 ((nY c).map df.e))]:=by
 have b:=Dg c.aF.ay 0 4;obtain⟨k,hk,aK⟩:=RF c.aF.ay;unfold nY;rw[hk]at b ⊢;have atL:=KU k;have atM:=KV k k;have m:=HC k k aK aK;have eP:=e7 (P:=prog) (c:=(ar f129 0)) (cM 0) k (fun i:Nat=>Aq k i ((sl i).map df.e)) (fun i hi=>by
  have h1:=KU i;rw[ad0,ha];exact amP ⟨dZ (by omega),by simp;omega,by simp;omega,cr df.e df.flat (zY i),⟨by omega,by omega⟩,aa⟩) (amQ ⟨eD (by omega),aa⟩)
 have oF:=fun (a:Nat) (aj:a<k)=>e7 (P:=prog) (c:=(ar f129 2)) (cM 4) k (fun i:Nat=>vQ k a i ((sl k++sn k a++sm a i).map df.e)) (fun i hi=>by
  have h1:=RD a i;have U:=KV k a;have ax:=HC a k (by omega) aK;rw[ad1,<-re,ha (l₂:=sB a i)];by_cases fc:a=i
  ·have e:(sB a i).map df.e=[]:=by simp[sB,fc]
   rw[e,lu];exact amS ⟨dZ (by omega),by simp[fc],⟨by omega,by omega⟩,aa⟩
  have e:(sB a i).map df.e=[[I 4,I a,I i],[I 5,I a,I i]]:=by simp[sB,fc,df.e]
  rw[e];have bY:Flat [[I 4,I a,I i],[I 5,I a,I i]]:=by rw[<-e];exact cr df.e df.flat _
  exact amR ⟨dZ (by omega),by simp;omega,by simp;omega,by simp;omega,bY,⟨by omega,by omega⟩,aa⟩) (amT ⟨eD (by omega),aa⟩)
 have hD:=e7 (P:=prog) (c:=(ar f129 1)) (cM 2) k (fun i:Nat=>Ar k i ((sl k++sn k i).map df.e)) (fun i hi=>by
  have h:=oF i hi;rw[ad2,<-re];simp only[sm,Mw,Fk,lu]at h;exact amU ⟨dZ (by omega),h,⟨by omega,by omega⟩,aa⟩) (amV ⟨eD (by omega),aa⟩)
 have Oa:=e7 (P:=prog) (c:=(ar f129 3)) (cM 6) 4 (fun i:Nat=>As i ((sl k++sn k k++vx i).map df.e)) (fun i hi=>by
  have h1:=RE i;rw[ad3,<-re,ha (l₂:=[_])];exact amW ⟨dZ (by omega),by simp;omega,by simp;omega,cr df.e df.flat [⟨6,i,0⟩],⟨by omega,by omega⟩,aa⟩) (al7 ⟨eD (by omega),aa⟩)
 simp only[sn,Mw,Fk,lu]at hD;simp only[vx,Mw,Fk,lu]at Oa;rw[l0];exact al8 ⟨b,eP,hD,Oa,aa⟩
end Go.Proofs.YtdchjefneblpgaaGreat
namespace Go.Proofs.YtdchjefneblpgaaGreat
open Go.Sx Go.RowKit Go.Proofs.Tryz
def lN(xs:List aA)(i:Nat)(r:aA):Bool:=
 r.op != 0||r.bx.dS != 0||(match i with | 0=>false | j+1=>match xs[j]? with | some q=>decide (q.bx.bf>r.bx.bf) | none=>false)
theorem Ta{xs:List aA}{i:Nat}{a:aA}(aj:xs[i]?=some a)(h:lN xs i a=true):
  (a.op != 0)=true\/((a.op != 0)=false/\(a.bx.dS != 0)=true)\/((a.op != 0)=false/\(a.bx.dS != 0)=false/\∃j b,i=j+1/\xs[j]?=some b/\decide (b.bx.bf>a.bx.bf)=true):=by
 unfold lN at h;cases h1:(a.op != 0) with
 | true=>exact .inl rfl
 | false=>
 cases U:(a.bx.dS != 0) with
 | true=>exact .inr (.inl ⟨rfl,rfl⟩)
 | false=>
 rw[h1,U,jL,jL]at h;cases i with
 | zero=>cases h
 | succ j=>
  have a':j<xs.length:=by have:=a6 aj;omega
  obtain⟨b,aq⟩:=cY a';simp only[aq]at h;exact .inr (.inr ⟨rfl,rfl,j,b,rfl,aq,h⟩)
theorem Tb{xs:List aA}{i:Nat}{a:aA}(aj:xs[i]?=some a)(h:lN xs i a=false):
  (a.op != 0)=false/\(a.bx.dS != 0)=false/\(i=0\/∃j b,i=j+1/\xs[j]?=some b/\decide (b.bx.bf>a.bx.bf)=false):=by
 unfold lN at h;rw[gq,gq]at h;obtain⟨⟨h1,U⟩,h⟩:=h;refine⟨h1,U,?_⟩;cases i with
 | zero=>exact .inl rfl
 | succ j=>
  have a':j<xs.length:=by have:=a6 aj;omega
  obtain⟨b,aq⟩:=cY a';simp only[aq]at h;exact .inr ⟨j,b,rfl,aq,h⟩
theorem Ec{α:Type}(f:α->List D){xs:List α}{j:Nat}{b:α}(h:xs[j]?=some b):(xs.map f)[(((j+1:Nat):Int)-1).toNat]?=some (f b):=by
 rw[show (((j+1:Nat):Int)-1)=(j:Int) by omega];exact bF f h
theorem Ed{α β:Type}{f:α->β}{xs:List α}{j:Nat}{b:α}(h:xs[j]?=some b):(((j+1:Nat):Int)-1)<(↑(xs.map f).length:Int):=by
 have:=a6 h;rw[bm];omega
def mM(n:Int):Bool:=!ap n (-1000000) 1000000
def lo(xs:List cD)(i:Nat)(d:cD):Bool:=!ap d.bf 0 3||(xs.take i).any (fun q=>q.bf==d.bf)
theorem fx{α β:Type}{f:α->β}{xs:List α}(h:(xs.length==4)=true):((↑(xs.map f).length:Int) != 4)=false:=by
 rw[bm,eq_of_beq h];rfl
theorem s8{α β:Type}{f:α->β}{xs:List α}(h:(xs.length==4)=false):((↑(xs.map f).length:Int) != 4)=true:=by
 rw[bm];have:=ne_of_beq_false h;simp only[bne_iff_ne,gM];omega
def eJ(g:b1)(w:aP):Bool:=
 fI g w.queue&&(fI g w.cg&&(fI g w.b8&&(jD w.cells&&((w.bH.length==4)&&((w.bU.length==4)&&((w.bK.length==4)&&(!anyI (lN w.b8) 0 w.b8&&(!(w.bH.any mM)&&!anyI (lo w.b') 0 w.b'))))))))
variable{w:aP}
theorem aP.Ep(h:w.sz<=8388608):w.cg.length<=8388608:=by simp only[aP.sz]at h;omega
theorem aP.BR(h:w.sz<=8388608):w.cells.length<=8388608:=by simp only[aP.sz]at h;omega
theorem aP.Um(h:w.sz<=8388608):w.bH.length<=8388608:=by simp only[aP.sz]at h;omega
theorem aP.MW(h:w.sz<=8388608):w.b'.length<=8388608:=by simp only[aP.sz]at h;omega
theorem ad4(w:aP)(ak:w.b8.length<=8388608):
  (anyI (lN w.b8) 0 w.b8=false/\c0 prog (ar f175 0) (nK (w.queue.map aA.e) (w.cg.map aA.e) (w.b8.map aA.e) (w.cells.map Cell.e) (w.bH.map a8) (w.bU.map cu) (w.bK.map cu) (w.b'.map cD.e) 0) (.exit 0) (HR (w.queue.map aA.e) (w.cg.map aA.e) (w.b8.map aA.e) (w.cells.map Cell.e) (w.bH.map a8) (w.bU.map cu) (w.bK.map cu) (w.b'.map cD.e)))\/
  (anyI (lN w.b8) 0 w.b8=true/\c0 prog (ar f175 0) (nK (w.queue.map aA.e) (w.cg.map aA.e) (w.b8.map aA.e) (w.cells.map Cell.e) (w.bH.map a8) (w.bU.map cu) (w.bK.map cu) (w.b'.map cD.e) 0) .ret (Ay false)):=
 tG (P:=prog) (c:=(ar f175 0)) w.b8 (lN w.b8) (fun i=>nK (w.queue.map aA.e) (w.cg.map aA.e) (w.b8.map aA.e) (w.cells.map Cell.e) (w.bH.map a8) (w.bU.map cu) (w.bK.map cu) (w.b'.map cD.e) i) fi (cM 0)
  (fun i a aj h=>by
   have hi:=a6 aj;obtain⟨h1,U,rfl | ⟨j,b,rfl,aq,ax⟩⟩:=Tb aj h
   ·exact Y8 ⟨cf (a6 aj),bG,bL (a6 aj),bF aA.e aj,h1,bG,bL (a6 aj),bF aA.e aj,U,eD (by omega),dw (a6 aj) ak,aa⟩
   exact Y7 ⟨cf (a6 aj),bG,bL (a6 aj),bF aA.e aj,h1,bG,bL (a6 aj),bF aA.e aj,U,dZ (by omega),⟨by omega,by omega⟩,by omega,Ed aq,Ec aA.e aq,bG,bL (a6 aj),bF aA.e aj,ax,dw (a6 aj) ak,aa⟩)
  (fun i a aj h=>by
   have hi:=a6 aj;rcases Ta aj h with h1 | ⟨h1,U⟩ | ⟨h1,U,j,b,rfl,aq,ax⟩
   ·exact Y4 ⟨cf (a6 aj),bG,bL (a6 aj),bF aA.e aj,h1,aa⟩
   ·exact Y5 ⟨cf (a6 aj),bG,bL (a6 aj),bF aA.e aj,h1,bG,bL (a6 aj),bF aA.e aj,U,aa⟩
   exact Y6 ⟨cf (a6 aj),bG,bL (a6 aj),bF aA.e aj,h1,bG,bL (a6 aj),bF aA.e aj,U,dZ (by omega),⟨by omega,by omega⟩,by omega,Ed aq,Ec aA.e aq,bG,bL (a6 aj),bF aA.e aj,ax,aa⟩)
  (Y9 ⟨dU,aa⟩)
theorem ad5(w:aP)(ak:w.b'.length<=8388608):
  (anyI (lo w.b') 0 w.b'=false/\c0 prog (ar f175 2) (qR (w.queue.map aA.e) (w.cg.map aA.e) (w.b8.map aA.e) (w.cells.map Cell.e) (w.bH.map a8) (w.bU.map cu) (w.bK.map cu) (w.b'.map cD.e) 0) (.exit 4) JO)\/
  (anyI (lo w.b') 0 w.b'=true/\c0 prog (ar f175 2) (qR (w.queue.map aA.e) (w.cg.map aA.e) (w.b8.map aA.e) (w.cells.map Cell.e) (w.bH.map a8) (w.bU.map cu) (w.bK.map cu) (w.b'.map cD.e) 0) .ret (CO false)):=by
 have inner:∀(i:Nat) (a:cD),w.b'[i]?=some a->
   (((w.b'.take i).any (fun q=>q.bf==a.bf))=false/\c0 prog (ar f175 3) (sj (w.queue.map aA.e) (w.cg.map aA.e) (w.b8.map aA.e) (w.cells.map Cell.e) (w.bH.map a8) (w.bU.map cu) (w.bK.map cu) (w.b'.map cD.e) i 0) (.exit 6) (JN (w.queue.map aA.e) (w.cg.map aA.e) (w.b8.map aA.e) (w.cells.map Cell.e) (w.bH.map a8) (w.bU.map cu) (w.bK.map cu) (w.b'.map cD.e) i))\/
   (((w.b'.take i).any (fun q=>q.bf==a.bf))=true/\c0 prog (ar f175 3) (sj (w.queue.map aA.e) (w.cg.map aA.e) (w.b8.map aA.e) (w.cells.map Cell.e) (w.bH.map a8) (w.bU.map cu) (w.bK.map cu) (w.b'.map cD.e) i 0) .ret (CP false)):=by
  intro i a aj;have hi:=a6 aj;have hlen:(w.b'.take i).length=i:=by rw[lx];omega
  have gC:∀{k:Nat} {b:cD},(w.b'.take i)[k]?=some b->k<i/\w.b'[k]?=some b:=fun {k b} h=>by
   have hk:=a6 h;rw[hlen]at hk;rw[j1,br hk]at h;exact⟨hk,h⟩
  have l:=hh (P:=prog) (c:=(ar f175 3)) (w.b'.take i) (fun q=>q.bf==a.bf) (fun k=>sj (w.queue.map aA.e) (w.cg.map aA.e) (w.b8.map aA.e) (w.cells.map Cell.e) (w.bH.map a8) (w.bU.map cu) (w.bK.map cu) (w.b'.map cD.e) i k) (X:=fun _ _=>CP false) fi (cM 6)
   (fun k b aq h=>by
    obtain⟨hk,aq⟩:=gC aq;exact Zg ⟨dZ (by omega),bG,bL (a6 aq),bF cD.e aq,bG,bL (a6 aj),bF cD.e aj,h,dw (a6 aq) ak,aa⟩)
   (fun k b aq h=>by
    obtain⟨hk,aq⟩:=gC aq;exact Zf ⟨dZ (by omega),bG,bL (a6 aq),bF cD.e aq,bG,bL (a6 aj),bF cD.e aj,h,aa⟩)
   (Zh ⟨eD (by rw[hlen];omega),aa⟩)
  rcases l with⟨_,_,h1,U⟩ | ⟨_,_,_,_,_,_,h1,U⟩
  ·exact .inl ⟨h1,U⟩
  exact .inr ⟨h1,U⟩
 exact tG (P:=prog) (c:=(ar f175 2)) w.b' (lo w.b') (fun i=>qR (w.queue.map aA.e) (w.cg.map aA.e) (w.b8.map aA.e) (w.cells.map Cell.e) (w.bH.map a8) (w.bU.map cu) (w.bK.map cu) (w.b'.map cD.e) i) fi (cM 4)
  (fun i a aj h=>by
   simp only[lo,gq,kD]at h;rcases inner i a aj with⟨e,l⟩ | ⟨e,l⟩
   ·exact YK ⟨cf (a6 aj),bG,bL (a6 aj),bF cD.e aj,fu true h.1,rfl,l,dw (a6 aj) ak,aa⟩
   rw[h.2]at e;cases e)
  (fun i a aj h=>by
   cases h1:ap a.bf 0 3 with
   | false=>exact Ze ⟨cf (a6 aj),bG,bL (a6 aj),bF cD.e aj,fu false h1,rfl,aa⟩
   | true=>
    simp only[lo,h1,jJ,jL]at h;rcases inner i a aj with⟨e,l⟩ | ⟨e,l⟩
    ·rw[h]at e;cases e
    exact Zi ⟨cf (a6 aj),bG,bL (a6 aj),bF cD.e aj,fu true h1,rfl,l,aa⟩)
  (YL ⟨dU,aa⟩)
theorem Ee(g:b1)(w:aP)(au:g.sz<=8388608)(hw:w.sz<=8388608):av 175 [.agg g.e,.agg w.e] [.one (B (eJ g w))]:=by
 unfold eJ;cases h1:fI g w.queue with
 | false=>exact YX ⟨vr g _ _ h1 au (aP.Ei hw),rfl,aa⟩
 | true=>
 have c1:=vr g _ _ h1 au (aP.Ei hw);cases U:fI g w.cg with
 | false=>exact YY ⟨c1,rfl,vr g _ _ U au (aP.Ep hw),rfl,aa⟩
 | true=>
 have c2:=vr g _ _ U au (aP.Ep hw);cases ax:fI g w.b8 with
 | false=>exact YZ ⟨c1,rfl,c2,rfl,vr g _ _ ax au (aP.wZ hw),rfl,aa⟩
 | true=>
 have cR:=vr g _ _ ax au (aP.wZ hw);cases aK:jD w.cells with
 | false=>exact Y0 ⟨c1,rfl,c2,rfl,cR,rfl,Si aK (aP.BR hw),rfl,aa⟩
 | true=>
 have ef:=Si aK (aP.BR hw);cases aV:(w.bH.length==4) with
 | false=>exact Y1 ⟨c1,rfl,c2,rfl,cR,rfl,ef,rfl,s8 aV,aa⟩
 | true=>
 cases bw:(w.bU.length==4) with
 | false=>exact Y2 ⟨c1,rfl,c2,rfl,cR,rfl,ef,rfl,fx aV,s8 bw,aa⟩
 | true=>
 cases bX:(w.bK.length==4) with
 | false=>exact Y3 ⟨c1,rfl,c2,rfl,cR,rfl,ef,rfl,fx aV,fx bw,s8 bX,aa⟩
 | true=>
 have rU:w.bH.length=4:=eq_of_beq aV;rcases ad4 w (aP.wZ hw) with⟨c8,iW⟩ | ⟨c8,iW⟩
 case inr=>rw[c8];exact Y' ⟨c1,rfl,c2,rfl,cR,rfl,ef,rfl,fx aV,fx bw,fx bX,iW,aa⟩
 have nE:=hh (P:=prog) (c:=(ar f175 1)) w.bH mM (fun i=>tP (w.queue.map aA.e) (w.cg.map aA.e) (w.b8.map aA.e) (w.cells.map Cell.e) (w.bH.map a8) (w.bU.map cu) (w.bK.map cu) (w.b'.map cD.e) i) (X:=fun _ _=>JL false) fi (cM 2)
  (fun i a aj h=>Zb ⟨dZ (by have:=a6 aj;omega),bG,bL (a6 aj),bF a8 aj,fu true (by simpa[mM]using h),rfl,dw (a6 aj) (aP.Um hw),aa⟩)
  (fun i a aj h=>Za ⟨dZ (by have:=a6 aj;omega),bG,bL (a6 aj),bF a8 aj,fu false (by simpa[mM]using h),rfl,aa⟩)
  (Zc ⟨eD (by omega),aa⟩)
 rw[c8];rcases nE with⟨_,_,ed,nE⟩ | ⟨_,_,_,_,_,_,ed,nE⟩
 case inr=>rw[ed];exact Zd ⟨c1,rfl,c2,rfl,cR,rfl,ef,rfl,fx aV,fx bw,fx bX,iW,nE,aa⟩
 rw[ed];rcases ad5 w (aP.MW hw) with⟨dK,u5⟩ | ⟨dK,u5⟩
 ·rw[dK];exact YN ⟨c1,rfl,c2,rfl,cR,rfl,ef,rfl,fx aV,fx bw,fx bX,iW,nE,u5,aa⟩
 rw[dK];exact YM ⟨c1,rfl,c2,rfl,cR,rfl,ef,rfl,fx aV,fx bw,fx bX,iW,nE,u5,aa⟩
end Go.Proofs.YtdchjefneblpgaaGreat
namespace Go.Proofs.YtdchjefneblpgaaGreat
open Go.Sx Go.RowKit Go.Proofs.Tryz
theorem ad6(w:aP)(ak:w.b8.length<=8388608):
  (anyI (lN w.b8) 0 w.b8=false/\c0 prog (ar f187 0) (nJ (w.b8.map aA.e) 0 (w.queue.map aA.e) (w.cg.map aA.e) (w.b8.map aA.e) (w.cells.map Cell.e) (w.bH.map a8) (w.bU.map cu) (w.bK.map cu) (w.b'.map cD.e)) (.exit 0) (HO (w.queue.map aA.e) (w.cg.map aA.e) (w.b8.map aA.e) (w.cells.map Cell.e) (w.bH.map a8) (w.bU.map cu) (w.bK.map cu) (w.b'.map cD.e)))\/
  (anyI (lN w.b8) 0 w.b8=true/\c0 prog (ar f187 0) (nJ (w.b8.map aA.e) 0 (w.queue.map aA.e) (w.cg.map aA.e) (w.b8.map aA.e) (w.cells.map Cell.e) (w.bH.map a8) (w.bU.map cu) (w.bK.map cu) (w.b'.map cD.e)) .ret (Az false)):=
 tG (P:=prog) (c:=(ar f187 0)) w.b8 (lN w.b8) (fun i=>nJ (w.b8.map aA.e) i (w.queue.map aA.e) (w.cg.map aA.e) (w.b8.map aA.e) (w.cells.map Cell.e) (w.bH.map a8) (w.bU.map cu) (w.bK.map cu) (w.b'.map cD.e)) fi (cM 0)
  (fun i a aj h=>by
   have hi:=a6 aj;obtain⟨h1,U,rfl | ⟨j,b,rfl,aq,ax⟩⟩:=Tb aj h
   ·exact aal ⟨cf (a6 aj),bG,bL (a6 aj),bF aA.e aj,h1,U,eD (by omega),dw (a6 aj) ak,aa⟩
   exact aak ⟨cf (a6 aj),bG,bL (a6 aj),bF aA.e aj,h1,U,dZ (by omega),⟨by omega,by omega⟩,by omega,Ed aq,Ec aA.e aq,ax,dw (a6 aj) ak,aa⟩)
  (fun i a aj h=>by
   have hi:=a6 aj;rcases Ta aj h with h1 | ⟨h1,U⟩ | ⟨h1,U,j,b,rfl,aq,ax⟩
   ·exact YS ⟨cf (a6 aj),bG,bL (a6 aj),bF aA.e aj,h1,aa⟩
   ·exact YT ⟨cf (a6 aj),bG,bL (a6 aj),bF aA.e aj,h1,U,aa⟩
   exact aaj ⟨cf (a6 aj),bG,bL (a6 aj),bF aA.e aj,h1,U,dZ (by omega),⟨by omega,by omega⟩,by omega,Ed aq,Ec aA.e aq,ax,aa⟩)
  (aam ⟨dU,aa⟩)
theorem Tc(xs:List cD)(i:Nat)(e:Int)(r:Bool)(h:(xs.take i).any (fun q=>q.bf==e)=r)(ak:xs.length<=8388608):av 281 [.one (.J 2 ((xs.map cD.e).take i)),.one (I e)] [.one (B r)]:=by
 have c:=Zj (xs.take i) e (by rw[lx];omega);rw[uk,h]at c;exact c
theorem ad7(w:aP)(ak:w.b'.length<=8388608):
  (anyI (lo w.b') 0 w.b'=false/\c0 prog (ar f187 2) (qS (w.b'.map cD.e) 0 (w.queue.map aA.e) (w.cg.map aA.e) (w.b8.map aA.e) (w.cells.map Cell.e) (w.bH.map a8) (w.bU.map cu) (w.bK.map cu) (w.b'.map cD.e)) (.exit 4) JR)\/
  (anyI (lo w.b') 0 w.b'=true/\c0 prog (ar f187 2) (qS (w.b'.map cD.e) 0 (w.queue.map aA.e) (w.cg.map aA.e) (w.b8.map aA.e) (w.cells.map Cell.e) (w.bH.map a8) (w.bU.map cu) (w.bK.map cu) (w.b'.map cD.e)) .ret (CQ false)):=
 tG (P:=prog) (c:=(ar f187 2)) w.b' (lo w.b') (fun i=>qS (w.b'.map cD.e) i (w.queue.map aA.e) (w.cg.map aA.e) (w.b8.map aA.e) (w.cells.map Cell.e) (w.bH.map a8) (w.bU.map cu) (w.bK.map cu) (w.b'.map cD.e)) fi (cM 4)
  (fun i a aj h=>by
   have hi:=a6 aj;simp only[lo,gq,kD]at h;exact aax ⟨cf (a6 aj),bG,bL (a6 aj),bF cD.e aj,hS true h.1,rfl,Int.le_refl 0,(bG:(0:Int)<=(i:Int)),(show (i:Int)<=_ by rw[bm];omega),Tc w.b' i a.bf false h.2 ak,rfl,dw (a6 aj) ak,aa⟩)
  (fun i a aj h=>by
   have hi:=a6 aj;cases h1:ap a.bf 0 3 with
   | false=>exact aav ⟨cf (a6 aj),bG,bL (a6 aj),bF cD.e aj,hS false h1,rfl,aa⟩
   | true=>
    simp only[lo,h1,jJ,jL]at h;exact aaw ⟨cf (a6 aj),bG,bL (a6 aj),bF cD.e aj,hS true h1,rfl,Int.le_refl 0,(bG:(0:Int)<=(i:Int)),(show (i:Int)<=_ by rw[bm];omega),Tc w.b' i a.bf true h ak,rfl,aa⟩)
  (aay ⟨dU,aa⟩)
theorem KW(g:b1)(w:aP)(au:g.sz<=8388608)(hw:w.sz<=8388608):av 187 [.agg g.e,.agg w.e] [.one (B (eJ g w))]:=by
 unfold eJ;cases h1:fI g w.queue with
 | false=>exact YO ⟨vt g _ _ h1 au (aP.Ei hw),rfl,aa⟩
 | true=>
 have c1:=vt g _ _ h1 au (aP.Ei hw);cases U:fI g w.cg with
 | false=>exact YP ⟨c1,rfl,vt g _ _ U au (aP.Ep hw),rfl,aa⟩
 | true=>
 have c2:=vt g _ _ U au (aP.Ep hw);cases ax:fI g w.b8 with
 | false=>exact YQ ⟨c1,rfl,c2,rfl,vt g _ _ ax au (aP.wZ hw),rfl,aa⟩
 | true=>
 have cR:=vt g _ _ ax au (aP.wZ hw);cases aK:jD w.cells with
 | false=>exact YR ⟨c1,rfl,c2,rfl,cR,rfl,Sj aK (aP.BR hw),rfl,aa⟩
 | true=>
 have ef:=Sj aK (aP.BR hw);rcases ad6 w (aP.wZ hw) with⟨c8,iW⟩ | ⟨c8,iW⟩
 case inr=>
  rw[c8];simp only[jJ,Bool.false_and,Bool.and_false];exact aan ⟨c1,rfl,c2,rfl,cR,rfl,ef,rfl,iW,aa⟩
 cases aV:(w.bH.length==4) with
 | false=>exact aao ⟨c1,rfl,c2,rfl,cR,rfl,ef,rfl,iW,s8 aV,aa⟩
 | true=>
 cases bw:(w.bU.length==4) with
 | false=>exact aap ⟨c1,rfl,c2,rfl,cR,rfl,ef,rfl,iW,fx aV,s8 bw,aa⟩
 | true=>
 cases bX:(w.bK.length==4) with
 | false=>exact aaq ⟨c1,rfl,c2,rfl,cR,rfl,ef,rfl,iW,fx aV,fx bw,s8 bX,aa⟩
 | true=>
 have nE:=hh (P:=prog) (c:=(ar f187 1)) w.bH mM (fun i=>tQ (w.queue.map aA.e) (w.cg.map aA.e) (w.b8.map aA.e) (w.cells.map Cell.e) (w.bH.map a8) (w.bU.map cu) (w.bK.map cu) (w.b'.map cD.e) i) (X:=fun _ _=>JP false) fi (cM 2)
  (fun i a aj h=>aas ⟨cf (a6 aj),bG,bL (a6 aj),bF a8 aj,hS true (by simpa[mM]using h),rfl,dw (a6 aj) (aP.Um hw),aa⟩)
  (fun i a aj h=>aar ⟨cf (a6 aj),bG,bL (a6 aj),bF a8 aj,hS false (by simpa[mM]using h),rfl,aa⟩)
  (aat ⟨dU,aa⟩)
 rw[c8];rcases nE with⟨_,_,ed,nE⟩ | ⟨_,_,_,_,_,_,ed,nE⟩
 case inr=>rw[ed];exact aau ⟨c1,rfl,c2,rfl,cR,rfl,ef,rfl,iW,fx aV,fx bw,fx bX,nE,aa⟩
 rw[ed];rcases ad7 w (aP.MW hw) with⟨dK,u5⟩ | ⟨dK,u5⟩
 ·rw[dK];exact aaA ⟨c1,rfl,c2,rfl,cR,rfl,ef,rfl,iW,fx aV,fx bw,fx bX,nE,u5,aa⟩
 rw[dK];exact aaz ⟨c1,rfl,c2,rfl,cR,rfl,ef,rfl,iW,fx aV,fx bw,fx bX,nE,u5,aa⟩
