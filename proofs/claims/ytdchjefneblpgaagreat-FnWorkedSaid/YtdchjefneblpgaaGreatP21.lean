import Derived.Test.YtdchjefneblpgaaGreatC6
import Derived.Test.YtdchjefneblpgaaGreatGU
import Derived.Test.YtdchjefneblpgaaGreatP18
set_option linter.unusedVariables false
set_option linter.unusedSimpArgs false
namespace Go.Proofs.YtdchjefneblpgaaGreat
open Go.Sx Go.RowKit Go.Proofs.Tryz
variable{c:bd}
theorem bd.Hw(h:c.wf){l:bD}(al:l∈c.bZ):l.wf:=h.YE.2 l al
structure BB (c:bd):Prop where
 n:ay .i64 c.aF.az
 l:∀l∈c.bZ,ay .i64 l.cap/\l.du<=9223372036854775807
theorem BB.of(h:c.wf):BB c:=⟨h.Wv.Uj,fun l al=>⟨(bd.Hw h al).MX,(bd.Hw h al).M7.2⟩⟩
theorem bd.Cv(h:c.sz<=8388608){l:bD}(al:l∈c.bZ):l.sz<=8388608:=by
 have:=tx (sz:=bD.sz) (xs:=c.bZ) (m:=8388608) (by simp only[bd.sz]at h;omega) al;exact this
def pW(e:Int)(l:bD):Nat:=(pV e l.queue).length
theorem vT{α:Type}{f:Int->α}{xs:List Int}(h:xs.length<=8388608):IntKind.i64.wrap ((↑(xs.map f).length:Int)-1)=(xs.length:Int)-1:=by
 rw[bk];exact ay.wrap ⟨by omega,by omega⟩
def j5(key az:Int):Int:=if az<1 then 0 else if key.tmod az<0 then key.tmod az+az else key.tmod az
theorem QJ(a b:Int)(h:0<b):- b<a.tmod b:=by
 rcases Int.le_total 0 a with ah | ah
 ·have:=Int.tmod_nonneg b ah;omega
 have h1:(-a).tmod b<b:=Int.tmod_lt_of_pos _ h;rw[Int.neg_tmod]at h1;omega
theorem QK(key az:Int)(hw:az<=9223372036854775807):av 245 [.one (I key),.one (I az)] [.one (I (j5 key az))]:=by
 unfold j5;split
 ·exact ZI ⟨by simpa using ‹az<1›,aa⟩
 rename_i h;have h1:=QJ key az (by omega);have U:key.tmod az<az:=Int.tmod_lt_of_pos _ (by omega);split
 ·rename_i aw;exact ZJ ⟨by simp only[mU];omega,by omega,by simpa using aw,⟨by omega,by omega⟩,aa⟩
 rename_i aw;exact ZK ⟨by simp only[mU];omega,by omega,by simpa using aw,aa⟩
theorem aS.Ed{w:aS}(h:w.sz<=8388608):w.queue.length<=8388608:=by simp only[aS.sz]at h;omega
theorem aS.wQ{w:aS}(h:w.sz<=8388608):w.b8.length<=8388608:=by simp only[aS.sz]at h;omega
end Go.Proofs.YtdchjefneblpgaaGreat
namespace Go.Proofs.YtdchjefneblpgaaGreat
open Go.Sx Go.RowKit Go.Proofs.Tryz
def DS(p:Cell×Cell):Bool:=decide (hR p.1 p.2>=0)
def jL(xs:List Cell):Bool:=!((xs.zip (xs.drop 1)).any DS)
variable{xs:List Cell}
theorem As{i:Nat}{p:Cell×Cell}(h:(xs.zip (xs.drop 1))[i]?=some p):xs[i]?=some p.1/\xs[i+1]?=some p.2:=by
 rw[List.getElem?_zip_eq_some]at h;obtain⟨h1,U⟩:=h;rw[gQ,Nat.add_comm]at U;exact⟨h1,U⟩
theorem aaS(xs:List Cell)(al:xs.length<=8388608):av 266 [.one (.J 4 (xs.map Cell.e))] [.one (B (jL xs))]:=by
 have bE:∀i:Nat,(((i:Int)+1)-1).toNat=i:=fun i=>by omega
 have e1:∀i:Nat,(((i:Int)+1)).toNat=i+1:=fun i=>by omega
 have bf:(xs.zip (xs.drop 1)).length=xs.length-1:=by simp
 have l:=gN (P:=prog) (c:=(aq f266 0)) (xs.zip (xs.drop 1)) DS (fun i=>tE (xs.map Cell.e) ((i:Int)+1)) (X:=fun _ _=>JN false) fg (cM 0)
  (fun i a ah h=>by
   obtain⟨h1,U⟩:=As ah;have hi:=a8 U;refine Ly (tE (xs.map Cell.e)) (ZM ⟨dW (by simp only[bk];omega),⟨by omega,by omega⟩,by omega,by simp only[bk];omega,by rw[bE,dj,h1];rfl,by omega,by simp only[bk];omega,by rw[e1,dj,U];rfl,Dm a.1 a.2,h,⟨by omega,by omega⟩,aa⟩) (by omega))
  (fun i a ah h=>by
   obtain⟨h1,U⟩:=As ah;have hi:=a8 U;exact ZL ⟨dW (by simp only[bk];omega),⟨by omega,by omega⟩,by omega,by simp only[bk];omega,by rw[bE,dj,h1];rfl,by omega,by simp only[bk];omega,by rw[e1,dj,U];rfl,Dm a.1 a.2,h,aa⟩)
  (ZN ⟨eT (by rw[bf];simp only[bk];omega),aa⟩)
 unfold jL;rcases l with⟨_,_,h1,U⟩ | ⟨i,a,_,_,_,_,h1,U⟩
 ·rw[h1];exact ZP ⟨U,aa⟩
 rw[h1];exact ZO ⟨U,aa⟩
theorem QL{r:Bool}(h:jL xs=r)(al:xs.length<=8388608):av 266 [.one (.J 4 (xs.map Cell.e))] [.one (B r)]:=h▸aaS xs al
theorem aaT(xs:List Cell)(al:xs.length<=8388608):av 280 [.one (.J 4 (xs.map Cell.e))] [.one (B (jL xs))]:=by
 have bE:∀i:Nat,(((i:Int)+1)-1).toNat=i:=fun i=>by omega
 have e1:∀i:Nat,(((i:Int)+1)).toNat=i+1:=fun i=>by omega
 have bf:(xs.zip (xs.drop 1)).length=xs.length-1:=by simp
 have l:=gN (P:=prog) (c:=(aq f280 0)) (xs.zip (xs.drop 1)) DS (fun i=>tF (xs.map Cell.e) ((i:Int)+1)) (X:=fun _ _=>JO false) fg (cM 0)
  (fun i a ah h=>by
   obtain⟨h1,U⟩:=As ah;have hi:=a8 U;refine Ly (tF (xs.map Cell.e)) (ZR ⟨dW (by simp only[bk];omega),⟨by omega,by omega⟩,by omega,by simp only[bk];omega,by rw[bE,dj,h1];rfl,by omega,by simp only[bk];omega,by rw[e1,dj,U];rfl,Dl a.1 a.2,h,⟨by omega,by omega⟩,aa⟩) (by omega))
  (fun i a ah h=>by
   obtain⟨h1,U⟩:=As ah;have hi:=a8 U;exact ZQ ⟨dW (by simp only[bk];omega),⟨by omega,by omega⟩,by omega,by simp only[bk];omega,by rw[bE,dj,h1];rfl,by omega,by simp only[bk];omega,by rw[e1,dj,U];rfl,Dl a.1 a.2,h,aa⟩)
  (Y3 ⟨eT (by rw[bf];simp only[bk];omega),aa⟩)
 unfold jL;rcases l with⟨_,_,h1,U⟩ | ⟨i,a,_,_,_,_,h1,U⟩
 ·rw[h1];exact Y5 ⟨U,aa⟩
 rw[h1];exact Y4 ⟨U,aa⟩
theorem QM{r:Bool}(h:jL xs=r)(al:xs.length<=8388608):av 280 [.one (.J 4 (xs.map Cell.e))] [.one (B r)]:=h▸aaT xs al
def kX(g:bX)(r:aG):Bool:=!e4 r||decide (r.op>=(g.nodes.length:Int))
def fQ(g:bX)(xs:List aG):Bool:=!(xs.any (kX g))
theorem aaU{r:aG}(h:e4 r=true):0<=r.op:=by
 simp only[e4,cx,ap,cU]at h;omega
theorem aaV(g:bX)(xs:List aG)(al:xs.length<=8388608):av 192 [.agg g.e,.one (.J 5 (xs.map aG.e))] [.one (B (fQ g xs))]:=by
 have l:=gN (P:=prog) (c:=(aq f192 0)) xs (kX g) (fun i=>tG (g.nodes.map Node.e) g.az g.cap (xs.map aG.e) i) (X:=fun _ _=>CS false) fg (cM 0)
  (fun i a ah h=>by
   simp only[kX,gz,kF]at h;have c:=r9 a;rw[h.1]at c;exact Y8 ⟨b' (a8 ah),bF,bI (a8 ah),bG aG.e ah,c,rfl,bF,bI (a8 ah),bG aG.e ah,by rw[bk];exact h.2,df (a8 ah) al,aa⟩)
  (fun i a ah h=>by
   have c:=r9 a;cases aA:e4 a with
   | false=>
    rw[aA]at c;exact Y6 ⟨b' (a8 ah),bF,bI (a8 ah),bG aG.e ah,c,rfl,aa⟩
   | true=>
    rw[aA]at c;simp only[kX,aA,iW,jT]at h;exact Y7 ⟨b' (a8 ah),bF,bI (a8 ah),bG aG.e ah,c,rfl,bF,bI (a8 ah),bG aG.e ah,by rw[bk];exact h,aa⟩)
  (Y9 ⟨dG,aa⟩)
 unfold fQ;rcases l with⟨_,_,h1,U⟩ | ⟨i,a,_,_,_,_,h1,U⟩
 ·rw[h1];exact Za ⟨U,aa⟩
 rw[h1];exact Y' ⟨U,aa⟩
theorem QN{g:bX}{r:aG}(h:e4 r=true):(fW g r.op).isSome=!(decide (r.op>=(g.nodes.length:Int))):=by
 have bN:=aaU h;unfold fW;rw[br bN];by_cases ai:r.op>=(g.nodes.length:Int)
 ·rw[dW ai,List.getElem?_eq_none (by omega)];rfl
 rw[eT ai,gU (by omega)];rfl
theorem aaW(g:bX)(xs:List aG)(au:g.sz<=8388608)(al:xs.length<=8388608):av 189 [.agg g.e,.one (.J 5 (xs.map aG.e))] [.one (B (fQ g xs))]:=by
 have l:=gN (P:=prog) (c:=(aq f189 0)) xs (kX g) (fun i=>tH (xs.map aG.e) i (g.nodes.map Node.e) g.az g.cap) (X:=fun _ _=>CT false) fg (cM 0)
  (fun i a ah h=>by
   simp only[kX,gz,kF]at h;have c:=vd a;rw[h.1]at c;exact Zd ⟨b' (a8 ah),bF,bI (a8 ah),bG aG.e ah,c,rfl,xz g a.op true (by rw[QN h.1,h.2];rfl) au,rfl,df (a8 ah) al,aa⟩)
  (fun i a ah h=>by
   have c:=vd a;cases aA:e4 a with
   | false=>
    rw[aA]at c;exact Zb ⟨b' (a8 ah),bF,bI (a8 ah),bG aG.e ah,c,rfl,aa⟩
   | true=>
    rw[aA]at c;simp only[kX,aA,iW,jT]at h;exact Zc ⟨b' (a8 ah),bF,bI (a8 ah),bG aG.e ah,c,rfl,xz g a.op false (by rw[QN aA,h];rfl) au,rfl,aa⟩)
  (Ze ⟨dG,aa⟩)
 unfold fQ;rcases l with⟨_,_,h1,U⟩ | ⟨i,a,_,_,_,_,h1,U⟩
 ·rw[h1];exact Zg ⟨U,aa⟩
 rw[h1];exact Zf ⟨U,aa⟩
theorem vh(g:bX)(xs:List aG)(r:Bool)(h:fQ g xs=r)(_:g.sz<=8388608)(al:xs.length<=8388608):av 192 [.agg g.e,.one (.J 5 (xs.map aG.e))] [.one (B r)]:=h▸aaV g xs al
theorem vi(g:bX)(xs:List aG)(r:Bool)(h:fQ g xs=r)(au:g.sz<=8388608)(al:xs.length<=8388608):av 189 [.agg g.e,.one (.J 5 (xs.map aG.e))] [.one (B r)]:=h▸aaW g xs au al
def jm(l:bD):Bool:=
 ap l.cap 1 4&&ap l.e0 0 l.cap&&ap l.back 0 l.cap&&(l.e0+l.back+l.queue.length==l.cap)&&ap l.fs 0 1000000000&&decide (0<=l.du)&&(l.du==l.fs-l.queue.length)&&!(l.queue.any fun r=>!e4 r)
theorem aaX(xs:List aG)(al:xs.length<=8388608):av 282 [.one (.J 5 (xs.map aG.e))] [.one (B (!(xs.any fun r=>!e4 r)))]:=by
 have l:=gN (P:=prog) (c:=(aq f282 0)) xs (fun r=>!e4 r) (fun i=>ve (xs.map aG.e) i) (X:=fun _ _=>JX false) fg (cM 0)
  (fun i a ah h=>aaq ⟨b' (a8 ah),bF,bI (a8 ah),bG aG.e ah,vd a,h,df (a8 ah) al,aa⟩)
  (fun i a ah h=>aap ⟨b' (a8 ah),bF,bI (a8 ah),bG aG.e ah,vd a,h,aa⟩)
  (aar ⟨dG,aa⟩)
 rcases l with⟨_,_,h1,U⟩ | ⟨i,a,_,_,_,_,h1,U⟩
 ·rw[h1];exact ZT ⟨U,aa⟩
 rw[h1];exact ZS ⟨U,aa⟩
theorem aaY(l:bD)(al:l.sz<=8388608)(sQ:l.du<=9223372036854775807):av 188 [.agg l.e] [.one (B (jm l))]:=by
 have aE:l.queue.length<=8388608:=al;have c1:=kk l.cap 1 4;have c2:=kk l.e0 0 l.cap;have cA:=kk l.back 0 l.cap;have ed:=kk l.fs 0 1000000000;have ga:=aaX l.queue aE;unfold jm;cases h1:ap l.cap 1 4 with
 | false=>rw[h1]at c1;exact aah ⟨c1,rfl,aa⟩
 | true=>
 cases U:ap l.e0 0 l.cap with
 | false=>rw[h1]at c1;rw[U]at c2;exact aai ⟨c1,rfl,c2,rfl,aa⟩
 | true=>
 cases aw:ap l.back 0 l.cap with
 | false=>rw[h1]at c1;rw[U]at c2;rw[aw]at cA;exact aaj ⟨c1,rfl,c2,rfl,cA,rfl,aa⟩
 | true=>
 have cT:=h1;have b5:=U;have fq:=aw;simp only[ap,cU]at cT b5 fq;rw[h1]at c1;rw[U]at c2;rw[aw]at cA;have n0:ay .i64 (l.e0+l.back):=⟨by omega,by omega⟩
 have oM:ay .i64 (l.e0+l.back+(↑(l.queue.map aG.e).length:Int)):=⟨by simp only[bk];omega,by simp only[bk];omega⟩
 cases aH:(l.e0+l.back+(l.queue.length:Int)==l.cap) with
 | false=>exact aak ⟨c1,rfl,c2,rfl,cA,rfl,n0,oM,by rw[bk];simpa using aH,aa⟩
 | true=>
 have v4:(l.e0+l.back+(↑(l.queue.map aG.e).length:Int) != l.cap)=false:=by rw[bk];simpa using aH
 cases aU:ap l.fs 0 1000000000 with
 | false=>rw[aU]at ed;exact aal ⟨c1,rfl,c2,rfl,cA,rfl,n0,oM,v4,ed,rfl,aa⟩
 | true=>
 have jI:=aU;simp only[ap,cU]at jI;rw[aU]at ed;by_cases bA:l.du<0
 ·rw[eT (show ¬0<=l.du by omega)];exact aam ⟨c1,rfl,c2,rfl,cA,rfl,n0,oM,v4,ed,rfl,dW bA,aa⟩
 rw[dW (show 0<=l.du by omega)];have vS:ay .i64 (l.fs-l.du):=⟨by omega,by omega⟩
 ·by_cases bP:l.du=l.fs-(l.queue.length:Int)
  ·rw[show (l.du==l.fs-(l.queue.length:Int))=true from by simpa using bP];exact aao ⟨c1,rfl,c2,rfl,cA,rfl,n0,oM,v4,ed,rfl,eT bA,vS,by rw[bk];simp;omega,ga,aa⟩
  rw[show (l.du==l.fs-(l.queue.length:Int))=false from by simpa using bP];exact aan ⟨c1,rfl,c2,rfl,cA,rfl,n0,oM,v4,ed,rfl,eT bA,vS,by rw[bk];simp;omega,aa⟩
theorem DT(l:bD)(al:l.sz<=8388608):av 191 [.agg l.e] [.one (B (jm l))]:=by
 have aE:l.queue.length<=8388608:=al;have aX:=gN (P:=prog) (c:=(aq f191 0)) l.queue (fun r=>!e4 r) (fun i=>u2 l.cap (l.queue.map aG.e) l.e0 l.back l.fs l.du i) (X:=fun _ _=>JW false) fg (cM 0)
  (fun i a ah h=>Z7 ⟨b' (a8 ah),bF,bI (a8 ah),bG aG.e ah,r9 a,h,df (a8 ah) aE,aa⟩)
  (fun i a ah h=>Z6 ⟨b' (a8 ah),bF,bI (a8 ah),bG aG.e ah,r9 a,h,aa⟩)
  (Z8 ⟨dG,aa⟩)
 unfold jm;rcases aX with⟨_,_,bN,aX⟩ | ⟨i,a,_,_,_,_,bN,aX⟩
 case inr=>
  rw[bN,iW,Bool.and_false];exact Z9 ⟨aX,aa⟩
 rw[bN,n1,ue];have c1:=ic l.cap 1 4;have c2:=ic l.e0 0 l.cap;have cA:=ic l.back 0 l.cap;have ed:=ic l.fs 0 1000000000;cases h1:ap l.cap 1 4 with
 | false=>rw[h1]at c1;exact aag ⟨aX,c1,rfl,aa⟩
 | true=>
 cases U:ap l.e0 0 l.cap with
 | false=>rw[h1]at c1;rw[U]at c2;exact aaf ⟨aX,c1,rfl,c2,rfl,aa⟩
 | true=>
 cases aw:ap l.back 0 l.cap with
 | false=>rw[h1]at c1;rw[U]at c2;rw[aw]at cA;exact aae ⟨aX,c1,rfl,c2,rfl,cA,rfl,aa⟩
 | true=>
 have cT:=h1;have b5:=U;have fq:=aw;simp only[ap,cU]at cT b5 fq;rw[h1]at c1;rw[U]at c2;rw[aw]at cA;have n0:ay .i64 (l.e0+l.back):=⟨by omega,by omega⟩
 have oM:ay .i64 (l.e0+l.back+(↑(l.queue.map aG.e).length:Int)):=⟨by simp only[bk];omega,by simp only[bk];omega⟩
 cases aH:(l.e0+l.back+(l.queue.length:Int)==l.cap) with
 | false=>exact aad ⟨aX,c1,rfl,c2,rfl,cA,rfl,n0,oM,by rw[bk];exact aH,aa⟩
 | true=>
 have v4:(l.e0+l.back+(↑(l.queue.map aG.e).length:Int)==l.cap)=true:=by rw[bk];exact aH
 cases aU:ap l.fs 0 1000000000 with
 | false=>rw[aU]at ed;exact aac ⟨aX,c1,rfl,c2,rfl,cA,rfl,n0,oM,v4,ed,rfl,aa⟩
 | true=>
 have jI:=aU;simp only[ap,cU]at jI;rw[aU]at ed;have vS:ay .i64 (l.fs-(↑(l.queue.map aG.e).length:Int)):=⟨by simp only[bk];omega,by simp only[bk];omega⟩
 cases bP:(l.du==l.fs-(l.queue.length:Int)) with
 | false=>
  rw[Bool.and_false];exact aab ⟨aX,c1,rfl,c2,rfl,cA,rfl,n0,oM,v4,ed,rfl,vS,by rw[bk];exact bP,aa⟩
 | true=>
  rw[ue];exact Z' ⟨aX,c1,rfl,c2,rfl,cA,rfl,n0,oM,v4,ed,rfl,vS,by rw[bk];exact bP,aa⟩
end Go.Proofs.YtdchjefneblpgaaGreat
namespace Go.Proofs.YtdchjefneblpgaaGreat
open Go.Sx Go.RowKit Go.Proofs.Tryz
def lS(xs:List aG)(i:Nat)(r:aG):Bool:=
 r.op != 0||r.bw.ec != 0||(match i with | 0=>false | j+1=>match xs[j]? with | some q=>decide (q.bw.bc>r.bw.bc) | none=>false)
theorem QO{xs:List aG}{i:Nat}{a:aG}(ah:xs[i]?=some a)(h:lS xs i a=true):
  (a.op != 0)=true\/((a.op != 0)=false/\(a.bw.ec != 0)=true)\/((a.op != 0)=false/\(a.bw.ec != 0)=false/\∃j b,i=j+1/\xs[j]?=some b/\decide (b.bw.bc>a.bw.bc)=true):=by
 unfold lS at h;cases h1:(a.op != 0) with
 | true=>exact .inl rfl
 | false=>
 cases U:(a.bw.ec != 0) with
 | true=>exact .inr (.inl ⟨rfl,rfl⟩)
 | false=>
 rw[h1,U,jT,jT]at h;cases i with
 | zero=>cases h
 | succ j=>
  have a6:j<xs.length:=by have:=a8 ah;omega
  obtain⟨b,ar⟩:=c0 a6;simp only[ar]at h;exact .inr (.inr ⟨rfl,rfl,j,b,rfl,ar,h⟩)
theorem QP{xs:List aG}{i:Nat}{a:aG}(ah:xs[i]?=some a)(h:lS xs i a=false):
  (a.op != 0)=false/\(a.bw.ec != 0)=false/\(i=0\/∃j b,i=j+1/\xs[j]?=some b/\decide (b.bw.bc>a.bw.bc)=false):=by
 unfold lS at h;rw[gz,gz]at h;obtain⟨⟨h1,U⟩,h⟩:=h;refine⟨h1,U,?_⟩;cases i with
 | zero=>exact .inl rfl
 | succ j=>
  have a6:j<xs.length:=by have:=a8 ah;omega
  obtain⟨b,ar⟩:=c0 a6;simp only[ar]at h;exact .inr ⟨j,b,rfl,ar,h⟩
theorem DU{α:Type}(f:α->List D){xs:List α}{j:Nat}{b:α}(h:xs[j]?=some b):(xs.map f)[(((j+1:Nat):Int)-1).toNat]?=some (f b):=by
 rw[show (((j+1:Nat):Int)-1)=(j:Int) by omega];exact bG f h
theorem DV{α β:Type}{f:α->β}{xs:List α}{j:Nat}{b:α}(h:xs[j]?=some b):(((j+1:Nat):Int)-1)<(↑(xs.map f).length:Int):=by
 have:=a8 h;rw[bk];omega
def mK(n:Int):Bool:=!ap n (-1000000) 1000000
def lu(xs:List cD)(i:Nat)(d:cD):Bool:=!ap d.bc 0 3||(xs.take i).any (fun q=>q.bc==d.bc)
theorem fB{α β:Type}{f:α->β}{xs:List α}(h:(xs.length==4)=true):((↑(xs.map f).length:Int) != 4)=false:=by
 rw[bk,eq_of_beq h];rfl
theorem s0{α β:Type}{f:α->β}{xs:List α}(h:(xs.length==4)=false):((↑(xs.map f).length:Int) != 4)=true:=by
 rw[bk];have:=ne_of_beq_false h;simp only[bne_iff_ne,hZ];omega
def eF(g:bX)(w:aS):Bool:=
 fQ g w.queue&&(fQ g w.cm&&(fQ g w.b8&&(jL w.cells&&((w.bK.length==4)&&((w.bS.length==4)&&((w.bC.length==4)&&(!anyI (lS w.b8) 0 w.b8&&(!(w.bK.any mK)&&!anyI (lu w.b4) 0 w.b4))))))))
variable{w:aS}
theorem aS.Ek(h:w.sz<=8388608):w.cm.length<=8388608:=by simp only[aS.sz]at h;omega
theorem aS.BR(h:w.sz<=8388608):w.cells.length<=8388608:=by simp only[aS.sz]at h;omega
theorem aS.Ud(h:w.sz<=8388608):w.bK.length<=8388608:=by simp only[aS.sz]at h;omega
theorem aS.M0(h:w.sz<=8388608):w.b4.length<=8388608:=by simp only[aS.sz]at h;omega
theorem aaZ(w:aS)(al:w.b8.length<=8388608):
  (anyI (lS w.b8) 0 w.b8=false/\c3 prog (aq f175 0) (nL (w.queue.map aG.e) (w.cm.map aG.e) (w.b8.map aG.e) (w.cells.map Cell.e) (w.bK.map a') (w.bS.map cv) (w.bC.map cv) (w.b4.map cD.e) 0) (.exit 0) (HT (w.queue.map aG.e) (w.cm.map aG.e) (w.b8.map aG.e) (w.cells.map Cell.e) (w.bK.map a') (w.bS.map cv) (w.bC.map cv) (w.b4.map cD.e)))\/
  (anyI (lS w.b8) 0 w.b8=true/\c3 prog (aq f175 0) (nL (w.queue.map aG.e) (w.cm.map aG.e) (w.b8.map aG.e) (w.cells.map Cell.e) (w.bK.map a') (w.bS.map cv) (w.bC.map cv) (w.b4.map cD.e) 0) .ret (Am false)):=
 tw (P:=prog) (c:=(aq f175 0)) w.b8 (lS w.b8) (fun i=>nL (w.queue.map aG.e) (w.cm.map aG.e) (w.b8.map aG.e) (w.cells.map Cell.e) (w.bK.map a') (w.bS.map cv) (w.bC.map cv) (w.b4.map cD.e) i) fg (cM 0)
  (fun i a ah h=>by
   have hi:=a8 ah;obtain⟨h1,U,rfl | ⟨j,b,rfl,ar,aw⟩⟩:=QP ah h
   ·exact YT ⟨b' (a8 ah),bF,bI (a8 ah),bG aG.e ah,h1,bF,bI (a8 ah),bG aG.e ah,U,eT (by omega),df (a8 ah) al,aa⟩
   exact Zr ⟨b' (a8 ah),bF,bI (a8 ah),bG aG.e ah,h1,bF,bI (a8 ah),bG aG.e ah,U,dW (by omega),⟨by omega,by omega⟩,by omega,DV ar,DU aG.e ar,bF,bI (a8 ah),bG aG.e ah,aw,df (a8 ah) al,aa⟩)
  (fun i a ah h=>by
   have hi:=a8 ah;rcases QO ah h with h1 | ⟨h1,U⟩ | ⟨h1,U,j,b,rfl,ar,aw⟩
   ·exact Zo ⟨b' (a8 ah),bF,bI (a8 ah),bG aG.e ah,h1,aa⟩
   ·exact Zp ⟨b' (a8 ah),bF,bI (a8 ah),bG aG.e ah,h1,bF,bI (a8 ah),bG aG.e ah,U,aa⟩
   exact Zq ⟨b' (a8 ah),bF,bI (a8 ah),bG aG.e ah,h1,bF,bI (a8 ah),bG aG.e ah,U,dW (by omega),⟨by omega,by omega⟩,by omega,DV ar,DU aG.e ar,bF,bI (a8 ah),bG aG.e ah,aw,aa⟩)
  (YU ⟨dG,aa⟩)
theorem aa0(w:aS)(al:w.b4.length<=8388608):
  (anyI (lu w.b4) 0 w.b4=false/\c3 prog (aq f175 2) (qC (w.queue.map aG.e) (w.cm.map aG.e) (w.b8.map aG.e) (w.cells.map Cell.e) (w.bK.map a') (w.bS.map cv) (w.bC.map cv) (w.b4.map cD.e) 0) (.exit 4) JS)\/
  (anyI (lu w.b4) 0 w.b4=true/\c3 prog (aq f175 2) (qC (w.queue.map aG.e) (w.cm.map aG.e) (w.b8.map aG.e) (w.cells.map Cell.e) (w.bK.map a') (w.bS.map cv) (w.bC.map cv) (w.b4.map cD.e) 0) .ret (CU false)):=by
 have inner:∀(i:Nat) (a:cD),w.b4[i]?=some a->
   (((w.b4.take i).any (fun q=>q.bc==a.bc))=false/\c3 prog (aq f175 3) (r' (w.queue.map aG.e) (w.cm.map aG.e) (w.b8.map aG.e) (w.cells.map Cell.e) (w.bK.map a') (w.bS.map cv) (w.bC.map cv) (w.b4.map cD.e) i 0) (.exit 6) (JR (w.queue.map aG.e) (w.cm.map aG.e) (w.b8.map aG.e) (w.cells.map Cell.e) (w.bK.map a') (w.bS.map cv) (w.bC.map cv) (w.b4.map cD.e) i))\/
   (((w.b4.take i).any (fun q=>q.bc==a.bc))=true/\c3 prog (aq f175 3) (r' (w.queue.map aG.e) (w.cm.map aG.e) (w.b8.map aG.e) (w.cells.map Cell.e) (w.bK.map a') (w.bS.map cv) (w.bC.map cv) (w.b4.map cD.e) i 0) .ret (CV false)):=by
  intro i a ah;have hi:=a8 ah;have hlen:(w.b4.take i).length=i:=by rw[oV];omega
  have gJ:∀{k:Nat} {b:cD},(w.b4.take i)[k]?=some b->k<i/\w.b4[k]?=some b:=fun {k b} h=>by
   have hk:=a8 h;rw[hlen]at hk;rw[hh,br hk]at h;exact⟨hk,h⟩
  have l:=gN (P:=prog) (c:=(aq f175 3)) (w.b4.take i) (fun q=>q.bc==a.bc) (fun k=>r' (w.queue.map aG.e) (w.cm.map aG.e) (w.b8.map aG.e) (w.cells.map Cell.e) (w.bK.map a') (w.bS.map cv) (w.bC.map cv) (w.b4.map cD.e) i k) (X:=fun _ _=>CV false) fg (cM 6)
   (fun k b ar h=>by
    obtain⟨hk,ar⟩:=gJ ar;exact Y2 ⟨dW (by omega),bF,bI (a8 ar),bG cD.e ar,bF,bI (a8 ah),bG cD.e ah,h,df (a8 ar) al,aa⟩)
   (fun k b ar h=>by
    obtain⟨hk,ar⟩:=gJ ar;exact Y1 ⟨dW (by omega),bF,bI (a8 ar),bG cD.e ar,bF,bI (a8 ah),bG cD.e ah,h,aa⟩)
   (aas ⟨eT (by rw[hlen];omega),aa⟩)
  rcases l with⟨_,_,h1,U⟩ | ⟨_,_,_,_,_,_,h1,U⟩
  ·exact .inl ⟨h1,U⟩
  exact .inr ⟨h1,U⟩
 exact tw (P:=prog) (c:=(aq f175 2)) w.b4 (lu w.b4) (fun i=>qC (w.queue.map aG.e) (w.cm.map aG.e) (w.b8.map aG.e) (w.cells.map Cell.e) (w.bK.map a') (w.bS.map cv) (w.bC.map cv) (w.b4.map cD.e) i) fg (cM 4)
  (fun i a ah h=>by
   simp only[lu,gz,kF]at h;rcases inner i a ah with⟨e,l⟩ | ⟨e,l⟩
   ·exact aau ⟨b' (a8 ah),bF,bI (a8 ah),bG cD.e ah,fz true h.1,rfl,l,df (a8 ah) al,aa⟩
   rw[h.2]at e;cases e)
  (fun i a ah h=>by
   cases h1:ap a.bc 0 3 with
   | false=>exact Y0 ⟨b' (a8 ah),bF,bI (a8 ah),bG cD.e ah,fz false h1,rfl,aa⟩
   | true=>
    simp only[lu,h1,iW,jT]at h;rcases inner i a ah with⟨e,l⟩ | ⟨e,l⟩
    ·rw[h]at e;cases e
    exact aat ⟨b' (a8 ah),bF,bI (a8 ah),bG cD.e ah,fz true h1,rfl,l,aa⟩)
  (aav ⟨dG,aa⟩)
theorem DW(g:bX)(w:aS)(au:g.sz<=8388608)(hw:w.sz<=8388608):av 175 [.agg g.e,.agg w.e] [.one (B (eF g w))]:=by
 unfold eF;cases h1:fQ g w.queue with
 | false=>exact Zh ⟨vh g _ _ h1 au (aS.Ed hw),rfl,aa⟩
 | true=>
 have c1:=vh g _ _ h1 au (aS.Ed hw);cases U:fQ g w.cm with
 | false=>exact Zi ⟨c1,rfl,vh g _ _ U au (aS.Ek hw),rfl,aa⟩
 | true=>
 have c2:=vh g _ _ U au (aS.Ek hw);cases aw:fQ g w.b8 with
 | false=>exact Zj ⟨c1,rfl,c2,rfl,vh g _ _ aw au (aS.wQ hw),rfl,aa⟩
 | true=>
 have cA:=vh g _ _ aw au (aS.wQ hw);cases aH:jL w.cells with
 | false=>exact Zk ⟨c1,rfl,c2,rfl,cA,rfl,QL aH (aS.BR hw),rfl,aa⟩
 | true=>
 have ed:=QL aH (aS.BR hw);cases aU:(w.bK.length==4) with
 | false=>exact Zl ⟨c1,rfl,c2,rfl,cA,rfl,ed,rfl,s0 aU,aa⟩
 | true=>
 cases bA:(w.bS.length==4) with
 | false=>exact Zm ⟨c1,rfl,c2,rfl,cA,rfl,ed,rfl,fB aU,s0 bA,aa⟩
 | true=>
 cases bP:(w.bC.length==4) with
 | false=>exact Zn ⟨c1,rfl,c2,rfl,cA,rfl,ed,rfl,fB aU,fB bA,s0 bP,aa⟩
 | true=>
 have rG:w.bK.length=4:=eq_of_beq aU;rcases aaZ w (aS.wQ hw) with⟨c',ji⟩ | ⟨c',ji⟩
 case inr=>rw[c'];exact YV ⟨c1,rfl,c2,rfl,cA,rfl,ed,rfl,fB aU,fB bA,fB bP,ji,aa⟩
 have nD:=gN (P:=prog) (c:=(aq f175 1)) w.bK mK (fun i=>tI (w.queue.map aG.e) (w.cm.map aG.e) (w.b8.map aG.e) (w.cells.map Cell.e) (w.bK.map a') (w.bS.map cv) (w.bC.map cv) (w.b4.map cD.e) i) (X:=fun _ _=>JP false) fg (cM 2)
  (fun i a ah h=>YX ⟨dW (by have:=a8 ah;omega),bF,bI (a8 ah),bG a' ah,fz true (by simpa[mK]using h),rfl,df (a8 ah) (aS.Ud hw),aa⟩)
  (fun i a ah h=>YW ⟨dW (by have:=a8 ah;omega),bF,bI (a8 ah),bG a' ah,fz false (by simpa[mK]using h),rfl,aa⟩)
  (YY ⟨eT (by omega),aa⟩)
 rw[c'];rcases nD with⟨_,_,dS,nD⟩ | ⟨_,_,_,_,_,_,dS,nD⟩
 case inr=>rw[dS];exact YZ ⟨c1,rfl,c2,rfl,cA,rfl,ed,rfl,fB aU,fB bA,fB bP,ji,nD,aa⟩
 rw[dS];rcases aa0 w (aS.M0 hw) with⟨dF,uW⟩ | ⟨dF,uW⟩
 ·rw[dF];exact aax ⟨c1,rfl,c2,rfl,cA,rfl,ed,rfl,fB aU,fB bA,fB bP,ji,nD,uW,aa⟩
 rw[dF];exact aaw ⟨c1,rfl,c2,rfl,cA,rfl,ed,rfl,fB aU,fB bA,fB bP,ji,nD,uW,aa⟩
end Go.Proofs.YtdchjefneblpgaaGreat
namespace Go.Proofs.YtdchjefneblpgaaGreat
open Go.Sx Go.RowKit Go.Proofs.Tryz
theorem aa1(w:aS)(al:w.b8.length<=8388608):
  (anyI (lS w.b8) 0 w.b8=false/\c3 prog (aq f187 0) (nK (w.b8.map aG.e) 0 (w.queue.map aG.e) (w.cm.map aG.e) (w.b8.map aG.e) (w.cells.map Cell.e) (w.bK.map a') (w.bS.map cv) (w.bC.map cv) (w.b4.map cD.e)) (.exit 0) (HQ (w.queue.map aG.e) (w.cm.map aG.e) (w.b8.map aG.e) (w.cells.map Cell.e) (w.bK.map a') (w.bS.map cv) (w.bC.map cv) (w.b4.map cD.e)))\/
  (anyI (lS w.b8) 0 w.b8=true/\c3 prog (aq f187 0) (nK (w.b8.map aG.e) 0 (w.queue.map aG.e) (w.cm.map aG.e) (w.b8.map aG.e) (w.cells.map Cell.e) (w.bK.map a') (w.bS.map cv) (w.bC.map cv) (w.b4.map cD.e)) .ret (An false)):=
 tw (P:=prog) (c:=(aq f187 0)) w.b8 (lS w.b8) (fun i=>nK (w.b8.map aG.e) i (w.queue.map aG.e) (w.cm.map aG.e) (w.b8.map aG.e) (w.cells.map Cell.e) (w.bK.map a') (w.bS.map cv) (w.bC.map cv) (w.b4.map cD.e)) fg (cM 0)
  (fun i a ah h=>by
   have hi:=a8 ah;obtain⟨h1,U,rfl | ⟨j,b,rfl,ar,aw⟩⟩:=QP ah h
   ·exact aaG ⟨b' (a8 ah),bF,bI (a8 ah),bG aG.e ah,h1,U,eT (by omega),df (a8 ah) al,aa⟩
   exact aaF ⟨b' (a8 ah),bF,bI (a8 ah),bG aG.e ah,h1,U,dW (by omega),⟨by omega,by omega⟩,by omega,DV ar,DU aG.e ar,aw,df (a8 ah) al,aa⟩)
  (fun i a ah h=>by
   have hi:=a8 ah;rcases QO ah h with h1 | ⟨h1,U⟩ | ⟨h1,U,j,b,rfl,ar,aw⟩
   ·exact aaC ⟨b' (a8 ah),bF,bI (a8 ah),bG aG.e ah,h1,aa⟩
   ·exact aaD ⟨b' (a8 ah),bF,bI (a8 ah),bG aG.e ah,h1,U,aa⟩
   exact aaE ⟨b' (a8 ah),bF,bI (a8 ah),bG aG.e ah,h1,U,dW (by omega),⟨by omega,by omega⟩,by omega,DV ar,DU aG.e ar,aw,aa⟩)
  (aaH ⟨dG,aa⟩)
theorem QQ(xs:List cD)(i:Nat)(e:Int)(r:Bool)(h:(xs.take i).any (fun q=>q.bc==e)=r)(al:xs.length<=8388608):av 281 [.one (.J 2 ((xs.map cD.e).take i)),.one (I e)] [.one (B r)]:=by
 have c:=ZH (xs.take i) e (by rw[oV];omega);rw[q6,h]at c;exact c
theorem acx(w:aS)(al:w.b4.length<=8388608):
  (anyI (lu w.b4) 0 w.b4=false/\c3 prog (aq f187 2) (qD (w.b4.map cD.e) 0 (w.queue.map aG.e) (w.cm.map aG.e) (w.b8.map aG.e) (w.cells.map Cell.e) (w.bK.map a') (w.bS.map cv) (w.bC.map cv) (w.b4.map cD.e)) (.exit 4) JV)\/
  (anyI (lu w.b4) 0 w.b4=true/\c3 prog (aq f187 2) (qD (w.b4.map cD.e) 0 (w.queue.map aG.e) (w.cm.map aG.e) (w.b8.map aG.e) (w.cells.map Cell.e) (w.bK.map a') (w.bS.map cv) (w.bC.map cv) (w.b4.map cD.e)) .ret (CW false)):=
 tw (P:=prog) (c:=(aq f187 2)) w.b4 (lu w.b4) (fun i=>qD (w.b4.map cD.e) i (w.queue.map aG.e) (w.cm.map aG.e) (w.b8.map aG.e) (w.cells.map Cell.e) (w.bK.map a') (w.bS.map cv) (w.bC.map cv) (w.b4.map cD.e)) fg (cM 4)
  (fun i a ah h=>by
   have hi:=a8 ah;simp only[lu,gz,kF]at h;exact Z2 ⟨b' (a8 ah),bF,bI (a8 ah),bG cD.e ah,ix true h.1,rfl,Int.le_refl 0,(bF:(0:Int)<=(i:Int)),(show (i:Int)<=_ by rw[bk];omega),QQ w.b4 i a.bc false h.2 al,rfl,df (a8 ah) al,aa⟩)
  (fun i a ah h=>by
   have hi:=a8 ah;cases h1:ap a.bc 0 3 with
   | false=>exact aaQ ⟨b' (a8 ah),bF,bI (a8 ah),bG cD.e ah,ix false h1,rfl,aa⟩
   | true=>
    simp only[lu,h1,iW,jT]at h;exact aaR ⟨b' (a8 ah),bF,bI (a8 ah),bG cD.e ah,ix true h1,rfl,Int.le_refl 0,(bF:(0:Int)<=(i:Int)),(show (i:Int)<=_ by rw[bk];omega),QQ w.b4 i a.bc true h al,rfl,aa⟩)
  (Z3 ⟨dG,aa⟩)
theorem DX(g:bX)(w:aS)(au:g.sz<=8388608)(hw:w.sz<=8388608):av 187 [.agg g.e,.agg w.e] [.one (B (eF g w))]:=by
 unfold eF;cases h1:fQ g w.queue with
 | false=>exact aay ⟨vi g _ _ h1 au (aS.Ed hw),rfl,aa⟩
 | true=>
 have c1:=vi g _ _ h1 au (aS.Ed hw);cases U:fQ g w.cm with
 | false=>exact aaz ⟨c1,rfl,vi g _ _ U au (aS.Ek hw),rfl,aa⟩
 | true=>
 have c2:=vi g _ _ U au (aS.Ek hw);cases aw:fQ g w.b8 with
 | false=>exact aaA ⟨c1,rfl,c2,rfl,vi g _ _ aw au (aS.wQ hw),rfl,aa⟩
 | true=>
 have cA:=vi g _ _ aw au (aS.wQ hw);cases aH:jL w.cells with
 | false=>exact aaB ⟨c1,rfl,c2,rfl,cA,rfl,QM aH (aS.BR hw),rfl,aa⟩
 | true=>
 have ed:=QM aH (aS.BR hw);rcases aa1 w (aS.wQ hw) with⟨c',ji⟩ | ⟨c',ji⟩
 case inr=>
  rw[c'];simp only[iW,Bool.false_and,Bool.and_false];exact aaI ⟨c1,rfl,c2,rfl,cA,rfl,ed,rfl,ji,aa⟩
 cases aU:(w.bK.length==4) with
 | false=>exact aaJ ⟨c1,rfl,c2,rfl,cA,rfl,ed,rfl,ji,s0 aU,aa⟩
 | true=>
 cases bA:(w.bS.length==4) with
 | false=>exact aaK ⟨c1,rfl,c2,rfl,cA,rfl,ed,rfl,ji,fB aU,s0 bA,aa⟩
 | true=>
 cases bP:(w.bC.length==4) with
 | false=>exact aaL ⟨c1,rfl,c2,rfl,cA,rfl,ed,rfl,ji,fB aU,fB bA,s0 bP,aa⟩
 | true=>
 have nD:=gN (P:=prog) (c:=(aq f187 1)) w.bK mK (fun i=>s7 (w.queue.map aG.e) (w.cm.map aG.e) (w.b8.map aG.e) (w.cells.map Cell.e) (w.bK.map a') (w.bS.map cv) (w.bC.map cv) (w.b4.map cD.e) i) (X:=fun _ _=>JT false) fg (cM 2)
  (fun i a ah h=>aaN ⟨b' (a8 ah),bF,bI (a8 ah),bG a' ah,ix true (by simpa[mK]using h),rfl,df (a8 ah) (aS.Ud hw),aa⟩)
  (fun i a ah h=>aaM ⟨b' (a8 ah),bF,bI (a8 ah),bG a' ah,ix false (by simpa[mK]using h),rfl,aa⟩)
  (aaO ⟨dG,aa⟩)
 rw[c'];rcases nD with⟨_,_,dS,nD⟩ | ⟨_,_,_,_,_,_,dS,nD⟩
 case inr=>rw[dS];exact aaP ⟨c1,rfl,c2,rfl,cA,rfl,ed,rfl,ji,fB aU,fB bA,fB bP,nD,aa⟩
 rw[dS];rcases acx w (aS.M0 hw) with⟨dF,uW⟩ | ⟨dF,uW⟩
 ·rw[dF];exact Z5 ⟨c1,rfl,c2,rfl,cA,rfl,ed,rfl,ji,fB aU,fB bA,fB bP,nD,uW,aa⟩
 rw[dF];exact Z4 ⟨c1,rfl,c2,rfl,cA,rfl,ed,rfl,ji,fB aU,fB bA,fB bP,nD,uW,aa⟩
