import Derived.Test.YtdchjefneblpgaaGreatRows
import Derived.Test.YtdchjefneblpgaaGreatR15
set_option linter.unusedVariables false
set_option linter.unusedSimpArgs false
namespace Go.Proofs.YtdchjefneblpgaaGreat
open Go.Sx Go.RowKit
theorem eN{P:Program}{c:Code}{e:gR}{TK:aD}(he:e.pW≠.normal):∀(n:Nat) (st:Nat->aD),(∀i,i<n->gf P c (st i) .normal (st (i+1)))->gf P c (st n) e TK->cW P c (st 0) e TK
 | 0,_,_,ak=>.last he ak
 | n+1,st,ai,ak=>.more (ai 0 (by omega)) (eN he n (fun i=>st (i+1)) (fun i hi=>ai (i+1) (by omega)) ak)
variable{i:Nat}
theorem bA{α β:Type}{xs:List α}{a:α}(f:α->β)(h:xs[i]?=some a):(xs.map f)[((i:Nat):Int).toNat]?=some (f a):=by simp[h]
theorem b6{α β:Type}{xs:List α}{f:α->β}(h:i<xs.length):decide ((i:Int)<(↑(xs.map f).length:Int))=true:=by simp only[cf,cU];omega
theorem dz{α β:Type}{xs:List α}{f:α->β}:decide ((↑xs.length:Int)<(↑(xs.map f).length:Int))=false:=by simp
theorem bw:0<=(i:Int):=by omega
theorem bE{α β:Type}{xs:List α}{f:α->β}(h:i<xs.length):(i:Int)<(↑(xs.map f).length:Int):=by simp only[cf];omega
theorem dc{α:Type}{xs:List α}(h:i<xs.length)(ap:xs.length<=8388608):aJ IntKind.i64 ((i:Int)+1):=⟨by omega,by omega⟩
theorem cS{α:Type}{xs:List α}{i:Nat}(h:i<xs.length):∃a,xs[i]?=some a:=⟨xs[i],by simp[h]⟩
theorem a1{α:Type}{xs:List α}{a:α}(h:xs[i]?=some a):i<xs.length:=(fy.1 h).1
theorem eA{α:Type}{xs:List α}{i:Nat}{a:α}(h:xs[i]?=some a):a∈xs:=fl h
theorem CH{α:Type}{sz:α->Nat}:∀{xs:List α} {a:α},a∈xs->sz a<=(xs.map sz).sum
 | x::xs,a,h=>by
  rcases ev.1 h with rfl | h
  ·simp
  have:=CH (sz:=sz) h;simp only[lL,A2];omega
def a6(n:Int):List D:=[I n]
def cq(b:Bool):List D:=[B b]
theorem Qg{α:Type}(p:α->Bool):∀(xs:List α),(xs.find? p=none/\∀a∈xs,p a=false)\/∃(i:Nat) (a:α),xs[i]?=some a/\p a=true/\xs.find? p=some a/\∀j b,j<i->xs[j]?=some b->p b=false
 | []=>.inl ⟨rfl,by simp⟩
 | a::xs=>by
  by_cases ag:p a=true
  ·exact .inr ⟨0,a,rfl,ag,by simp[ag],fun j b bg=>by omega⟩
  have BD:p a=false:=by simpa using ag
  rcases Qg p xs with⟨h,U⟩ | ⟨i,x,h1,U,aI,ax⟩
  ·refine .inl ⟨by simp[BD,h],fun b aw=>?_⟩;rcases ev.1 aw with rfl | aw
   ·exact BD
   exact U b aw
  refine .inr ⟨i+1,x,by simpa using h1,U,by simp[BD,aI],fun j b bg aw=>?_⟩;cases j with
  | zero=>simp at aw;subst aw;exact BD
  | succ j=>exact ax j b (by omega) (by simpa using aw)
def rO{α β:Type}(f:β->α->β)(b:β)(xs:List α)(i:Nat):β:=(xs.take i).foldl f b
theorem Qh{α β:Type}{f:β->α->β}{b:β}{xs:List α}{a:α}(h:xs[i]?=some a):rO f b xs (i+1)=f (rO f b xs i) a:=by
 simp[rO,vA,h,List.foldl_append]
theorem Qi{α β:Type}{f:β->α->β}{b:β}{xs:List α}:rO f b xs xs.length=xs.foldl f b:=by simp[rO]
theorem yZ{α:Type}(p:α->Bool){xs:List α}{a:α}(h:xs[i]?=some a):(xs.take (i+1)).filter p=(xs.take i).filter p++(if p a then [a] else []):=by
 simp only[vA,h,EP,List.filter_append,List.filter_cons,List.filter_nil]
theorem dA{α:Type}(f:α->List D)(h:∀a,∀d∈f a,∃x,d=.v x)(xs:List α):Flat (xs.map f):=by
 intro e he d aG;obtain⟨a,_,rfl⟩:=kK.1 he;exact h a d aG
theorem fV{e:List D}(h:∀d∈e,∃x,d=.v x):Flat [e]:=by
 intro e' he;simp at he;subst he;exact h
theorem gy{P:Program}{c:Code}{α:Type}(xs:List α)(p:α->Bool)(st:Nat->aD){e1 e2:gR}{X:Nat->α->aD}{Y:aD}(BJ:e1.pW≠.normal)(p1:e2.pW≠.normal)
  (yi:∀i a,xs[i]?=some a->p a=false->gf P c (st i) .normal (st (i+1))) (FU:∀i a,xs[i]?=some a->p a=true->gf P c (st i) e1 (X i a)) (yh:gf P c (st xs.length) e2 Y):
  (xs.find? p=none/\xs.findIdx? p=none/\xs.any p=false/\cW P c (st 0) e2 Y)\/∃i a,xs[i]?=some a/\p a=true/\xs.find? p=some a/\xs.findIdx? p=some i/\xs.any p=true/\cW P c (st 0) e1 (X i a):=by
 rcases Qg p xs with⟨h1,U⟩ | ⟨i,a,h1,U,ax,aI⟩
 ·refine .inl ⟨h1,?_,?_,eN p1 xs.length st (fun i hi=>?_) yh⟩
  ·rw[EL];exact U
  ·rw[hg];exact fun a ag=>by simp[U a ag]
  obtain⟨a,ag⟩:=cS hi;exact yi i a ag (U a (eA ag))
 refine .inr ⟨i,a,h1,U,ax,?_,qP.2 ⟨a,eA h1,U⟩,eN BJ i st (fun j bg=>?_) (FU i a h1 U)⟩
 ·have hi:=a1 h1;have ag:xs[i]=a:=by rw[iZ hi]at h1;exact gQ h1
  rw[tG];refine⟨hi,by rw[ag];exact U,fun j bg=>?_⟩;have:=aI j xs[j] bg (by simp);simp[this]
 obtain⟨b,aw⟩:=cS (xs:=xs) (i:=j) (by have:=a1 h1;omega);exact yi j b aw (aI j b bg aw)
def anyI{α:Type}(p:Nat->α->Bool):Nat->List α->Bool
 | _,[]=>false
 | k,a::r=>p k a||anyI p (k+1) r
theorem CI{α:Type}{p:Nat->α->Bool}:∀{xs:List α} {k:Nat},anyI p k xs=false->∀i a,xs[i]?=some a->p (k+i) a=false
 | [],k,_,i,a,h=>by simp at h
 | x::xs,k,h,i,a,ag=>by
  simp only[anyI,gn]at h;cases i with
  | zero=>simp at ag;subst ag;exact h.1
  | succ i=>
   have:=CI h.2 i a (by simpa using ag);rwa[show k+1+i=k+(i+1) by omega]at this
theorem IF{α:Type}{p:Nat->α->Bool}:∀{xs:List α} {k:Nat},anyI p k xs=true->∃i a,xs[i]?=some a/\p (k+i) a=true/\∀j b,j<i->xs[j]?=some b->p (k+j) b=false
 | [],k,h=>by simp[anyI]at h
 | x::xs,k,h=>by
  by_cases ak:p k x=true
  ·exact⟨0,x,rfl,ak,fun j b bg=>by omega⟩
  simp only[anyI,pS]at h;obtain⟨i,a,h1,U,ax⟩:=IF (h.resolve_left ak);refine⟨i+1,a,by simpa using h1,by rw[show k+(i+1)=k+1+i by omega];exact U,fun j b bg aw=>?_⟩;cases j with
  | zero=>simp at aw;subst aw;simpa using ak
  | succ j=>rw[show k+(j+1)=k+1+j by omega];exact ax j b (by omega) (by simpa using aw)
theorem s'{P:Program}{c:Code}{α:Type}(xs:List α)(p:Nat->α->Bool)(st:Nat->aD){e1 e2:gR}{X Y:aD}(BJ:e1.pW≠.normal)(p1:e2.pW≠.normal)
  (yi:∀i a,xs[i]?=some a->p i a=false->gf P c (st i) .normal (st (i+1))) (FU:∀i a,xs[i]?=some a->p i a=true->gf P c (st i) e1 X) (yh:gf P c (st xs.length) e2 Y):
  (anyI p 0 xs=false/\cW P c (st 0) e2 Y)\/(anyI p 0 xs=true/\cW P c (st 0) e1 X):=by
 cases h:anyI p 0 xs with
 | false=>
  refine .inl ⟨rfl,eN p1 xs.length st (fun i hi=>?_) yh⟩;obtain⟨a,ag⟩:=cS hi;have:=CI h i a ag;rw[dF]at this;exact yi i a ag this
 | true=>
  obtain⟨i,a,h1,U,ax⟩:=IF h;rw[dF]at U;refine .inr ⟨rfl,eN BJ i st (fun j bg=>?_) (FU i a h1 U)⟩;obtain⟨b,aw⟩:=cS (xs:=xs) (i:=j) (by have:=a1 h1;omega);have:=ax j b bg aw;rw[dF]at this;exact yi j b aw this
