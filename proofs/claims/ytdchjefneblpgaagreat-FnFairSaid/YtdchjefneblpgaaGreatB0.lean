import Derived.Test.YtdchjefneblpgaaGreatRows
import Derived.Test.YtdchjefneblpgaaGreatR15
set_option linter.unusedVariables false
set_option linter.unusedSimpArgs false
namespace Go.Proofs.YtdchjefneblpgaaGreat
open Go.Sx Go.RowKit
theorem dY{P:Program}{c:Code}{e:hV}{stE:aC}(he:e.p2≠.normal):∀(n:Nat) (st:Nat->aC),(∀i,i<n->fX P c (st i) .normal (st (i+1)))->fX P c (st n) e stE->c8 P c (st 0) e stE
 | 0,_,_,af=>.last he af
 | n+1,st,ao,af=>.more (ao 0 (by omega)) (dY he n (fun i=>st (i+1)) (fun i hi=>ao (i+1) (by omega)) af)
theorem ax9{P:Program}{c:Code}{e:hV}{stE:aC}(he:e.p2≠.normal)(k n:Nat)(st:Nat->aC)(Rq:k<=n)(ao:∀i,k<=i->i<n->fX P c (st i) .normal (st (i+1)))(af:fX P c (st n) e stE):c8 P c (st k) e stE:=by
 have:=dY (P:=P) (c:=c) he (n-k) (fun i=>st (k+i)) (fun i hi=>ao (k+i) (by omega) (by omega)) (by rw[show k+(n-k)=n by omega];exact af);simpa using this
variable{i:Nat}
theorem bC{α β:Type}{xs:List α}{a:α}(f:α->β)(h:xs[i]?=some a):(xs.map f)[((i:Nat):Int).toNat]?=some (f a):=by simp[h]
theorem b5{α β:Type}{xs:List α}{f:α->β}(h:i<xs.length):decide ((i:Int)<(↑(xs.map f).length:Int))=true:=by simp only[ct,ck];omega
theorem dw{α β:Type}{xs:List α}{f:α->β}:decide ((↑xs.length:Int)<(↑(xs.map f).length:Int))=false:=by simp
theorem bA:0<=(i:Int):=by omega
theorem bH{α β:Type}{xs:List α}{f:α->β}(h:i<xs.length):(i:Int)<(↑(xs.map f).length:Int):=by simp only[ct];omega
theorem db{α:Type}{xs:List α}(h:i<xs.length)(al:xs.length<=8388608):aL IntKind.i64 ((i:Int)+1):=⟨by omega,by omega⟩
theorem c4{α:Type}{xs:List α}{i:Nat}(h:i<xs.length):∃a,xs[i]?=some a:=⟨xs[i],by simp[h]⟩
theorem a1{α:Type}{xs:List α}{a:α}(h:xs[i]?=some a):i<xs.length:=(gk.1 h).1
theorem c9{α:Type}{xs:List α}{i:Nat}{a:α}(h:xs[i]?=some a):a∈xs:=gb h
theorem Af{α:Type}{sz:α->Nat}:∀{xs:List α} {a:α},a∈xs->sz a<=(xs.map sz).sum
 | x::xs,a,h=>by
  rcases eH.1 h with rfl | h
  ·simp
  have:=Af (sz:=sz) h;simp only[lN,wx];omega
def bc(n:Int):List D:=[I n]
def cv(b:Bool):List D:=[B b]
theorem FN{α:Type}(p:α->Bool):∀(xs:List α),(xs.find? p=none/\∀a∈xs,p a=false)\/∃(i:Nat) (a:α),xs[i]?=some a/\p a=true/\xs.find? p=some a/\∀j b,j<i->xs[j]?=some b->p b=false
 | []=>.inl ⟨rfl,by simp⟩
 | a::xs=>by
  by_cases ai:p a=true
  ·exact .inr ⟨0,a,rfl,ai,by simp[ai],fun j b bk=>by omega⟩
  have E0:p a=false:=by simpa using ai
  rcases FN p xs with⟨h,U⟩ | ⟨i,x,h1,U,aJ,aA⟩
  ·refine .inl ⟨by simp[E0,h],fun b aw=>?_⟩;rcases eH.1 aw with rfl | aw
   ·exact E0
   exact U b aw
  refine .inr ⟨i+1,x,by simpa using h1,U,by simp[E0,aJ],fun j b bk aw=>?_⟩;cases j with
  | zero=>simp at aw;subst aw;exact E0
  | succ j=>exact aA j b (by omega) (by simpa using aw)
def ud{α β:Type}(f:β->α->β)(b:β)(xs:List α)(i:Nat):β:=(xs.take i).foldl f b
theorem TJ{α β:Type}{f:β->α->β}{b:β}{xs:List α}{a:α}(h:xs[i]?=some a):ud f b xs (i+1)=f (ud f b xs i) a:=by
 simp[ud,qH,h,List.foldl_append]
theorem TK{α β:Type}{f:β->α->β}{b:β}{xs:List α}:ud f b xs xs.length=xs.foldl f b:=by simp[ud]
theorem Ag{α:Type}(p:α->Bool){xs:List α}{a:α}(h:xs[i]?=some a):(xs.take (i+1)).filter p=(xs.take i).filter p++(if p a then [a] else []):=by
 simp only[qH,h,yD,List.filter_append,List.filter_cons,List.filter_nil]
theorem dz{α:Type}(f:α->List D)(h:∀a,∀d∈f a,∃x,d=.v x)(xs:List α):Flat (xs.map f):=by
 intro e he d aE;obtain⟨a,_,rfl⟩:=lh.1 he;exact h a d aE
theorem fE{e:List D}(h:∀d∈e,∃x,d=.v x):Flat [e]:=by
 intro e' he;simp at he;subst he;exact h
theorem gv{P:Program}{c:Code}{α:Type}(xs:List α)(p:α->Bool)(st:Nat->aC){e1 e2:hV}{X:Nat->α->aC}{Y:aC}(E5:e1.p2≠.normal)(sg:e2.p2≠.normal)
  (Bz:∀i a,xs[i]?=some a->p a=false->fX P c (st i) .normal (st (i+1))) (JW:∀i a,xs[i]?=some a->p a=true->fX P c (st i) e1 (X i a)) (u5:fX P c (st xs.length) e2 Y):
  (xs.find? p=none/\xs.findIdx? p=none/\xs.any p=false/\c8 P c (st 0) e2 Y)\/∃i a,xs[i]?=some a/\p a=true/\xs.find? p=some a/\xs.findIdx? p=some i/\xs.any p=true/\c8 P c (st 0) e1 (X i a):=by
 rcases FN p xs with⟨h1,U⟩ | ⟨i,a,h1,U,aA,aJ⟩
 ·refine .inl ⟨h1,?_,?_,dY sg xs.length st (fun i hi=>?_) u5⟩
  ·rw[IM];exact U
  ·rw[ft];exact fun a ai=>by simp[U a ai]
  obtain⟨a,ai⟩:=c4 hi;exact Bz i a ai (U a (c9 ai))
 refine .inr ⟨i,a,h1,U,aA,?_,oK.2 ⟨a,c9 h1,U⟩,dY E5 i st (fun j bk=>?_) (JW i a h1 U)⟩
 ·have hi:=a1 h1;have ai:xs[i]=a:=by rw[iD hi]at h1;exact gJ h1
  rw[uG];refine⟨hi,by rw[ai];exact U,fun j bk=>?_⟩;have:=aJ j xs[j] bk (by simp);simp[this]
 obtain⟨b,aw⟩:=c4 (xs:=xs) (i:=j) (by have:=a1 h1;omega);exact Bz j b aw (aJ j b bk aw)
def anyI{α:Type}(p:Nat->α->Bool):Nat->List α->Bool
 | _,[]=>false
 | k,a::r=>p k a||anyI p (k+1) r
theorem C'{α:Type}{p:Nat->α->Bool}:∀{xs:List α} {k:Nat},anyI p k xs=false->∀i a,xs[i]?=some a->p (k+i) a=false
 | [],k,_,i,a,h=>by simp at h
 | x::xs,k,h,i,a,ai=>by
  simp only[anyI,gl]at h;cases i with
  | zero=>simp at ai;subst ai;exact h.1
  | succ i=>
   have:=C' h.2 i a (by simpa using ai);rwa[show k+1+i=k+(i+1) by omega]at this
theorem Ms{α:Type}{p:Nat->α->Bool}:∀{xs:List α} {k:Nat},anyI p k xs=true->∃i a,xs[i]?=some a/\p (k+i) a=true/\∀j b,j<i->xs[j]?=some b->p (k+j) b=false
 | [],k,h=>by simp[anyI]at h
 | x::xs,k,h=>by
  by_cases af:p k x=true
  ·exact⟨0,x,rfl,af,fun j b bk=>by omega⟩
  simp only[anyI,pV]at h;obtain⟨i,a,h1,U,aA⟩:=Ms (h.resolve_left af);refine⟨i+1,a,by simpa using h1,by rw[show k+(i+1)=k+1+i by omega];exact U,fun j b bk aw=>?_⟩;cases j with
  | zero=>simp at aw;subst aw;simpa using af
  | succ j=>rw[show k+(j+1)=k+1+j by omega];exact aA j b (by omega) (by simpa using aw)
theorem vJ{P:Program}{c:Code}{α:Type}(xs:List α)(p:Nat->α->Bool)(st:Nat->aC){e1 e2:hV}{X Y:aC}(E5:e1.p2≠.normal)(sg:e2.p2≠.normal)
  (Bz:∀i a,xs[i]?=some a->p i a=false->fX P c (st i) .normal (st (i+1))) (JW:∀i a,xs[i]?=some a->p i a=true->fX P c (st i) e1 X) (u5:fX P c (st xs.length) e2 Y):
  (anyI p 0 xs=false/\c8 P c (st 0) e2 Y)\/(anyI p 0 xs=true/\c8 P c (st 0) e1 X):=by
 cases h:anyI p 0 xs with
 | false=>
  refine .inl ⟨rfl,dY sg xs.length st (fun i hi=>?_) u5⟩;obtain⟨a,ai⟩:=c4 hi;have:=C' h i a ai;rw[dV]at this;exact Bz i a ai this
 | true=>
  obtain⟨i,a,h1,U,aA⟩:=Ms h;rw[dV]at U;refine .inr ⟨rfl,dY E5 i st (fun j bk=>?_) (JW i a h1 U)⟩;obtain⟨b,aw⟩:=c4 (xs:=xs) (i:=j) (by have:=a1 h1;omega);have:=aA j b bk aw;rw[dV]at this;exact Bz j b aw this
