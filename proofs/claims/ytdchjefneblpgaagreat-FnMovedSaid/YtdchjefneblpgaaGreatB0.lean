import Derived.Test.YtdchjefneblpgaaGreatRows
import Derived.Test.YtdchjefneblpgaaGreatR15
set_option linter.unusedVariables false
set_option linter.unusedSimpArgs false
namespace Go.Proofs.YtdchjefneblpgaaGreat
open Go.Sx Go.RowKit
theorem e7{P:Program}{c:Code}{e:hb}{stE:aH}(he:e.oi≠.normal):∀(n:Nat) (st:Nat->aH),(∀i,i<n->fz P c (st i) .normal (st (i+1)))->fz P c (st n) e stE->c0 P c (st 0) e stE
 | 0,_,_,ag=>.last he ag
 | n+1,st,ai,ag=>.more (ai 0 (by omega)) (e7 he n (fun i=>st (i+1)) (fun i hi=>ai (i+1) (by omega)) ag)
theorem aks{P:Program}{c:Code}{e:hb}{stE:aH}(he:e.oi≠.normal)(k n:Nat)(st:Nat->aH)(Nu:k<=n)(ai:∀i,k<=i->i<n->fz P c (st i) .normal (st (i+1)))(ag:fz P c (st n) e stE):c0 P c (st k) e stE:=by
 have:=e7 (P:=P) (c:=c) he (n-k) (fun i=>st (k+i)) (fun i hi=>ai (k+i) (by omega) (by omega)) (by rw[show k+(n-k)=n by omega];exact ag);simpa using this
theorem bF{α β:Type}{xs:List α}{i:Nat}{a:α}(f:α->β)(h:xs[i]?=some a):(xs.map f)[((i:Nat):Int).toNat]?=some (f a):=by simp[h]
variable{i:Nat}
theorem cf{α β:Type}{xs:List α}{f:α->β}(h:i<xs.length):decide ((i:Int)<(↑(xs.map f).length:Int))=true:=by simp only[bm,cK];omega
theorem dU{α β:Type}{xs:List α}{f:α->β}:decide ((↑xs.length:Int)<(↑(xs.map f).length:Int))=false:=by simp
theorem bG:0<=(i:Int):=by omega
theorem bL{α β:Type}{xs:List α}{f:α->β}(h:i<xs.length):(i:Int)<(↑(xs.map f).length:Int):=by simp only[bm];omega
theorem dw{α:Type}{xs:List α}(h:i<xs.length)(ak:xs.length<=8388608):az IntKind.i64 ((i:Int)+1):=⟨by omega,by omega⟩
theorem cY{α:Type}{xs:List α}{i:Nat}(h:i<xs.length):∃a,xs[i]?=some a:=⟨xs[i],by simp[h]⟩
theorem a6{α:Type}{xs:List α}{a:α}(h:xs[i]?=some a):i<xs.length:=(eu.1 h).1
theorem eX{α:Type}{xs:List α}{i:Nat}{a:α}(h:xs[i]?=some a):a∈xs:=fp h
theorem C1{α:Type}{sz:α->Nat}:∀{xs:List α} {a:α},a∈xs->sz a<=(xs.map sz).sum
 | x::xs,a,h=>by
  rcases et.1 h with rfl | h
  ·simp
  have:=C1 (sz:=sz) h;simp only[l2,uo];omega
def a8(n:Int):List D:=[I n]
def cu(b:Bool):List D:=[B b]
theorem PO{α:Type}(p:α->Bool):∀(xs:List α),(xs.find? p=none/\∀a∈xs,p a=false)\/∃(i:Nat) (a:α),xs[i]?=some a/\p a=true/\xs.find? p=some a/\∀j b,j<i->xs[j]?=some b->p b=false
 | []=>.inl ⟨rfl,by simp⟩
 | a::xs=>by
  by_cases aj:p a=true
  ·exact .inr ⟨0,a,rfl,aj,by simp[aj],fun j b a'=>by omega⟩
  have B5:p a=false:=by simpa using aj
  rcases PO p xs with⟨h,U⟩ | ⟨i,x,h1,U,aK,ax⟩
  ·refine .inl ⟨by simp[B5,h],fun b aq=>?_⟩;rcases et.1 aq with rfl | aq
   ·exact B5
   exact U b aq
  refine .inr ⟨i+1,x,by simpa using h1,U,by simp[B5,aK],fun j b a' aq=>?_⟩;cases j with
  | zero=>simp at aq;subst aq;exact B5
  | succ j=>exact ax j b (by omega) (by simpa using aq)
def vO{α β:Type}(f:β->α->β)(b:β)(xs:List α)(i:Nat):β:=(xs.take i).foldl f b
theorem akt{α β:Type}{f:β->α->β}{b:β}{xs:List α}{a:α}(h:xs[i]?=some a):vO f b xs (i+1)=f (vO f b xs i) a:=by
 simp[vO,sE,h,List.foldl_append]
theorem aku{α β:Type}{f:β->α->β}{b:β}{xs:List α}:vO f b xs xs.length=xs.foldl f b:=by simp[vO]
theorem Is{α:Type}(p:α->Bool){xs:List α}{a:α}(h:xs[i]?=some a):(xs.take (i+1)).filter p=(xs.take i).filter p++(if p a then [a] else []):=by
 simp only[sE,h,Fl,List.filter_append,List.filter_cons,List.filter_nil]
theorem cr{α:Type}(f:α->List D)(h:∀a,∀d∈f a,∃x,d=.v x)(xs:List α):Flat (xs.map f):=by
 intro e he d aE;obtain⟨a,_,rfl⟩:=k2.1 he;exact h a d aE
theorem dG{e:List D}(h:∀d∈e,∃x,d=.v x):Flat [e]:=by
 intro e' he;simp at he;subst he;exact h
theorem hh{P:Program}{c:Code}{α:Type}(xs:List α)(p:α->Bool)(st:Nat->aH){e1 e2:hb}{X:Nat->α->aH}{Y:aH}(wJ:e1.oi≠.normal)(mA:e2.oi≠.normal)
  (yM:∀i a,xs[i]?=some a->p a=false->fz P c (st i) .normal (st (i+1))) (Gl:∀i a,xs[i]?=some a->p a=true->fz P c (st i) e1 (X i a)) (yL:fz P c (st xs.length) e2 Y):
  (xs.find? p=none/\xs.findIdx? p=none/\xs.any p=false/\c0 P c (st 0) e2 Y)\/∃i a,xs[i]?=some a/\p a=true/\xs.find? p=some a/\xs.findIdx? p=some i/\xs.any p=true/\c0 P c (st 0) e1 (X i a):=by
 rcases PO p xs with⟨h1,U⟩ | ⟨i,a,h1,U,ax,aK⟩
 ·refine .inl ⟨h1,?_,?_,e7 mA xs.length st (fun i hi=>?_) yL⟩
  ·rw[Mu];exact U
  ·rw[hr];exact fun a aj=>by simp[U a aj]
  obtain⟨a,aj⟩:=cY hi;exact yM i a aj (U a (eX aj))
 refine .inr ⟨i,a,h1,U,ax,?_,qk.2 ⟨a,eX h1,U⟩,e7 wJ i st (fun j a'=>?_) (Gl i a h1 U)⟩
 ·have hi:=a6 h1;have aj:xs[i]=a:=by rw[gp hi]at h1;exact eL h1
  rw[x8];refine⟨hi,by rw[aj];exact U,fun j a'=>?_⟩;have:=aK j xs[j] a' (by simp);simp[this]
 obtain⟨b,aq⟩:=cY (xs:=xs) (i:=j) (by have:=a6 h1;omega);exact yM j b aq (aK j b a' aq)
def anyI{α:Type}(p:Nat->α->Bool):Nat->List α->Bool
 | _,[]=>false
 | k,a::r=>p k a||anyI p (k+1) r
theorem C2{α:Type}{p:Nat->α->Bool}:∀{xs:List α} {k:Nat},anyI p k xs=false->∀i a,xs[i]?=some a->p (k+i) a=false
 | [],k,_,i,a,h=>by simp at h
 | x::xs,k,h,i,a,aj=>by
  simp only[anyI,gq]at h;cases i with
  | zero=>simp at aj;subst aj;exact h.1
  | succ i=>
   have:=C2 h.2 i a (by simpa using aj);rwa[show k+1+i=k+(i+1) by omega]at this
theorem It{α:Type}{p:Nat->α->Bool}:∀{xs:List α} {k:Nat},anyI p k xs=true->∃i a,xs[i]?=some a/\p (k+i) a=true/\∀j b,j<i->xs[j]?=some b->p (k+j) b=false
 | [],k,h=>by simp[anyI]at h
 | x::xs,k,h=>by
  by_cases ag:p k x=true
  ·exact⟨0,x,rfl,ag,fun j b a'=>by omega⟩
  simp only[anyI,n3]at h;obtain⟨i,a,h1,U,ax⟩:=It (h.resolve_left ag);refine⟨i+1,a,by simpa using h1,by rw[show k+(i+1)=k+1+i by omega];exact U,fun j b a' aq=>?_⟩;cases j with
  | zero=>simp at aq;subst aq;simpa using ag
  | succ j=>rw[show k+(j+1)=k+1+j by omega];exact ax j b (by omega) (by simpa using aq)
theorem tG{P:Program}{c:Code}{α:Type}(xs:List α)(p:Nat->α->Bool)(st:Nat->aH){e1 e2:hb}{X Y:aH}(wJ:e1.oi≠.normal)(mA:e2.oi≠.normal)
  (yM:∀i a,xs[i]?=some a->p i a=false->fz P c (st i) .normal (st (i+1))) (Gl:∀i a,xs[i]?=some a->p i a=true->fz P c (st i) e1 X) (yL:fz P c (st xs.length) e2 Y):
  (anyI p 0 xs=false/\c0 P c (st 0) e2 Y)\/(anyI p 0 xs=true/\c0 P c (st 0) e1 X):=by
 cases h:anyI p 0 xs with
 | false=>
  refine .inl ⟨rfl,e7 mA xs.length st (fun i hi=>?_) yL⟩;obtain⟨a,aj⟩:=cY hi;have:=C2 h i a aj;rw[dx]at this;exact yM i a aj this
 | true=>
  obtain⟨i,a,h1,U,ax⟩:=It h;rw[dx]at U;refine .inr ⟨rfl,e7 wJ i st (fun j a'=>?_) (Gl i a h1 U)⟩;obtain⟨b,aq⟩:=cY (xs:=xs) (i:=j) (by have:=a6 h1;omega);have:=ax j b a' aq;rw[dx]at this;exact yM j b aq this
