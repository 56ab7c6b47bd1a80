import Derived.Test.YthfnndblgbjniaaGreatDoorRows
import Derived.Test.YthfnndblgbjniaaGreatDoorR15
set_option linter.unusedVariables false
set_option linter.unusedSimpArgs false
namespace Go.Proofs.YthfnndblgbjniaaGreatDoor
open Go.Sx Go.RowKit
theorem er{P:Program}{c:Code}{e:hD}{VM:aF}(he:e.qV≠.normal):∀(n:Nat) (st:Nat->aF),(∀i,i<n->gP P c (st i) .normal (st (i+1)))->gP P c (st n) e VM->c6 P c (st 0) e VM
 | 0,_,_,aq=>.last he aq
 | n+1,st,ak,aq=>.more (ak 0 (by omega)) (er he n (fun i=>st (i+1)) (fun i hi=>ak (i+1) (by omega)) aq)
variable{i:Nat}
theorem bC{α β:Type}{xs:List α}{a:α}(f:α->β)(h:xs[i]?=some a):(xs.map f)[((i:Nat):Int).toNat]?=some (f a):=by simp[h]
theorem cc{α β:Type}{xs:List α}{f:α->β}(h:i<xs.length):decide ((i:Int)<(↑(xs.map f).length:Int))=true:=by simp only[cr,c3];omega
theorem dG{α β:Type}{xs:List α}{f:α->β}:decide ((↑xs.length:Int)<(↑(xs.map f).length:Int))=false:=by simp
theorem bB:0<=(i:Int):=by omega
theorem bI{α β:Type}{xs:List α}{f:α->β}(h:i<xs.length):(i:Int)<(↑(xs.map f).length:Int):=by simp only[cr];omega
theorem dc{α:Type}{xs:List α}(h:i<xs.length)(ar:xs.length<=8388608):aK IntKind.i64 ((i:Int)+1):=⟨by omega,by omega⟩
theorem c2{α:Type}{xs:List α}{i:Nat}(h:i<xs.length):∃a,xs[i]?=some a:=⟨xs[i],by simp[h]⟩
theorem a7{α:Type}{xs:List α}{a:α}(h:xs[i]?=some a):i<xs.length:=(fP.1 h).1
theorem eQ{α:Type}{xs:List α}{i:Nat}{a:α}(h:xs[i]?=some a):a∈xs:=fI h
theorem DB{α:Type}{sz:α->Nat}:∀{xs:List α} {a:α},a∈xs->sz a<=(xs.map sz).sum
 | x::xs,a,h=>by
  rcases eK.1 h with rfl | h
  ·simp
  have:=DB (sz:=sz) h;simp only[mM,Gl];omega
def bb(n:Int):List D:=[I n]
def cp(b:Bool):List D:=[B b]
theorem RD{α:Type}(p:α->Bool):∀(xs:List α),(xs.find? p=none/\∀a∈xs,p a=false)\/∃(i:Nat) (a:α),xs[i]?=some a/\p a=true/\xs.find? p=some a/\∀j b,j<i->xs[j]?=some b->p b=false
 | []=>.inl ⟨rfl,by simp⟩
 | a::xs=>by
  by_cases aj:p a=true
  ·exact .inr ⟨0,a,rfl,aj,by simp[aj],fun j b bm=>by omega⟩
  have CM:p a=false:=by simpa using aj
  rcases RD p xs with⟨h,aa⟩ | ⟨i,x,U,aa,aJ,aB⟩
  ·refine .inl ⟨by simp[CM,h],fun b ay=>?_⟩;rcases eK.1 ay with rfl | ay
   ·exact CM
   exact aa b ay
  refine .inr ⟨i+1,x,by simpa using U,aa,by simp[CM,aJ],fun j b bm ay=>?_⟩;cases j with
  | zero=>simp at ay;subst ay;exact CM
  | succ j=>exact aB j b (by omega) (by simpa using ay)
def sW{α β:Type}(f:β->α->β)(b:β)(xs:List α)(i:Nat):β:=(xs.take i).foldl f b
theorem RE{α β:Type}{f:β->α->β}{b:β}{xs:List α}{a:α}(h:xs[i]?=some a):sW f b xs (i+1)=f (sW f b xs i) a:=by
 simp[sW,wL,h,List.foldl_append]
theorem RF{α β:Type}{f:β->α->β}{b:β}{xs:List α}:sW f b xs xs.length=xs.foldl f b:=by simp[sW]
theorem yi{α:Type}(p:α->Bool){xs:List α}{a:α}(h:xs[i]?=some a):(xs.take (i+1)).filter p=(xs.take i).filter p++(if p a then [a] else []):=by
 simp only[wL,h,Gj,List.filter_append,List.filter_cons,List.filter_nil]
theorem dE{α:Type}(f:α->List D)(h:∀a,∀d∈f a,∃x,d=.v x)(xs:List α):Flat (xs.map f):=by
 intro e he d aI;obtain⟨a,_,rfl⟩:=mO.1 he;exact h a d aI
theorem fA{e:List D}(h:∀d∈e,∃x,d=.v x):Flat [e]:=by
 intro e' he;simp at he;subst he;exact h
theorem gI{P:Program}{c:Code}{α:Type}(xs:List α)(p:α->Bool)(st:Nat->aF){e1 e2:hD}{X:Nat->α->aF}{Y:aF}(CS:e1.qV≠.normal)(q2:e2.qV≠.normal)
  (zk:∀i a,xs[i]?=some a->p a=false->gP P c (st i) .normal (st (i+1))) (Hu:∀i a,xs[i]?=some a->p a=true->gP P c (st i) e1 (X i a)) (zj:gP P c (st xs.length) e2 Y):
  (xs.find? p=none/\xs.findIdx? p=none/\xs.any p=false/\c6 P c (st 0) e2 Y)\/∃i a,xs[i]?=some a/\p a=true/\xs.find? p=some a/\xs.findIdx? p=some i/\xs.any p=true/\c6 P c (st 0) e1 (X i a):=by
 rcases RD p xs with⟨U,aa⟩ | ⟨i,a,U,aa,aB,aJ⟩
 ·refine .inl ⟨U,?_,?_,er q2 xs.length st (fun i hi=>?_) zj⟩
  ·rw[Gf];exact aa
  ·rw[hW];exact fun a aj=>by simp[aa a aj]
  obtain⟨a,aj⟩:=c2 hi;exact zk i a aj (aa a (eQ aj))
 refine .inr ⟨i,a,U,aa,aB,?_,rU.2 ⟨a,eQ U,aa⟩,er CS i st (fun j bm=>?_) (Hu i a U aa)⟩
 ·have hi:=a7 U;have aj:xs[i]=a:=by rw[iB hi]at U;exact gd U
  rw[tg];refine⟨hi,by rw[aj];exact aa,fun j bm=>?_⟩;have:=aJ j xs[j] bm (by simp);simp[this]
 obtain⟨b,ay⟩:=c2 (xs:=xs) (i:=j) (by have:=a7 U;omega);exact zk j b ay (aJ j b bm ay)
def anyI{α:Type}(p:Nat->α->Bool):Nat->List α->Bool
 | _,[]=>false
 | k,a::r=>p k a||anyI p (k+1) r
theorem EN{α:Type}{p:Nat->α->Bool}:∀{xs:List α} {k:Nat},anyI p k xs=false->∀i a,xs[i]?=some a->p (k+i) a=false
 | [],k,_,i,a,h=>by simp at h
 | x::xs,k,h,i,a,aj=>by
  simp only[anyI,gX]at h;cases i with
  | zero=>simp at aj;subst aj;exact h.1
  | succ i=>
   have:=EN h.2 i a (by simpa using aj);rwa[show k+1+i=k+(i+1) by omega]at this
theorem J4{α:Type}{p:Nat->α->Bool}:∀{xs:List α} {k:Nat},anyI p k xs=true->∃i a,xs[i]?=some a/\p (k+i) a=true/\∀j b,j<i->xs[j]?=some b->p (k+j) b=false
 | [],k,h=>by simp[anyI]at h
 | x::xs,k,h=>by
  by_cases aq:p k x=true
  ·exact⟨0,x,rfl,aq,fun j b bm=>by omega⟩
  simp only[anyI,qQ]at h;obtain⟨i,a,U,aa,aB⟩:=J4 (h.resolve_left aq);refine⟨i+1,a,by simpa using U,by rw[show k+(i+1)=k+1+i by omega];exact aa,fun j b bm ay=>?_⟩;cases j with
  | zero=>simp at ay;subst ay;simpa using aq
  | succ j=>rw[show k+(j+1)=k+1+j by omega];exact aB j b (by omega) (by simpa using ay)
theorem uu{P:Program}{c:Code}{α:Type}(xs:List α)(p:Nat->α->Bool)(st:Nat->aF){e1 e2:hD}{X Y:aF}(CS:e1.qV≠.normal)(q2:e2.qV≠.normal)
  (zk:∀i a,xs[i]?=some a->p i a=false->gP P c (st i) .normal (st (i+1))) (Hu:∀i a,xs[i]?=some a->p i a=true->gP P c (st i) e1 X) (zj:gP P c (st xs.length) e2 Y):
  (anyI p 0 xs=false/\c6 P c (st 0) e2 Y)\/(anyI p 0 xs=true/\c6 P c (st 0) e1 X):=by
 cases h:anyI p 0 xs with
 | false=>
  refine .inl ⟨rfl,er q2 xs.length st (fun i hi=>?_) zj⟩;obtain⟨a,aj⟩:=c2 hi;have:=EN h i a aj;rw[dW]at this;exact zk i a aj this
 | true=>
  obtain⟨i,a,U,aa,aB⟩:=J4 h;rw[dW]at aa;refine .inr ⟨rfl,er CS i st (fun j bm=>?_) (Hu i a U aa)⟩;obtain⟨b,ay⟩:=c2 (xs:=xs) (i:=j) (by have:=a7 U;omega);have:=aB j b bm ay;rw[dW]at this;exact zk j b ay this
