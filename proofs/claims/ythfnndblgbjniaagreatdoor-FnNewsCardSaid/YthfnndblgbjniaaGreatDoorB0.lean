import Derived.Test.YthfnndblgbjniaaGreatDoorRows
import Derived.Test.YthfnndblgbjniaaGreatDoorR15
set_option linter.unusedVariables false
set_option linter.unusedSimpArgs false
namespace Go.Proofs.YthfnndblgbjniaaGreatDoor
open Go.Sx Go.RowKit
theorem eu{P:Program}{c:Code}{e:gQ}{stE:aD}(he:e.pC≠.normal):∀(n:Nat) (st:Nat->aD),(∀i,i<n->fJ P c (st i) .normal (st (i+1)))->fJ P c (st n) e stE->c0 P c (st 0) e stE
 | 0,_,_,ao=>.last he ao
 | n+1,st,aj,ao=>.more (aj 0 (by omega)) (eu he n (fun i=>st (i+1)) (fun i hi=>aj (i+1) (by omega)) ao)
variable{i:Nat}
theorem bp{α β:Type}{xs:List α}{a:α}(f:α->β)(h:xs[i]?=some a):(xs.map f)[((i:Nat):Int).toNat]?=some (f a):=by simp[h]
theorem b3{α β:Type}{xs:List α}{f:α->β}(h:i<xs.length):decide ((i:Int)<(↑(xs.map f).length:Int))=true:=by simp only[cr,cW];omega
theorem dv{α β:Type}{xs:List α}{f:α->β}:decide ((↑xs.length:Int)<(↑(xs.map f).length:Int))=false:=by simp
theorem bn:0<=(i:Int):=by omega
theorem bt{α β:Type}{xs:List α}{f:α->β}(h:i<xs.length):(i:Int)<(↑(xs.map f).length:Int):=by simp only[cr];omega
theorem cT{α:Type}{xs:List α}(h:i<xs.length)(au:xs.length<=8388608):aK IntKind.i64 ((i:Int)+1):=⟨by omega,by omega⟩
theorem cS{α:Type}{xs:List α}{i:Nat}(h:i<xs.length):∃a,xs[i]?=some a:=⟨xs[i],by simp[h]⟩
theorem aZ{α:Type}{xs:List α}{a:α}(h:xs[i]?=some a):i<xs.length:=(fA.1 h).1
theorem ee{α:Type}{xs:List α}{i:Nat}{a:α}(h:xs[i]?=some a):a∈xs:=fe h
theorem CS{α:Type}{sz:α->Nat}:∀{xs:List α} {a:α},a∈xs->sz a<=(xs.map sz).sum
 | x::xs,a,h=>by
  rcases ep.1 h with rfl | h
  ·simp
  have:=CS (sz:=sz) h;simp only[lu,Aq];omega
def ba(n:Int):List D:=[I n]
def cu(b:Bool):List D:=[B b]
theorem CT{α:Type}(p:α->Bool):∀(xs:List α),(xs.find? p=none/\∀a∈xs,p a=false)\/∃(i:Nat) (a:α),xs[i]?=some a/\p a=true/\xs.find? p=some a/\∀j b,j<i->xs[j]?=some b->p b=false
 | []=>.inl ⟨rfl,by simp⟩
 | a::xs=>by
  by_cases ai:p a=true
  ·exact .inr ⟨0,a,rfl,ai,by simp[ai],fun j b bm=>by omega⟩
  have AX:p a=false:=by simpa using ai
  rcases CT p xs with⟨h,aa⟩ | ⟨i,x,U,aa,aO,aA⟩
  ·refine .inl ⟨by simp[AX,h],fun b aw=>?_⟩;rcases ep.1 aw with rfl | aw
   ·exact AX
   exact aa b aw
  refine .inr ⟨i+1,x,by simpa using U,aa,by simp[AX,aO],fun j b bm aw=>?_⟩;cases j with
  | zero=>simp at aw;subst aw;exact AX
  | succ j=>exact aA j b (by omega) (by simpa using aw)
def uT{α β:Type}(f:β->α->β)(b:β)(xs:List α)(i:Nat):β:=(xs.take i).foldl f b
theorem ajo{α β:Type}{f:β->α->β}{b:β}{xs:List α}{a:α}(h:xs[i]?=some a):uT f b xs (i+1)=f (uT f b xs i) a:=by
 simp[uT,rS,h,List.foldl_append]
theorem ajp{α β:Type}{f:β->α->β}{b:β}{xs:List α}:uT f b xs xs.length=xs.foldl f b:=by simp[uT]
theorem yn{α:Type}(p:α->Bool){xs:List α}{a:α}(h:xs[i]?=some a):(xs.take (i+1)).filter p=(xs.take i).filter p++(if p a then [a] else []):=by
 simp only[rS,h,Ao,List.filter_append,List.filter_cons,List.filter_nil]
theorem dD{α:Type}(f:α->List D)(h:∀a,∀d∈f a,∃x,d=.v x)(xs:List α):Flat (xs.map f):=by
 intro e he d aF;obtain⟨a,_,rfl⟩:=kX.1 he;exact h a d aF
theorem fG{e:List D}(h:∀d∈e,∃x,d=.v x):Flat [e]:=by
 intro e' he;simp at he;subst he;exact h
theorem gv{P:Program}{c:Code}{α:Type}(xs:List α)(p:α->Bool)(st:Nat->aD){e1 e2:gQ}{X:Nat->α->aD}{Y:aD}(A3:e1.pC≠.normal)(pI:e2.pC≠.normal)
  (xN:∀i a,xs[i]?=some a->p a=false->fJ P c (st i) .normal (st (i+1))) (Fm:∀i a,xs[i]?=some a->p a=true->fJ P c (st i) e1 (X i a)) (xM:fJ P c (st xs.length) e2 Y):
  (xs.find? p=none/\xs.findIdx? p=none/\xs.any p=false/\c0 P c (st 0) e2 Y)\/∃i a,xs[i]?=some a/\p a=true/\xs.find? p=some a/\xs.findIdx? p=some i/\xs.any p=true/\c0 P c (st 0) e1 (X i a):=by
 rcases CT p xs with⟨U,aa⟩ | ⟨i,a,U,aa,aA,aO⟩
 ·refine .inl ⟨U,?_,?_,eu pI xs.length st (fun i hi=>?_) xM⟩
  ·rw[UO];exact aa
  ·rw[hv];exact fun a ai=>by simp[aa a ai]
  obtain⟨a,ai⟩:=cS hi;exact xN i a ai (aa a (ee ai))
 refine .inr ⟨i,a,U,aa,aA,?_,rV.2 ⟨a,ee U,aa⟩,eu A3 i st (fun j bm=>?_) (Fm i a U aa)⟩
 ·have hi:=aZ U;have ai:xs[i]=a:=by rw[ih hi]at U;exact fB U
  rw[ti];refine⟨hi,by rw[ai];exact aa,fun j bm=>?_⟩;have:=aO j xs[j] bm (by simp);simp[this]
 obtain⟨b,aw⟩:=cS (xs:=xs) (i:=j) (by have:=aZ U;omega);exact xN j b aw (aO j b bm aw)
def anyI{α:Type}(p:Nat->α->Bool):Nat->List α->Bool
 | _,[]=>false
 | k,a::r=>p k a||anyI p (k+1) r
theorem B5{α:Type}{p:Nat->α->Bool}:∀{xs:List α} {k:Nat},anyI p k xs=false->∀i a,xs[i]?=some a->p (k+i) a=false
 | [],k,_,i,a,h=>by simp at h
 | x::xs,k,h,i,a,ai=>by
  simp only[anyI,gh]at h;cases i with
  | zero=>simp at ai;subst ai;exact h.1
  | succ i=>
   have:=B5 h.2 i a (by simpa using ai);rwa[show k+1+i=k+(i+1) by omega]at this
theorem H'{α:Type}{p:Nat->α->Bool}:∀{xs:List α} {k:Nat},anyI p k xs=true->∃i a,xs[i]?=some a/\p (k+i) a=true/\∀j b,j<i->xs[j]?=some b->p (k+j) b=false
 | [],k,h=>by simp[anyI]at h
 | x::xs,k,h=>by
  by_cases ao:p k x=true
  ·exact⟨0,x,rfl,ao,fun j b bm=>by omega⟩
  simp only[anyI,pt]at h;obtain⟨i,a,U,aa,aA⟩:=H' (h.resolve_left ao);refine⟨i+1,a,by simpa using U,by rw[show k+(i+1)=k+1+i by omega];exact aa,fun j b bm aw=>?_⟩;cases j with
  | zero=>simp at aw;subst aw;simpa using ao
  | succ j=>rw[show k+(j+1)=k+1+j by omega];exact aA j b (by omega) (by simpa using aw)
theorem sL{P:Program}{c:Code}{α:Type}(xs:List α)(p:Nat->α->Bool)(st:Nat->aD){e1 e2:gQ}{X Y:aD}(A3:e1.pC≠.normal)(pI:e2.pC≠.normal)
  (xN:∀i a,xs[i]?=some a->p i a=false->fJ P c (st i) .normal (st (i+1))) (Fm:∀i a,xs[i]?=some a->p i a=true->fJ P c (st i) e1 X) (xM:fJ P c (st xs.length) e2 Y):
  (anyI p 0 xs=false/\c0 P c (st 0) e2 Y)\/(anyI p 0 xs=true/\c0 P c (st 0) e1 X):=by
 cases h:anyI p 0 xs with
 | false=>
  refine .inl ⟨rfl,eu pI xs.length st (fun i hi=>?_) xM⟩;obtain⟨a,ai⟩:=cS hi;have:=B5 h i a ai;rw[dL]at this;exact xN i a ai this
 | true=>
  obtain⟨i,a,U,aa,aA⟩:=H' h;rw[dL]at aa;refine .inr ⟨rfl,eu A3 i st (fun j bm=>?_) (Fm i a U aa)⟩;obtain⟨b,aw⟩:=cS (xs:=xs) (i:=j) (by have:=aZ U;omega);have:=aA j b bm aw;rw[dL]at this;exact xN j b aw this
