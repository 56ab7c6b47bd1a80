import Derived.Test.YtdchjefneblpgaaGreatRows
import Derived.Test.YtdchjefneblpgaaGreatR15
set_option linter.unusedVariables false
set_option linter.unusedSimpArgs false
namespace Go.Proofs.YtdchjefneblpgaaGreat
open Go.Sx Go.RowKit
theorem fC{P:Program}{c:Code}{e:hY}{stE:aJ}(he:e.oa≠.normal):∀(n:Nat) (st:Nat->aJ),(∀i,i<n->fT P c (st i) .normal (st (i+1)))->fT P c (st n) e stE->c5 P c (st 0) e stE
 | 0,_,_,ah=>.last he ah
 | n+1,st,ao,ah=>.more (ao 0 (by omega)) (fC he n (fun i=>st (i+1)) (fun i hi=>ao (i+1) (by omega)) ah)
theorem aw7{P:Program}{c:Code}{e:hY}{stE:aJ}(he:e.oa≠.normal)(k n:Nat)(st:Nat->aJ)(Rp:k<=n)(ao:∀i,k<=i->i<n->fT P c (st i) .normal (st (i+1)))(ah:fT P c (st n) e stE):c5 P c (st k) e stE:=by
 have:=fC (P:=P) (c:=c) he (n-k) (fun i=>st (k+i)) (fun i hi=>ao (k+i) (by omega) (by omega)) (by rw[show k+(n-k)=n by omega];exact ah);simpa using this
variable{i:Nat}
theorem bE{α β:Type}{xs:List α}{a:α}(f:α->β)(h:xs[i]?=some a):(xs.map f)[((i:Nat):Int).toNat]?=some (f a):=by simp[h]
theorem b5{α β:Type}{xs:List α}{f:α->β}(h:i<xs.length):decide ((i:Int)<(↑(xs.map f).length:Int))=true:=by simp only[bl,cV];omega
theorem dT{α β:Type}{xs:List α}{f:α->β}:decide ((↑xs.length:Int)<(↑(xs.map f).length:Int))=false:=by simp
theorem bD:0<=(i:Int):=by omega
theorem bK{α β:Type}{xs:List α}{f:α->β}(h:i<xs.length):(i:Int)<(↑(xs.map f).length:Int):=by simp only[bl];omega
theorem dj{α:Type}{xs:List α}(h:i<xs.length)(ap:xs.length<=8388608):aD IntKind.i64 ((i:Int)+1):=⟨by omega,by omega⟩
theorem c9{α:Type}{xs:List α}{i:Nat}(h:i<xs.length):∃a,xs[i]?=some a:=⟨xs[i],by simp[h]⟩
theorem aT{α:Type}{xs:List α}{a:α}(h:xs[i]?=some a):i<xs.length:=(ek.1 h).1
theorem eD{α:Type}{xs:List α}{i:Nat}{a:α}(h:xs[i]?=some a):a∈xs:=ft h
theorem Uy{α:Type}[DecidableEq α]:∀(xs ys:List α),xs.length=ys.length->xs=ys\/∃(i:Nat) (a b:α),xs[i]?=some a/\ys[i]?=some b/\a≠b/\∀j,j<i->xs[j]?=ys[j]?
 | [],[],_=>.inl rfl
 | a::xs,b::ys,h=>by
  by_cases fk:a=b
  ·subst fk;rcases Uy xs ys (by simpa using h) with rfl | ⟨i,x,y,h1,U,ax,aF⟩
   ·exact .inl rfl
   refine .inr ⟨i+1,x,y,by simpa using h1,by simpa using U,ax,fun j a1=>?_⟩;cases j with
   | zero=>simp
   | succ j=>simpa using aF j (by omega)
  exact .inr ⟨0,a,b,rfl,rfl,fk,fun j a1=>by omega⟩
 | [],b::ys,h=>by simp at h
 | a::xs,[],h=>by simp at h
theorem Cg{α:Type}{sz:α->Nat}:∀{xs:List α} {a:α},a∈xs->sz a<=(xs.map sz).sum
 | x::xs,a,h=>by
  rcases eP.1 h with rfl | h
  ·simp
  have:=Cg (sz:=sz) h;simp only[l',we];omega
def bh(n:Int):List D:=[I n]
def cD(b:Bool):List D:=[B b]
theorem Uz{α:Type}(p:α->Bool):∀(xs:List α),(xs.find? p=none/\∀a∈xs,p a=false)\/∃(i:Nat) (a:α),xs[i]?=some a/\p a=true/\xs.find? p=some a/\∀j b,j<i->xs[j]?=some b->p b=false
 | []=>.inl ⟨rfl,by simp⟩
 | a::xs=>by
  by_cases ak:p a=true
  ·exact .inr ⟨0,a,rfl,ak,by simp[ak],fun j b a1=>by omega⟩
  have Ed:p a=false:=by simpa using ak
  rcases Uz p xs with⟨h,U⟩ | ⟨i,x,h1,U,aF,ax⟩
  ·refine .inl ⟨by simp[Ed,h],fun b av=>?_⟩;rcases eP.1 av with rfl | av
   ·exact Ed
   exact U b av
  refine .inr ⟨i+1,x,by simpa using h1,U,by simp[Ed,aF],fun j b a1 av=>?_⟩;cases j with
  | zero=>simp at av;subst av;exact Ed
  | succ j=>exact ax j b (by omega) (by simpa using av)
def tN{α β:Type}(f:β->α->β)(b:β)(xs:List α)(i:Nat):β:=(xs.take i).foldl f b
theorem UA{α β:Type}{f:β->α->β}{b:β}{xs:List α}{a:α}(h:xs[i]?=some a):tN f b xs (i+1)=f (tN f b xs i) a:=by
 simp[tN,uq,h,List.foldl_append]
theorem UB{α β:Type}{f:β->α->β}{b:β}{xs:List α}:tN f b xs xs.length=xs.foldl f b:=by simp[tN]
theorem zj{α:Type}(p:α->Bool){xs:List α}{a:α}(h:xs[i]?=some a):(xs.take (i+1)).filter p=(xs.take i).filter p++(if p a then [a] else []):=by
 simp only[uq,h,HW,List.filter_append,List.filter_cons,List.filter_nil]
theorem ch{α:Type}(f:α->List D)(h:∀a,∀d∈f a,∃x,d=.v x)(xs:List α):Flat (xs.map f):=by
 intro e he d aG;obtain⟨a,_,rfl⟩:=lo.1 he;exact h a d aG
theorem dD{e:List D}(h:∀d∈e,∃x,d=.v x):Flat [e]:=by
 intro e' he;simp at he;subst he;exact h
theorem gN{P:Program}{c:Code}{α:Type}(xs:List α)(p:α->Bool)(st:Nat->aJ){e1 e2:hY}{X:Nat->α->aJ}{Y:aJ}(uQ:e1.oa≠.normal)(mJ:e2.oa≠.normal)
  (uS:∀i a,xs[i]?=some a->p a=false->fT P c (st i) .normal (st (i+1))) (A2:∀i a,xs[i]?=some a->p a=true->fT P c (st i) e1 (X i a)) (wH:fT P c (st xs.length) e2 Y):
  (xs.find? p=none/\xs.findIdx? p=none/\xs.any p=false/\c5 P c (st 0) e2 Y)\/∃i a,xs[i]?=some a/\p a=true/\xs.find? p=some a/\xs.findIdx? p=some i/\xs.any p=true/\c5 P c (st 0) e1 (X i a):=by
 rcases Uz p xs with⟨h1,U⟩ | ⟨i,a,h1,U,ax,aF⟩
 ·refine .inl ⟨h1,?_,?_,fC mJ xs.length st (fun i hi=>?_) wH⟩
  ·rw[ya];exact U
  ·rw[ik];exact fun a ak=>by simp[U a ak]
  obtain⟨a,ak⟩:=c9 hi;exact uS i a ak (U a (eD ak))
 refine .inr ⟨i,a,h1,U,ax,?_,qy.2 ⟨a,eD h1,U⟩,fC uQ i st (fun j a1=>?_) (A2 i a h1 U)⟩
 ·have hi:=aT h1;have ak:xs[i]=a:=by rw[fJ hi]at h1;exact eW h1
  rw[qs];refine⟨hi,by rw[ak];exact U,fun j a1=>?_⟩;have:=aF j xs[j] a1 (by simp);simp[this]
 obtain⟨b,av⟩:=c9 (xs:=xs) (i:=j) (by have:=aT h1;omega);exact uS j b av (aF j b a1 av)
def anyI{α:Type}(p:Nat->α->Bool):Nat->List α->Bool
 | _,[]=>false
 | k,a::r=>p k a||anyI p (k+1) r
theorem F7{α:Type}{p:Nat->α->Bool}:∀{xs:List α} {k:Nat},anyI p k xs=false->∀i a,xs[i]?=some a->p (k+i) a=false
 | [],k,_,i,a,h=>by simp at h
 | x::xs,k,h,i,a,ak=>by
  simp only[anyI,hG]at h;cases i with
  | zero=>simp at ak;subst ak;exact h.1
  | succ i=>
   have:=F7 h.2 i a (by simpa using ak);rwa[show k+1+i=k+(i+1) by omega]at this
theorem Ld{α:Type}{p:Nat->α->Bool}:∀{xs:List α} {k:Nat},anyI p k xs=true->∃i a,xs[i]?=some a/\p (k+i) a=true/\∀j b,j<i->xs[j]?=some b->p (k+j) b=false
 | [],k,h=>by simp[anyI]at h
 | x::xs,k,h=>by
  by_cases ah:p k x=true
  ·exact⟨0,x,rfl,ah,fun j b a1=>by omega⟩
  simp only[anyI,oO]at h;obtain⟨i,a,h1,U,ax⟩:=Ld (h.resolve_left ah);refine⟨i+1,a,by simpa using h1,by rw[show k+(i+1)=k+1+i by omega];exact U,fun j b a1 av=>?_⟩;cases j with
  | zero=>simp at av;subst av;simpa using ah
  | succ j=>rw[show k+(j+1)=k+1+j by omega];exact ax j b (by omega) (by simpa using av)
theorem su{P:Program}{c:Code}{α:Type}(xs:List α)(p:Nat->α->Bool)(st:Nat->aJ){e1 e2:hY}{X Y:aJ}(uQ:e1.oa≠.normal)(mJ:e2.oa≠.normal)
  (uS:∀i a,xs[i]?=some a->p i a=false->fT P c (st i) .normal (st (i+1))) (A2:∀i a,xs[i]?=some a->p i a=true->fT P c (st i) e1 X) (wH:fT P c (st xs.length) e2 Y):
  (anyI p 0 xs=false/\c5 P c (st 0) e2 Y)\/(anyI p 0 xs=true/\c5 P c (st 0) e1 X):=by
 cases h:anyI p 0 xs with
 | false=>
  refine .inl ⟨rfl,fC mJ xs.length st (fun i hi=>?_) wH⟩;obtain⟨a,ak⟩:=c9 hi;have:=F7 h i a ak;rw[dF]at this;exact uS i a ak this
 | true=>
  obtain⟨i,a,h1,U,ax⟩:=Ld h;rw[dF]at U;refine .inr ⟨rfl,fC uQ i st (fun j a1=>?_) (A2 i a h1 U)⟩;obtain⟨b,av⟩:=c9 (xs:=xs) (i:=j) (by have:=aT h1;omega);have:=ax j b a1 av;rw[dF]at this;exact uS j b av this
