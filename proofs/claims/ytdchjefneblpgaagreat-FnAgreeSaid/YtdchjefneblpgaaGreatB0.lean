import Derived.Test.YtdchjefneblpgaaGreatRows
import Derived.Test.YtdchjefneblpgaaGreatR15
set_option linter.unusedVariables false
set_option linter.unusedSimpArgs false
namespace Go.Proofs.YtdchjefneblpgaaGreat
open Go.Sx Go.RowKit
theorem eR{P:Program}{c:Code}{e:h'}{Wc:aG}(he:e.qH≠.normal):∀(n:Nat) (st:Nat->aG),(∀i,i<n->gA P c (st i) .normal (st (i+1)))->gA P c (st n) e Wc->c6 P c (st 0) e Wc
 | 0,_,_,aa=>.last he aa
 | n+1,st,ai,aa=>.more (ai 0 (by omega)) (eR he n (fun i=>st (i+1)) (fun i hi=>ai (i+1) (by omega)) aa)
theorem bI{α β:Type}{xs:List α}{i:Nat}{a:α}(f:α->β)(h:xs[i]?=some a):(xs.map f)[((i:Nat):Int).toNat]?=some (f a):=by simp[h]
variable{i:Nat}
theorem b4{α β:Type}{xs:List α}{f:α->β}(h:i<xs.length):decide ((i:Int)<(↑(xs.map f).length:Int))=true:=by simp only[bk,b'];omega
theorem ec{α β:Type}{xs:List α}{f:α->β}:decide ((↑xs.length:Int)<(↑(xs.map f).length:Int))=false:=by simp
theorem bH:0<=(i:Int):=by omega
theorem bL{α β:Type}{xs:List α}{f:α->β}(h:i<xs.length):(i:Int)<(↑(xs.map f).length:Int):=by simp only[bk];omega
theorem du{α:Type}{xs:List α}(h:i<xs.length)(aj:xs.length<=8388608):aC IntKind.i64 ((i:Int)+1):=⟨by omega,by omega⟩
theorem dm{α:Type}{xs:List α}{i:Nat}(h:i<xs.length):∃a,xs[i]?=some a:=⟨xs[i],by simp[h]⟩
theorem aX{α:Type}{xs:List α}{a:α}(h:xs[i]?=some a):i<xs.length:=(ey.1 h).1
theorem cG{α:Type}{xs:List α}{i:Nat}{a:α}(h:xs[i]?=some a):a∈xs:=fE h
theorem SC{α:Type}(p:α->Bool):∀(xs:List α),(∀a∈xs,p a=true)\/∃(i:Nat) (a:α),xs[i]?=some a/\p a=false/\∀j b,j<i->xs[j]?=some b->p b=true
 | []=>.inl (by simp)
 | a::xs=>by
  by_cases ad:p a=true
  ·rcases SC p xs with h | ⟨i,x,h1,U,ax⟩
   ·refine .inl fun b ao=>?_
    rcases et.1 ao with rfl | ao
    ·exact ad
    exact h b ao
   refine .inr ⟨i+1,x,by simpa using h1,U,fun j b aP ao=>?_⟩;cases j with
   | zero=>simp at ao;subst ao;exact ad
   | succ j=>exact ax j b (by omega) (by simpa using ao)
  exact .inr ⟨0,a,rfl,by simpa using ad,fun j b aP=>by omega⟩
theorem F4{α:Type}{sz:α->Nat}:∀{xs:List α} {a:α},a∈xs->sz a<=(xs.map sz).sum
 | x::xs,a,h=>by
  rcases et.1 h with rfl | h
  ·simp
  have:=F4 (sz:=sz) h;simp only[k8,rO];omega
def ba(n:Int):List D:=[I n]
def cI(b:Bool):List D:=[B b]
theorem KD{α:Type}(p:α->Bool):∀(xs:List α),(xs.find? p=none/\∀a∈xs,p a=false)\/∃(i:Nat) (a:α),xs[i]?=some a/\p a=true/\xs.find? p=some a/\∀j b,j<i->xs[j]?=some b->p b=false
 | []=>.inl ⟨rfl,by simp⟩
 | a::xs=>by
  by_cases ad:p a=true
  ·exact .inr ⟨0,a,rfl,ad,by simp[ad],fun j b aP=>by omega⟩
  have D5:p a=false:=by simpa using ad
  rcases KD p xs with⟨h,U⟩ | ⟨i,x,h1,U,aF,ax⟩
  ·refine .inl ⟨by simp[D5,h],fun b ao=>?_⟩;rcases et.1 ao with rfl | ao
   ·exact D5
   exact U b ao
  refine .inr ⟨i+1,x,by simpa using h1,U,by simp[D5,aF],fun j b aP ao=>?_⟩;cases j with
  | zero=>simp at ao;subst ao;exact D5
  | succ j=>exact ax j b (by omega) (by simpa using ao)
def rn{α β:Type}(f:β->α->β)(b:β)(xs:List α)(i:Nat):β:=(xs.take i).foldl f b
theorem KE{α β:Type}{f:β->α->β}{b:β}{xs:List α}{a:α}(h:xs[i]?=some a):rn f b xs (i+1)=f (rn f b xs i) a:=by
 simp[rn,sS,h,List.foldl_append]
theorem KF{α β:Type}{f:β->α->β}{b:β}{xs:List α}:rn f b xs xs.length=xs.foldl f b:=by simp[rn]
theorem ao2{α β:Type}{f:β->α->β}{b:β}{xs:List α}:rn f b xs 0=b:=rfl
def Wj(n:Int):Int:=IntKind.i64.wrap n
theorem zD{α:Type}(p:α->Bool){xs:List α}{a:α}(h:xs[i]?=some a):(xs.take (i+1)).filter p=(xs.take i).filter p++(if p a then [a] else []):=by
 simp only[sS,h,yc,List.filter_append,List.filter_cons,List.filter_nil]
theorem cd{α:Type}(f:α->List D)(h:∀a,∀d∈f a,∃x,d=.v x)(xs:List α):Flat (xs.map f):=by
 intro e he d aB;obtain⟨a,_,rfl⟩:=jZ.1 he;exact h a d aB
theorem dY{e:List D}(h:∀d∈e,∃x,d=.v x):Flat [e]:=by
 intro e' he;simp at he;subst he;exact h
theorem hv{P:Program}{c:Code}{α:Type}(xs:List α)(p:α->Bool)(st:Nat->aG){e1 e2:h'}{X:Nat->α->aG}{Y:aG}(yH:e1.qH≠.normal)(oo:e2.qH≠.normal)
  (AX:∀i a,xs[i]?=some a->p a=false->gA P c (st i) .normal (st (i+1))) (IH:∀i a,xs[i]?=some a->p a=true->gA P c (st i) e1 (X i a)) (tt:gA P c (st xs.length) e2 Y):
  (xs.find? p=none/\xs.findIdx? p=none/\xs.any p=false/\c6 P c (st 0) e2 Y)\/∃i a,xs[i]?=some a/\p a=true/\xs.find? p=some a/\xs.findIdx? p=some i/\xs.any p=true/\c6 P c (st 0) e1 (X i a):=by
 rcases KD p xs with⟨h1,U⟩ | ⟨i,a,h1,U,ax,aF⟩
 ·refine .inl ⟨h1,?_,?_,eR oo xs.length st (fun i hi=>?_) tt⟩
  ·rw[Dq];exact U
  ·rw[ff];exact fun a ad=>by simp[U a ad]
  obtain⟨a,ad⟩:=dm hi;exact AX i a ad (U a (cG ad))
 refine .inr ⟨i,a,h1,U,ax,?_,l9.2 ⟨a,cG h1,U⟩,eR yH i st (fun j aP=>?_) (IH i a h1 U)⟩
 ·have hi:=aX h1;have ad:xs[i]=a:=by rw[gz hi]at h1;exact eQ h1
  rw[uq];refine⟨hi,by rw[ad];exact U,fun j aP=>?_⟩;have:=aF j xs[j] aP (by simp);simp[this]
 obtain⟨b,ao⟩:=dm (xs:=xs) (i:=j) (by have:=aX h1;omega);exact AX j b ao (aF j b aP ao)
def anyI{α:Type}(p:Nat->α->Bool):Nat->List α->Bool
 | _,[]=>false
 | k,a::r=>p k a||anyI p (k+1) r
theorem BW{α:Type}{p:Nat->α->Bool}:∀{xs:List α} {k:Nat},anyI p k xs=false->∀i a,xs[i]?=some a->p (k+i) a=false
 | [],k,_,i,a,h=>by simp at h
 | x::xs,k,h,i,a,ad=>by
  simp only[anyI,fR]at h;cases i with
  | zero=>simp at ad;subst ad;exact h.1
  | succ i=>
   have:=BW h.2 i a (by simpa using ad);rwa[show k+1+i=k+(i+1) by omega]at this
theorem KG{α:Type}{p:Nat->α->Bool}:∀{xs:List α} {k:Nat},anyI p k xs=true->∃i a,xs[i]?=some a/\p (k+i) a=true/\∀j b,j<i->xs[j]?=some b->p (k+j) b=false
 | [],k,h=>by simp[anyI]at h
 | x::xs,k,h=>by
  by_cases aa:p k x=true
  ·exact⟨0,x,rfl,aa,fun j b aP=>by omega⟩
  simp only[anyI,ni]at h;obtain⟨i,a,h1,U,ax⟩:=KG (h.resolve_left aa);refine⟨i+1,a,by simpa using h1,by rw[show k+(i+1)=k+1+i by omega];exact U,fun j b aP ao=>?_⟩;cases j with
  | zero=>simp at ao;subst ao;simpa using aa
  | succ j=>rw[show k+(j+1)=k+1+j by omega];exact ax j b (by omega) (by simpa using ao)
theorem u'{P:Program}{c:Code}{α:Type}(xs:List α)(p:Nat->α->Bool)(st:Nat->aG){e1 e2:h'}{X Y:aG}(yH:e1.qH≠.normal)(oo:e2.qH≠.normal)
  (AX:∀i a,xs[i]?=some a->p i a=false->gA P c (st i) .normal (st (i+1))) (IH:∀i a,xs[i]?=some a->p i a=true->gA P c (st i) e1 X) (tt:gA P c (st xs.length) e2 Y):
  (anyI p 0 xs=false/\c6 P c (st 0) e2 Y)\/(anyI p 0 xs=true/\c6 P c (st 0) e1 X):=by
 cases h:anyI p 0 xs with
 | false=>
  refine .inl ⟨rfl,eR oo xs.length st (fun i hi=>?_) tt⟩;obtain⟨a,ad⟩:=dm hi;have:=BW h i a ad;rw[dq]at this;exact AX i a ad this
 | true=>
  obtain⟨i,a,h1,U,ax⟩:=KG h;rw[dq]at U;refine .inr ⟨rfl,eR yH i st (fun j aP=>?_) (IH i a h1 U)⟩;obtain⟨b,ao⟩:=dm (xs:=xs) (i:=j) (by have:=aX h1;omega);have:=ax j b aP ao;rw[dq]at this;exact AX j b ao this
