import Derived.Test.YtdchjefneblpgaaRows
import Derived.Test.YtdchjefneblpgaaR15
set_option linter.unusedVariables false
set_option linter.unusedSimpArgs false
namespace Go.Proofs.Ytdchjefneblpgaa
open Go.Sx Go.RowKit
theorem gx{P:Program}{c:Code}{e:fH}{Nl:aG}(he:e.lQ≠.normal):∀(n:Nat) (st:Nat->aG),(∀i,i<n->eS P c (st i) .normal (st (i+1)))->eS P c (st n) e Nl->dk P c (st 0) e Nl
 | 0,_,_,ae=>.last he ae
 | n+1,st,ad,ae=>.more (ad 0 (by omega)) (gx he n (fun i=>st (i+1)) (fun i hi=>ad (i+1) (by omega)) ae)
variable{i:Nat}
theorem c2{α β:Type}{xs:List α}{a:α}(f:α->β)(h:xs[i]?=some a):(xs.map f)[((i:Nat):Int).toNat]?=some (f a):=by simp[h]
theorem dr{α β:Type}{xs:List α}{f:α->β}(h:i<xs.length):decide ((i:Int)<(↑(xs.map f).length:Int))=true:=by simp only[br,cF];omega
theorem fb{α β:Type}{xs:List α}{f:α->β}:decide ((↑xs.length:Int)<(↑(xs.map f).length:Int))=false:=by simp
theorem c1:0<=(i:Int):=by omega
theorem dh{α β:Type}{xs:List α}{f:α->β}(h:i<xs.length):(i:Int)<(↑(xs.map f).length:Int):=by simp only[br];omega
theorem eN{α:Type}{xs:List α}(h:i<xs.length)(ak:xs.length<=8388608):ap IntKind.i64 ((i:Int)+1):=⟨by omega,by omega⟩
theorem cT{α:Type}{xs:List α}{i:Nat}(h:i<xs.length):∃a,xs[i]?=some a:=⟨xs[i],by simp[h]⟩
theorem ct{α:Type}{xs:List α}{a:α}(h:xs[i]?=some a):i<xs.length:=(eJ.1 h).1
theorem h7{α:Type}{xs:List α}{a:α}(h:xs[i]?=some a):a∈xs:=eD h
theorem J0{α:Type}[DecidableEq α]:∀(xs ys:List α),xs.length=ys.length->xs=ys\/∃(i:Nat) (a b:α),xs[i]?=some a/\ys[i]?=some b/\a≠b/\∀j,j<i->xs[j]?=ys[j]?
 | [],[],_=>.inl rfl
 | a::xs,b::ys,h=>by
  by_cases jj:a=b
  ·subst jj;rcases J0 xs ys (by simpa using h) with rfl | ⟨i,x,y,J,U,ax,aJ⟩
   ·exact .inl rfl
   refine .inr ⟨i+1,x,y,by simpa using J,by simpa using U,ax,fun j aU=>?_⟩;cases j with
   | zero=>simp
   | succ j=>simpa using aJ j (by omega)
  exact .inr ⟨0,a,b,rfl,rfl,jj,fun j aU=>by omega⟩
 | [],b::ys,h=>by simp at h
 | a::xs,[],h=>by simp at h
theorem J1{α:Type}{sz:α->Nat}:∀{xs:List α} {a:α},a∈xs->sz a<=(xs.map sz).sum
 | x::xs,a,h=>by
  rcases dj.1 h with rfl | h
  ·simp
  have:=J1 (sz:=sz) h;simp only[gE,qa];omega
def aY(n:Int):List D:=[I n]
def G'(b:Bool):List D:=[B b]
theorem J2{α:Type}(p:α->Bool):∀(xs:List α),(xs.find? p=none/\∀a∈xs,p a=false)\/∃(i:Nat) (a:α),xs[i]?=some a/\p a=true/\xs.find? p=some a/\∀j b,j<i->xs[j]?=some b->p b=false
 | []=>.inl ⟨rfl,by simp⟩
 | a::xs=>by
  by_cases aC:p a=true
  ·exact .inr ⟨0,a,rfl,aC,by simp[aC],fun j b aU=>by omega⟩
  have rO:p a=false:=by simpa using aC
  rcases J2 p xs with⟨h,U⟩ | ⟨i,x,J,U,aJ,ax⟩
  ·refine .inl ⟨by simp[rO,h],fun b ah=>?_⟩;rcases dj.1 ah with rfl | ah
   ·exact rO
   exact U b ah
  refine .inr ⟨i+1,x,by simpa using J,U,by simp[rO,aJ],fun j b aU ah=>?_⟩;cases j with
  | zero=>simp at ah;subst ah;exact rO
  | succ j=>exact ax j b (by omega) (by simpa using ah)
def pW{α β:Type}(f:β->α->β)(b:β)(xs:List α)(i:Nat):β:=(xs.take i).foldl f b
theorem J3{α β:Type}{f:β->α->β}{b:β}{xs:List α}{a:α}(h:xs[i]?=some a):pW f b xs (i+1)=f (pW f b xs i) a:=by
 simp[pW,uP,h,List.foldl_append]
theorem J4{α β:Type}{f:β->α->β}{b:β}{xs:List α}:pW f b xs xs.length=xs.foldl f b:=by simp[pW]
theorem q3{α:Type}(p:α->Bool){xs:List α}{a:α}(h:xs[i]?=some a):(xs.take (i+1)).filter p=(xs.take i).filter p++(if p a then [a] else []):=by
 simp only[uP,h,GO,List.filter_append,List.filter_cons,List.filter_nil]
theorem bW{α:Type}(f:α->List D)(h:∀a,∀d∈f a,∃x,d=.v x)(xs:List α):Flat (xs.map f):=by
 intro e he d ay;obtain⟨a,_,rfl⟩:=eC.1 he;exact h a d ay
theorem dt{e:List D}(h:∀d∈e,∃x,d=.v x):Flat [e]:=by
 intro e' he;simp at he;subst he;exact h
theorem oD{P:Program}{c:Code}{α:Type}(xs:List α)(p:α->Bool)(st:Nat->aG){aK aO:fH}{X:Nat->α->aG}{Y:aG}(tq:aK.lQ≠.normal)(lZ:aO.lQ≠.normal)
  (iR:∀i a,xs[i]?=some a->p a=false->eS P c (st i) .normal (st (i+1))) (vu:∀i a,xs[i]?=some a->p a=true->eS P c (st i) aK (X i a)) (rS:eS P c (st xs.length) aO Y):
  (xs.find? p=none/\xs.findIdx? p=none/\xs.any p=false/\dk P c (st 0) aO Y)\/∃i a,xs[i]?=some a/\p a=true/\xs.find? p=some a/\xs.findIdx? p=some i/\xs.any p=true/\dk P c (st 0) aK (X i a):=by
 rcases J2 p xs with⟨J,U⟩ | ⟨i,a,J,U,ax,aJ⟩
 ·refine .inl ⟨J,?_,?_,gx lZ xs.length st (fun i hi=>?_) rS⟩
  ·rw[Az];exact U
  ·rw[hP];exact fun a aC=>by simp[U a aC]
  obtain⟨a,aC⟩:=cT hi;exact iR i a aC (U a (h7 aC))
 refine .inr ⟨i,a,J,U,ax,?_,oY.2 ⟨a,h7 J,U⟩,gx tq i st (fun j aU=>?_) (vu i a J U)⟩
 ·have hi:=ct J;have aC:xs[i]=a:=by rw[iM hi]at J;exact e0 J
  rw[uN];refine⟨hi,by rw[aC];exact U,fun j aU=>?_⟩;have:=aJ j xs[j] aU (by simp);simp[this]
 obtain⟨b,ah⟩:=cT (xs:=xs) (i:=j) (by have:=ct J;omega);exact iR j b ah (aJ j b aU ah)
def anyI{α:Type}(p:Nat->α->Bool):Nat->List α->Bool
 | _,[]=>false
 | k,a::r=>p k a||anyI p (k+1) r
theorem ue{α:Type}{p:Nat->α->Bool}:∀{xs:List α} {k:Nat},anyI p k xs=false->∀i a,xs[i]?=some a->p (k+i) a=false
 | [],k,_,i,a,h=>by simp at h
 | x::xs,k,h,i,a,aC=>by
  simp only[anyI,jU]at h;cases i with
  | zero=>simp at aC;subst aC;exact h.1
  | succ i=>
   have:=ue h.2 i a (by simpa using aC);rwa[show k+1+i=k+(i+1) by omega]at this
theorem J5{α:Type}{p:Nat->α->Bool}:∀{xs:List α} {k:Nat},anyI p k xs=true->∃i a,xs[i]?=some a/\p (k+i) a=true/\∀j b,j<i->xs[j]?=some b->p (k+j) b=false
 | [],k,h=>by simp[anyI]at h
 | x::xs,k,h=>by
  by_cases ae:p k x=true
  ·exact⟨0,x,rfl,ae,fun j b aU=>by omega⟩
  simp only[anyI,mD]at h;obtain⟨i,a,J,U,ax⟩:=J5 (h.resolve_left ae);refine⟨i+1,a,by simpa using J,by rw[show k+(i+1)=k+1+i by omega];exact U,fun j b aU ah=>?_⟩;cases j with
  | zero=>simp at ah;subst ah;simpa using ae
  | succ j=>rw[show k+(j+1)=k+1+j by omega];exact ax j b (by omega) (by simpa using ah)
theorem J6{P:Program}{c:Code}{α:Type}(xs:List α)(p:Nat->α->Bool)(st:Nat->aG){aK aO:fH}{X Y:aG}(tq:aK.lQ≠.normal)(lZ:aO.lQ≠.normal)
  (iR:∀i a,xs[i]?=some a->p i a=false->eS P c (st i) .normal (st (i+1))) (vu:∀i a,xs[i]?=some a->p i a=true->eS P c (st i) aK X) (rS:eS P c (st xs.length) aO Y):
  (anyI p 0 xs=false/\dk P c (st 0) aO Y)\/(anyI p 0 xs=true/\dk P c (st 0) aK X):=by
 cases h:anyI p 0 xs with
 | false=>
  refine .inl ⟨rfl,gx lZ xs.length st (fun i hi=>?_) rS⟩;obtain⟨a,aC⟩:=cT hi;have:=ue h i a aC;rw[cP]at this;exact iR i a aC this
 | true=>
  obtain⟨i,a,J,U,ax⟩:=J5 h;rw[cP]at U;refine .inr ⟨rfl,gx tq i st (fun j aU=>?_) (vu i a J U)⟩;obtain⟨b,ah⟩:=cT (xs:=xs) (i:=j) (by have:=ct J;omega);have:=ax j b aU ah;rw[cP]at this;exact iR j b ah this
