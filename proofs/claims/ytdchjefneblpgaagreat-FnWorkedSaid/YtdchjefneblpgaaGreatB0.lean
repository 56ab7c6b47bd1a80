import Derived.Test.YtdchjefneblpgaaGreatRows
import Derived.Test.YtdchjefneblpgaaGreatR15
set_option linter.unusedVariables false
set_option linter.unusedSimpArgs false
namespace Go.Proofs.YtdchjefneblpgaaGreat
open Go.Sx Go.RowKit
theorem eY{P:Program}{c:Code}{e:hl}{Uc:aI}(he:e.o7≠.normal):∀(n:Nat) (st:Nat->aI),(∀i,i<n->gl P c (st i) .normal (st (i+1)))->gl P c (st n) e Uc->c3 P c (st 0) e Uc
 | 0,_,_,ag=>.last he ag
 | n+1,st,aj,ag=>.more (aj 0 (by omega)) (eY he n (fun i=>st (i+1)) (fun i hi=>aj (i+1) (by omega)) ag)
variable{i:Nat}
theorem bG{α β:Type}{xs:List α}{a:α}(f:α->β)(h:xs[i]?=some a):(xs.map f)[((i:Nat):Int).toNat]?=some (f a):=by simp[h]
theorem b'{α β:Type}{xs:List α}{f:α->β}(h:i<xs.length):decide ((i:Int)<(↑(xs.map f).length:Int))=true:=by simp only[bk,cU];omega
theorem dG{α β:Type}{xs:List α}{f:α->β}:decide ((↑xs.length:Int)<(↑(xs.map f).length:Int))=false:=by simp
theorem bF:0<=(i:Int):=by omega
theorem bI{α β:Type}{xs:List α}{f:α->β}(h:i<xs.length):(i:Int)<(↑(xs.map f).length:Int):=by simp only[bk];omega
theorem df{α:Type}{xs:List α}(h:i<xs.length)(al:xs.length<=8388608):ay IntKind.i64 ((i:Int)+1):=⟨by omega,by omega⟩
theorem c0{α:Type}{xs:List α}{i:Nat}(h:i<xs.length):∃a,xs[i]?=some a:=⟨xs[i],by simp[h]⟩
theorem a8{α:Type}{xs:List α}{a:α}(h:xs[i]?=some a):i<xs.length:=(eh.1 h).1
theorem eA{α:Type}{xs:List α}{i:Nat}{a:α}(h:xs[i]?=some a):a∈xs:=fl h
theorem C6{α:Type}{sz:α->Nat}:∀{xs:List α} {a:α},a∈xs->sz a<=(xs.map sz).sum
 | x::xs,a,h=>by
  rcases eu.1 h with rfl | h
  ·simp
  have:=C6 (sz:=sz) h;simp only[k4,v'];omega
def a'(n:Int):List D:=[I n]
def cv(b:Bool):List D:=[B b]
theorem PV{α:Type}(p:α->Bool):∀(xs:List α),(xs.find? p=none/\∀a∈xs,p a=false)\/∃(i:Nat) (a:α),xs[i]?=some a/\p a=true/\xs.find? p=some a/\∀j b,j<i->xs[j]?=some b->p b=false
 | []=>.inl ⟨rfl,by simp⟩
 | a::xs=>by
  by_cases ah:p a=true
  ·exact .inr ⟨0,a,rfl,ah,by simp[ah],fun j b a6=>by omega⟩
  have B8:p a=false:=by simpa using ah
  rcases PV p xs with⟨h,U⟩ | ⟨i,x,h1,U,aH,aw⟩
  ·refine .inl ⟨by simp[B8,h],fun b ar=>?_⟩;rcases eu.1 ar with rfl | ar
   ·exact B8
   exact U b ar
  refine .inr ⟨i+1,x,by simpa using h1,U,by simp[B8,aH],fun j b a6 ar=>?_⟩;cases j with
  | zero=>simp at ar;subst ar;exact B8
  | succ j=>exact aw j b (by omega) (by simpa using ar)
def r4{α β:Type}(f:β->α->β)(b:β)(xs:List α)(i:Nat):β:=(xs.take i).foldl f b
theorem PW{α β:Type}{f:β->α->β}{b:β}{xs:List α}{a:α}(h:xs[i]?=some a):r4 f b xs (i+1)=f (r4 f b xs i) a:=by
 simp[r4,vW,h,List.foldl_append]
theorem PX{α β:Type}{f:β->α->β}{b:β}{xs:List α}:r4 f b xs xs.length=xs.foldl f b:=by simp[r4]
theorem zp{α:Type}(p:α->Bool){xs:List α}{a:α}(h:xs[i]?=some a):(xs.take (i+1)).filter p=(xs.take i).filter p++(if p a then [a] else []):=by
 simp only[vW,h,Fb,List.filter_append,List.filter_cons,List.filter_nil]
theorem cf{α:Type}(f:α->List D)(h:∀a,∀d∈f a,∃x,d=.v x)(xs:List α):Flat (xs.map f):=by
 intro e he d aD;obtain⟨a,_,rfl⟩:=k5.1 he;exact h a d aD
theorem dL{e:List D}(h:∀d∈e,∃x,d=.v x):Flat [e]:=by
 intro e' he;simp at he;subst he;exact h
theorem gN{P:Program}{c:Code}{α:Type}(xs:List α)(p:α->Bool)(st:Nat->aI){e1 e2:hl}{X:Nat->α->aI}{Y:aI}(wD:e1.o7≠.normal)(mw:e2.o7≠.normal)
  (yE:∀i a,xs[i]?=some a->p a=false->gl P c (st i) .normal (st (i+1))) (Gi:∀i a,xs[i]?=some a->p a=true->gl P c (st i) e1 (X i a)) (yD:gl P c (st xs.length) e2 Y):
  (xs.find? p=none/\xs.findIdx? p=none/\xs.any p=false/\c3 P c (st 0) e2 Y)\/∃i a,xs[i]?=some a/\p a=true/\xs.find? p=some a/\xs.findIdx? p=some i/\xs.any p=true/\c3 P c (st 0) e1 (X i a):=by
 rcases PV p xs with⟨h1,U⟩ | ⟨i,a,h1,U,aw,aH⟩
 ·refine .inl ⟨h1,?_,?_,eY mw xs.length st (fun i hi=>?_) yD⟩
  ·rw[Bs];exact U
  ·rw[hj];exact fun a ah=>by simp[U a ah]
  obtain⟨a,ah⟩:=c0 hi;exact yE i a ah (U a (eA ah))
 refine .inr ⟨i,a,h1,U,aw,?_,oX.2 ⟨a,eA h1,U⟩,eY wD i st (fun j a6=>?_) (Gi i a h1 U)⟩
 ·have hi:=a8 h1;have ah:xs[i]=a:=by rw[gU hi]at h1;exact eN h1
  rw[tZ];refine⟨hi,by rw[ah];exact U,fun j a6=>?_⟩;have:=aH j xs[j] a6 (by simp);simp[this]
 obtain⟨b,ar⟩:=c0 (xs:=xs) (i:=j) (by have:=a8 h1;omega);exact yE j b ar (aH j b a6 ar)
def anyI{α:Type}(p:Nat->α->Bool):Nat->List α->Bool
 | _,[]=>false
 | k,a::r=>p k a||anyI p (k+1) r
theorem C7{α:Type}{p:Nat->α->Bool}:∀{xs:List α} {k:Nat},anyI p k xs=false->∀i a,xs[i]?=some a->p (k+i) a=false
 | [],k,_,i,a,h=>by simp at h
 | x::xs,k,h,i,a,ah=>by
  simp only[anyI,gz]at h;cases i with
  | zero=>simp at ah;subst ah;exact h.1
  | succ i=>
   have:=C7 h.2 i a (by simpa using ah);rwa[show k+1+i=k+(i+1) by omega]at this
theorem I6{α:Type}{p:Nat->α->Bool}:∀{xs:List α} {k:Nat},anyI p k xs=true->∃i a,xs[i]?=some a/\p (k+i) a=true/\∀j b,j<i->xs[j]?=some b->p (k+j) b=false
 | [],k,h=>by simp[anyI]at h
 | x::xs,k,h=>by
  by_cases ag:p k x=true
  ·exact⟨0,x,rfl,ag,fun j b a6=>by omega⟩
  simp only[anyI,n3]at h;obtain⟨i,a,h1,U,aw⟩:=I6 (h.resolve_left ag);refine⟨i+1,a,by simpa using h1,by rw[show k+(i+1)=k+1+i by omega];exact U,fun j b a6 ar=>?_⟩;cases j with
  | zero=>simp at ar;subst ar;simpa using ag
  | succ j=>rw[show k+(j+1)=k+1+j by omega];exact aw j b (by omega) (by simpa using ar)
theorem tw{P:Program}{c:Code}{α:Type}(xs:List α)(p:Nat->α->Bool)(st:Nat->aI){e1 e2:hl}{X Y:aI}(wD:e1.o7≠.normal)(mw:e2.o7≠.normal)
  (yE:∀i a,xs[i]?=some a->p i a=false->gl P c (st i) .normal (st (i+1))) (Gi:∀i a,xs[i]?=some a->p i a=true->gl P c (st i) e1 X) (yD:gl P c (st xs.length) e2 Y):
  (anyI p 0 xs=false/\c3 P c (st 0) e2 Y)\/(anyI p 0 xs=true/\c3 P c (st 0) e1 X):=by
 cases h:anyI p 0 xs with
 | false=>
  refine .inl ⟨rfl,eY mw xs.length st (fun i hi=>?_) yD⟩;obtain⟨a,ah⟩:=c0 hi;have:=C7 h i a ah;rw[dg]at this;exact yE i a ah this
 | true=>
  obtain⟨i,a,h1,U,aw⟩:=I6 h;rw[dg]at U;refine .inr ⟨rfl,eY wD i st (fun j a6=>?_) (Gi i a h1 U)⟩;obtain⟨b,ar⟩:=c0 (xs:=xs) (i:=j) (by have:=a8 h1;omega);have:=aw j b a6 ar;rw[dg]at this;exact yE j b ar this
