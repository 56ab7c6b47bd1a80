import Derived.Test.YthfnndblgbjniaaGreatRows
import Derived.Test.YthfnndblgbjniaaGreatR15
set_option linter.unusedVariables false
set_option linter.unusedSimpArgs false
namespace Go.Proofs.YthfnndblgbjniaaGreat
open Go.Sx Go.RowKit
theorem er{P:Program}{c:Code}{e:h3}{stE:aD}(he:e.qf≠.normal):∀(n:Nat) (st:Nat->aD),(∀i,i<n->fS P c (st i) .normal (st (i+1)))->fS P c (st n) e stE->c8 P c (st 0) e stE
 | 0,_,_,ag=>.last he ag
 | n+1,st,ao,ag=>.more (ao 0 (by omega)) (er he n (fun i=>st (i+1)) (fun i hi=>ao (i+1) (by omega)) ag)
theorem azO{P:Program}{c:Code}{e:h3}{stE:aD}(he:e.qf≠.normal)(k n:Nat)(st:Nat->aD)(Sv:k<=n)(ao:∀i,k<=i->i<n->fS P c (st i) .normal (st (i+1)))(ag:fS P c (st n) e stE):c8 P c (st k) e stE:=by
 have:=er (P:=P) (c:=c) he (n-k) (fun i=>st (k+i)) (fun i hi=>ao (k+i) (by omega) (by omega)) (by rw[show k+(n-k)=n by omega];exact ag);simpa using this
variable{i:Nat}
theorem bA{α β:Type}{xs:List α}{a:α}(f:α->β)(h:xs[i]?=some a):(xs.map f)[((i:Nat):Int).toNat]?=some (f a):=by simp[h]
theorem bV{α β:Type}{xs:List α}{f:α->β}(h:i<xs.length):decide ((i:Int)<(↑(xs.map f).length:Int))=true:=by simp only[b',cj];omega
theorem dq{α β:Type}{xs:List α}{f:α->β}:decide ((↑xs.length:Int)<(↑(xs.map f).length:Int))=false:=by simp
theorem bx:0<=(i:Int):=by omega
theorem bH{α β:Type}{xs:List α}{f:α->β}(h:i<xs.length):(i:Int)<(↑(xs.map f).length:Int):=by simp only[b'];omega
theorem c0{α:Type}{xs:List α}(h:i<xs.length)(al:xs.length<=8388608):aL IntKind.i64 ((i:Int)+1):=⟨by omega,by omega⟩
theorem c5{α:Type}{xs:List α}{i:Nat}(h:i<xs.length):∃a,xs[i]?=some a:=⟨xs[i],by simp[h]⟩
theorem aY{α:Type}{xs:List α}{a:α}(h:xs[i]?=some a):i<xs.length:=(ga.1 h).1
theorem cD{α:Type}{xs:List α}{i:Nat}{a:α}(h:xs[i]?=some a):a∈xs:=gj h
theorem N1{α:Type}(p:α->Bool):∀(xs:List α),(∀a∈xs,p a=true)\/∃(i:Nat) (a:α),xs[i]?=some a/\p a=false/\∀j b,j<i->xs[j]?=some b->p b=true
 | []=>.inl (by simp)
 | a::xs=>by
  by_cases ah:p a=true
  ·rcases N1 p xs with h | ⟨i,x,h1,U,aA⟩
   ·refine .inl fun b aw=>?_
    rcases ev.1 aw with rfl | aw
    ·exact ah
    exact h b aw
   refine .inr ⟨i+1,x,by simpa using h1,U,fun j b bf aw=>?_⟩;cases j with
   | zero=>simp at aw;subst aw;exact ah
   | succ j=>exact aA j b (by omega) (by simpa using aw)
  exact .inr ⟨0,a,rfl,by simpa using ah,fun j b bf=>by omega⟩
def tw{α:Type}(sz:α->Nat)(xs:List α)(i:Nat):Nat:=((xs.take i).map sz).sum
theorem VK{α:Type}{sz:α->Nat}{xs:List α}:tw sz xs 0=0:=rfl
theorem VL{α:Type}{sz:α->Nat}{xs:List α}:tw sz xs xs.length=(xs.map sz).sum:=by simp[tw]
theorem VM{α:Type}{sz:α->Nat}{xs:List α}{a:α}(h:xs[i]?=some a):tw sz xs (i+1)=tw sz xs i+sz a:=by
 simp[tw,o4,h]
theorem VN{α:Type}{sz:α->Nat}{xs:List α}:∀{i:Nat},tw sz xs i<=(xs.map sz).sum:=by
 intro i;have:xs.map sz=(xs.take i).map sz++(xs.drop i).map sz:=by rw[<-gi,yX]
 rw[this,List.sum_append];simp[tw]
theorem Hv{α:Type}{sz:α->Nat}:∀{xs:List α} {a:α},a∈xs->sz a<=(xs.map sz).sum
 | x::xs,a,h=>by
  rcases ev.1 h with rfl | h
  ·simp
  have:=Hv (sz:=sz) h;simp only[mg,w4];omega
def bd(n:Int):List D:=[I n]
def cG(b:Bool):List D:=[B b]
theorem UZ{α:Type}(p:α->Bool):∀(xs:List α),(xs.find? p=none/\∀a∈xs,p a=false)\/∃(i:Nat) (a:α),xs[i]?=some a/\p a=true/\xs.find? p=some a/\∀j b,j<i->xs[j]?=some b->p b=false
 | []=>.inl ⟨rfl,by simp⟩
 | a::xs=>by
  by_cases ah:p a=true
  ·exact .inr ⟨0,a,rfl,ah,by simp[ah],fun j b bf=>by omega⟩
  have Fv:p a=false:=by simpa using ah
  rcases UZ p xs with⟨h,U⟩ | ⟨i,x,h1,U,aJ,aA⟩
  ·refine .inl ⟨by simp[Fv,h],fun b aw=>?_⟩;rcases ev.1 aw with rfl | aw
   ·exact Fv
   exact U b aw
  refine .inr ⟨i+1,x,by simpa using h1,U,by simp[Fv,aJ],fun j b bf aw=>?_⟩;cases j with
  | zero=>simp at aw;subst aw;exact Fv
  | succ j=>exact aA j b (by omega) (by simpa using aw)
def qP{α β:Type}(f:β->α->β)(b:β)(xs:List α)(i:Nat):β:=(xs.take i).foldl f b
theorem Hw{α β:Type}{f:β->α->β}{b:β}{xs:List α}{a:α}(h:xs[i]?=some a):qP f b xs (i+1)=f (qP f b xs i) a:=by
 simp[qP,o4,h,List.foldl_append]
theorem Hy{α β:Type}{f:β->α->β}{b:β}{xs:List α}:qP f b xs xs.length=xs.foldl f b:=by simp[qP]
theorem U0{α β:Type}{f:β->α->β}{b:β}{xs:List α}:qP f b xs 0=b:=rfl
def aaP(n:Int):Int:=IntKind.i64.wrap n
theorem AN{α:Type}(p:α->Bool){xs:List α}{a:α}(h:xs[i]?=some a):(xs.take (i+1)).filter p=(xs.take i).filter p++(if p a then [a] else []):=by
 simp only[o4,h,Bd,List.filter_append,List.filter_cons,List.filter_nil]
theorem dt{α:Type}(f:α->List D)(h:∀a,∀d∈f a,∃x,d=.v x)(xs:List α):Flat (xs.map f):=by
 intro e he d aE;obtain⟨a,_,rfl⟩:=kr.1 he;exact h a d aE
theorem gb{e:List D}(h:∀d∈e,∃x,d=.v x):Flat [e]:=by
 intro e' he;simp at he;subst he;exact h
theorem gl{P:Program}{c:Code}{α:Type}(xs:List α)(p:α->Bool)(st:Nat->aD){e1 e2:h3}{X:Nat->α->aD}{Y:aD}(FA:e1.qf≠.normal)(sF:e2.qf≠.normal)
  (BZ:∀i a,xs[i]?=some a->p a=false->fS P c (st i) .normal (st (i+1))) (Kv:∀i a,xs[i]?=some a->p a=true->fS P c (st i) e1 (X i a)) (BY:fS P c (st xs.length) e2 Y):
  (xs.find? p=none/\xs.findIdx? p=none/\xs.any p=false/\c8 P c (st 0) e2 Y)\/∃i a,xs[i]?=some a/\p a=true/\xs.find? p=some a/\xs.findIdx? p=some i/\xs.any p=true/\c8 P c (st 0) e1 (X i a):=by
 rcases UZ p xs with⟨h1,U⟩ | ⟨i,a,h1,U,aA,aJ⟩
 ·refine .inl ⟨h1,?_,?_,er sF xs.length st (fun i hi=>?_) BY⟩
  ·rw[Jm];exact U
  ·rw[fx];exact fun a ah=>by simp[U a ah]
  obtain⟨a,ah⟩:=c5 hi;exact BZ i a ah (U a (cD ah))
 refine .inr ⟨i,a,h1,U,aA,?_,o7.2 ⟨a,cD h1,U⟩,er FA i st (fun j bf=>?_) (Kv i a h1 U)⟩
 ·have hi:=aY h1;have ah:xs[i]=a:=by rw[gU hi]at h1;exact gO h1
  rw[u9];refine⟨hi,by rw[ah];exact U,fun j bf=>?_⟩;have:=aJ j xs[j] bf (by simp);simp[this]
 obtain⟨b,aw⟩:=c5 (xs:=xs) (i:=j) (by have:=aY h1;omega);exact BZ j b aw (aJ j b bf aw)
def anyI{α:Type}(p:Nat->α->Bool):Nat->List α->Bool
 | _,[]=>false
 | k,a::r=>p k a||anyI p (k+1) r
theorem AO{α:Type}{p:Nat->α->Bool}:∀{xs:List α} {k:Nat},anyI p k xs=false->∀i a,xs[i]?=some a->p (k+i) a=false
 | [],k,_,i,a,h=>by simp at h
 | x::xs,k,h,i,a,ah=>by
  simp only[anyI,fC]at h;cases i with
  | zero=>simp at ah;subst ah;exact h.1
  | succ i=>
   have:=AO h.2 i a (by simpa using ah);rwa[show k+1+i=k+(i+1) by omega]at this
theorem N2{α:Type}{p:Nat->α->Bool}:∀{xs:List α} {k:Nat},anyI p k xs=true->∃i a,xs[i]?=some a/\p (k+i) a=true/\∀j b,j<i->xs[j]?=some b->p (k+j) b=false
 | [],k,h=>by simp[anyI]at h
 | x::xs,k,h=>by
  by_cases ag:p k x=true
  ·exact⟨0,x,rfl,ag,fun j b bf=>by omega⟩
  simp only[anyI,o5]at h;obtain⟨i,a,h1,U,aA⟩:=N2 (h.resolve_left ag);refine⟨i+1,a,by simpa using h1,by rw[show k+(i+1)=k+1+i by omega];exact U,fun j b bf aw=>?_⟩;cases j with
  | zero=>simp at aw;subst aw;simpa using ag
  | succ j=>rw[show k+(j+1)=k+1+j by omega];exact aA j b (by omega) (by simpa using aw)
theorem qQ{P:Program}{c:Code}{α:Type}(xs:List α)(p:Nat->α->Bool)(st:Nat->aD){e1 e2:h3}{X Y:aD}(FA:e1.qf≠.normal)(sF:e2.qf≠.normal)
  (BZ:∀i a,xs[i]?=some a->p i a=false->fS P c (st i) .normal (st (i+1))) (Kv:∀i a,xs[i]?=some a->p i a=true->fS P c (st i) e1 X) (BY:fS P c (st xs.length) e2 Y):
  (anyI p 0 xs=false/\c8 P c (st 0) e2 Y)\/(anyI p 0 xs=true/\c8 P c (st 0) e1 X):=by
 cases h:anyI p 0 xs with
 | false=>
  refine .inl ⟨rfl,er sF xs.length st (fun i hi=>?_) BY⟩;obtain⟨a,ah⟩:=c5 hi;have:=AO h i a ah;rw[dX]at this;exact BZ i a ah this
 | true=>
  obtain⟨i,a,h1,U,aA⟩:=N2 h;rw[dX]at U;refine .inr ⟨rfl,er FA i st (fun j bf=>?_) (Kv i a h1 U)⟩;obtain⟨b,aw⟩:=c5 (xs:=xs) (i:=j) (by have:=aY h1;omega);have:=aA j b bf aw;rw[dX]at this;exact BZ j b aw this
