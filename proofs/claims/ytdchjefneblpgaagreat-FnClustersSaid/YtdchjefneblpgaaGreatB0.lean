import Derived.Test.YtdchjefneblpgaaGreatRows
import Derived.Test.YtdchjefneblpgaaGreatR15
set_option linter.unusedVariables false
set_option linter.unusedSimpArgs false
namespace Go.Proofs.YtdchjefneblpgaaGreat
open Go.Sx Go.RowKit
theorem e6{P:Program}{c:Code}{e:hE}{XQ:aF}(he:e.oa≠.normal):∀(n:Nat) (st:Nat->aF),(∀i,i<n->gl P c (st i) .normal (st (i+1)))->gl P c (st n) e XQ->c' P c (st 0) e XQ
 | 0,_,_,aa=>.last he aa
 | n+1,st,ai,aa=>.more (ai 0 (by omega)) (e6 he n (fun i=>st (i+1)) (fun i hi=>ai (i+1) (by omega)) aa)
variable{i:Nat}
theorem bl{α β:Type}{xs:List α}{a:α}(f:α->β)(h:xs[i]?=some a):(xs.map f)[((i:Nat):Int).toNat]?=some (f a):=by simp[h]
theorem bV{α β:Type}{xs:List α}{f:α->β}(h:i<xs.length):decide ((i:Int)<(↑(xs.map f).length:Int))=true:=by simp only[bA,cr];omega
theorem dk{α β:Type}{xs:List α}{f:α->β}:decide ((↑xs.length:Int)<(↑(xs.map f).length:Int))=false:=by simp
theorem bk:0<=(i:Int):=by omega
theorem bm{α β:Type}{xs:List α}{f:α->β}(h:i<xs.length):(i:Int)<(↑(xs.map f).length:Int):=by simp only[bA];omega
theorem c3{α:Type}{xs:List α}(h:i<xs.length)(ag:xs.length<=8388608):aG IntKind.i64 ((i:Int)+1):=⟨by omega,by omega⟩
theorem db{α:Type}{xs:List α}{i:Nat}(h:i<xs.length):∃a,xs[i]?=some a:=⟨xs[i],by simp[h]⟩
theorem aP{α:Type}{xs:List α}{a:α}(h:xs[i]?=some a):i<xs.length:=(eW.1 h).1
theorem cS{α:Type}{xs:List α}{i:Nat}{a:α}(h:xs[i]?=some a):a∈xs:=fF h
theorem Tf{α:Type}[DecidableEq α]:∀(xs ys:List α),xs.length=ys.length->xs=ys\/∃(i:Nat) (a b:α),xs[i]?=some a/\ys[i]?=some b/\a≠b/\∀j,j<i->xs[j]?=ys[j]?
 | [],[],_=>.inl rfl
 | a::xs,b::ys,h=>by
  by_cases ek:a=b
  ·subst ek;rcases Tf xs ys (by simpa using h) with rfl | ⟨i,x,y,h1,U,ax,aK⟩
   ·exact .inl rfl
   refine .inr ⟨i+1,x,y,by simpa using h1,by simpa using U,ax,fun j bd=>?_⟩;cases j with
   | zero=>simp
   | succ j=>simpa using aK j (by omega)
  exact .inr ⟨0,a,b,rfl,rfl,ek,fun j bd=>by omega⟩
 | [],b::ys,h=>by simp at h
 | a::xs,[],h=>by simp at h
theorem ED{α:Type}{sz:α->Nat}:∀{xs:List α} {a:α},a∈xs->sz a<=(xs.map sz).sum
 | x::xs,a,h=>by
  rcases ez.1 h with rfl | h
  ·simp
  have:=ED (sz:=sz) h;simp only[jW,nf];omega
def bb(n:Int):List D:=[I n]
def cy(b:Bool):List D:=[B b]
theorem Tg{α:Type}(p:α->Bool):∀(xs:List α),(xs.find? p=none/\∀a∈xs,p a=false)\/∃(i:Nat) (a:α),xs[i]?=some a/\p a=true/\xs.find? p=some a/\∀j b,j<i->xs[j]?=some b->p b=false
 | []=>.inl ⟨rfl,by simp⟩
 | a::xs=>by
  by_cases ae:p a=true
  ·exact .inr ⟨0,a,rfl,ae,by simp[ae],fun j b bd=>by omega⟩
  have DB:p a=false:=by simpa using ae
  rcases Tg p xs with⟨h,U⟩ | ⟨i,x,h1,U,aK,ax⟩
  ·refine .inl ⟨by simp[DB,h],fun b aj=>?_⟩;rcases ez.1 aj with rfl | aj
   ·exact DB
   exact U b aj
  refine .inr ⟨i+1,x,by simpa using h1,U,by simp[DB,aK],fun j b bd aj=>?_⟩;cases j with
  | zero=>simp at aj;subst aj;exact DB
  | succ j=>exact ax j b (by omega) (by simpa using aj)
def wX{α β:Type}(f:β->α->β)(b:β)(xs:List α)(i:Nat):β:=(xs.take i).foldl f b
theorem asY{α β:Type}{f:β->α->β}{b:β}{xs:List α}{a:α}(h:xs[i]?=some a):wX f b xs (i+1)=f (wX f b xs i) a:=by
 simp[wX,r',h,List.foldl_append]
theorem asZ{α β:Type}{f:β->α->β}{b:β}{xs:List α}:wX f b xs xs.length=xs.foldl f b:=by simp[wX]
theorem Bz{α:Type}(p:α->Bool){xs:List α}{a:α}(h:xs[i]?=some a):(xs.take (i+1)).filter p=(xs.take i).filter p++(if p a then [a] else []):=by
 simp only[r',h,zV,List.filter_append,List.filter_cons,List.filter_nil]
theorem cM{α:Type}(f:α->List D)(h:∀a,∀d∈f a,∃x,d=.v x)(xs:List α):Flat (xs.map f):=by
 intro e he d aE;obtain⟨a,_,rfl⟩:=jX.1 he;exact h a d aE
theorem dU{e:List D}(h:∀d∈e,∃x,d=.v x):Flat [e]:=by
 intro e' he;simp at he;subst he;exact h
theorem hM{P:Program}{c:Code}{α:Type}(xs:List α)(p:α->Bool)(st:Nat->aF){e1 e2:hE}{X:Nat->α->aF}{Y:aF}(tV:e1.oa≠.normal)(lW:e2.oa≠.normal)
  (tY:∀i a,xs[i]?=some a->p a=false->gl P c (st i) .normal (st (i+1))) (As:∀i a,xs[i]?=some a->p a=true->gl P c (st i) e1 (X i a)) (vY:gl P c (st xs.length) e2 Y):
  (xs.find? p=none/\xs.findIdx? p=none/\xs.any p=false/\c' P c (st 0) e2 Y)\/∃i a,xs[i]?=some a/\p a=true/\xs.find? p=some a/\xs.findIdx? p=some i/\xs.any p=true/\c' P c (st 0) e1 (X i a):=by
 rcases Tg p xs with⟨h1,U⟩ | ⟨i,a,h1,U,ax,aK⟩
 ·refine .inl ⟨h1,?_,?_,e6 lW xs.length st (fun i hi=>?_) vY⟩
  ·rw[O2];exact U
  ·rw[fh];exact fun a ae=>by simp[U a ae]
  obtain⟨a,ae⟩:=db hi;exact tY i a ae (U a (cS ae))
 refine .inr ⟨i,a,h1,U,ax,?_,nd.2 ⟨a,cS h1,U⟩,e6 tV i st (fun j bd=>?_) (As i a h1 U)⟩
 ·have hi:=aP h1;have ae:xs[i]=a:=by rw[h4 hi]at h1;exact eE h1
  rw[zN];refine⟨hi,by rw[ae];exact U,fun j bd=>?_⟩;have:=aK j xs[j] bd (by simp);simp[this]
 obtain⟨b,aj⟩:=db (xs:=xs) (i:=j) (by have:=aP h1;omega);exact tY j b aj (aK j b bd aj)
def anyI{α:Type}(p:Nat->α->Bool):Nat->List α->Bool
 | _,[]=>false
 | k,a::r=>p k a||anyI p (k+1) r
theorem BA{α:Type}{p:Nat->α->Bool}:∀{xs:List α} {k:Nat},anyI p k xs=false->∀i a,xs[i]?=some a->p (k+i) a=false
 | [],k,_,i,a,h=>by simp at h
 | x::xs,k,h,i,a,ae=>by
  simp only[anyI,fB]at h;cases i with
  | zero=>simp at ae;subst ae;exact h.1
  | succ i=>
   have:=BA h.2 i a (by simpa using ae);rwa[show k+1+i=k+(i+1) by omega]at this
theorem LH{α:Type}{p:Nat->α->Bool}:∀{xs:List α} {k:Nat},anyI p k xs=true->∃i a,xs[i]?=some a/\p (k+i) a=true/\∀j b,j<i->xs[j]?=some b->p (k+j) b=false
 | [],k,h=>by simp[anyI]at h
 | x::xs,k,h=>by
  by_cases aa:p k x=true
  ·exact⟨0,x,rfl,aa,fun j b bd=>by omega⟩
  simp only[anyI,lM]at h;obtain⟨i,a,h1,U,ax⟩:=LH (h.resolve_left aa);refine⟨i+1,a,by simpa using h1,by rw[show k+(i+1)=k+1+i by omega];exact U,fun j b bd aj=>?_⟩;cases j with
  | zero=>simp at aj;subst aj;simpa using aa
  | succ j=>rw[show k+(j+1)=k+1+j by omega];exact ax j b (by omega) (by simpa using aj)
theorem ux{P:Program}{c:Code}{α:Type}(xs:List α)(p:Nat->α->Bool)(st:Nat->aF){e1 e2:hE}{X Y:aF}(tV:e1.oa≠.normal)(lW:e2.oa≠.normal)
  (tY:∀i a,xs[i]?=some a->p i a=false->gl P c (st i) .normal (st (i+1))) (As:∀i a,xs[i]?=some a->p i a=true->gl P c (st i) e1 X) (vY:gl P c (st xs.length) e2 Y):
  (anyI p 0 xs=false/\c' P c (st 0) e2 Y)\/(anyI p 0 xs=true/\c' P c (st 0) e1 X):=by
 cases h:anyI p 0 xs with
 | false=>
  refine .inl ⟨rfl,e6 lW xs.length st (fun i hi=>?_) vY⟩;obtain⟨a,ae⟩:=db hi;have:=BA h i a ae;rw[dG]at this;exact tY i a ae this
 | true=>
  obtain⟨i,a,h1,U,ax⟩:=LH h;rw[dG]at U;refine .inr ⟨rfl,e6 tV i st (fun j bd=>?_) (As i a h1 U)⟩;obtain⟨b,aj⟩:=db (xs:=xs) (i:=j) (by have:=aP h1;omega);have:=ax j b bd aj;rw[dG]at this;exact tY j b aj this
