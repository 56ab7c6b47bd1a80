import Derived.Test.YtdchjefneblpgaaGreatRows
import Derived.Test.YtdchjefneblpgaaGreatR15
set_option linter.unusedVariables false
set_option linter.unusedSimpArgs false
namespace Go.Proofs.YtdchjefneblpgaaGreat
open Go.Sx Go.RowKit
theorem dO{P:Program}{c:Code}{e:hA}{Z1:aD}(he:e.pe≠.normal):∀(n:Nat) (st:Nat->aD),(∀i,i<n->gi P c (st i) .normal (st (i+1)))->gi P c (st n) e Z1->cN P c (st 0) e Z1
 | 0,_,_,aa=>.last he aa
 | n+1,st,ai,aa=>.more (ai 0 (by omega)) (dO he n (fun i=>st (i+1)) (fun i hi=>ai (i+1) (by omega)) aa)
theorem bw{α β:Type}{xs:List α}{i:Nat}{a:α}(f:α->β)(h:xs[i]?=some a):(xs.map f)[((i:Nat):Int).toNat]?=some (f a):=by simp[h]
variable{i:Nat}
theorem bT{α β:Type}{xs:List α}{f:α->β}(h:i<xs.length):decide ((i:Int)<(↑(xs.map f).length:Int))=true:=by simp only[cp,cc];omega
theorem dq{α β:Type}{xs:List α}{f:α->β}:decide ((↑xs.length:Int)<(↑(xs.map f).length:Int))=false:=by simp
theorem bx:0<=(i:Int):=by omega
theorem bA{α β:Type}{xs:List α}{f:α->β}(h:i<xs.length):(i:Int)<(↑(xs.map f).length:Int):=by simp only[cp];omega
theorem cP{α:Type}{xs:List α}(h:i<xs.length)(aj:xs.length<=8388608):aJ IntKind.i64 ((i:Int)+1):=⟨by omega,by omega⟩
theorem cV{α:Type}{xs:List α}{i:Nat}(h:i<xs.length):∃a,xs[i]?=some a:=⟨xs[i],by simp[h]⟩
theorem a6{α:Type}{xs:List α}{a:α}(h:xs[i]?=some a):i<xs.length:=(gh.1 h).1
theorem cB{α:Type}{xs:List α}{i:Nat}{a:α}(h:xs[i]?=some a):a∈xs:=f' h
theorem Vt{α:Type}[DecidableEq α]:∀(xs ys:List α),xs.length=ys.length->xs=ys\/∃(i:Nat) (a b:α),xs[i]?=some a/\ys[i]?=some b/\a≠b/\∀j,j<i->xs[j]?=ys[j]?
 | [],[],_=>.inl rfl
 | a::xs,b::ys,h=>by
  by_cases dw:a=b
  ·subst dw;rcases Vt xs ys (by simpa using h) with rfl | ⟨i,x,y,h1,U,aA,aI⟩
   ·exact .inl rfl
   refine .inr ⟨i+1,x,y,by simpa using h1,by simpa using U,aA,fun j a8=>?_⟩;cases j with
   | zero=>simp
   | succ j=>simpa using aI j (by omega)
  exact .inr ⟨0,a,b,rfl,rfl,dw,fun j a8=>by omega⟩
 | [],b::ys,h=>by simp at h
 | a::xs,[],h=>by simp at h
def yV{α:Type}(sz:α->Nat)(xs:List α)(i:Nat):Nat:=((xs.take i).map sz).sum
theorem ayb{α:Type}{sz:α->Nat}{xs:List α}{a:α}(h:xs[i]?=some a):yV sz xs (i+1)=yV sz xs i+sz a:=by
 simp[yV,p6,h]
theorem ayc{α:Type}{sz:α->Nat}{xs:List α}:∀{i:Nat},yV sz xs i<=(xs.map sz).sum:=by
 intro i;have:xs.map sz=(xs.take i).map sz++(xs.drop i).map sz:=by rw[<-gF,E1]
 rw[this,List.sum_append];simp[yV]
theorem AT{α:Type}{sz:α->Nat}:∀{xs:List α} {a:α},a∈xs->sz a<=(xs.map sz).sum
 | x::xs,a,h=>by
  rcases dQ.1 h with rfl | h
  ·simp
  have:=AT (sz:=sz) h;simp only[iM,sj];omega
def bd(n:Int):List D:=[I n]
def cF(b:Bool):List D:=[B b]
theorem HX{α:Type}(p:α->Bool):∀(xs:List α),(xs.find? p=none/\∀a∈xs,p a=false)\/∃(i:Nat) (a:α),xs[i]?=some a/\p a=true/\xs.find? p=some a/\∀j b,j<i->xs[j]?=some b->p b=false
 | []=>.inl ⟨rfl,by simp⟩
 | a::xs=>by
  by_cases ae:p a=true
  ·exact .inr ⟨0,a,rfl,ae,by simp[ae],fun j b a8=>by omega⟩
  have xg:p a=false:=by simpa using ae
  rcases HX p xs with⟨h,U⟩ | ⟨i,x,h1,U,aI,aA⟩
  ·refine .inl ⟨by simp[xg,h],fun b aq=>?_⟩;rcases dQ.1 aq with rfl | aq
   ·exact xg
   exact U b aq
  refine .inr ⟨i+1,x,by simpa using h1,U,by simp[xg,aI],fun j b a8 aq=>?_⟩;cases j with
  | zero=>simp at aq;subst aq;exact xg
  | succ j=>exact aA j b (by omega) (by simpa using aq)
def lA{α β:Type}(f:β->α->β)(b:β)(xs:List α)(i:Nat):β:=(xs.take i).foldl f b
theorem G8{α β:Type}{f:β->α->β}{b:β}{xs:List α}{a:α}(h:xs[i]?=some a):lA f b xs (i+1)=f (lA f b xs i) a:=by
 simp[lA,p6,h,List.foldl_append]
theorem G9{α β:Type}{f:β->α->β}{b:β}{xs:List α}:lA f b xs xs.length=xs.foldl f b:=by simp[lA]
theorem pM{α:Type}(p:α->Bool){xs:List α}{a:α}(h:xs[i]?=some a):(xs.take (i+1)).filter p=(xs.take i).filter p++(if p a then [a] else []):=by
 simp only[p6,h,yY,List.filter_append,List.filter_cons,List.filter_nil]
theorem dy{α:Type}(f:α->List D)(h:∀a,∀d∈f a,∃x,d=.v x)(xs:List α):Flat (xs.map f):=by
 intro e he d aF;obtain⟨a,_,rfl⟩:=fV.1 he;exact h a d aF
theorem fA{e:List D}(h:∀d∈e,∃x,d=.v x):Flat [e]:=by
 intro e' he;simp at he;subst he;exact h
theorem hf{P:Program}{c:Code}{α:Type}(xs:List α)(p:α->Bool)(st:Nat->aD){e1 e2:hA}{X:Nat->α->aD}{Y:aD}(zr:e1.pe≠.normal)(ql:e2.pe≠.normal)
  (mc:∀i a,xs[i]?=some a->p a=false->gi P c (st i) .normal (st (i+1))) (Cb:∀i a,xs[i]?=some a->p a=true->gi P c (st i) e1 (X i a)) (xm:gi P c (st xs.length) e2 Y):
  (xs.find? p=none/\xs.findIdx? p=none/\xs.any p=false/\cN P c (st 0) e2 Y)\/∃i a,xs[i]?=some a/\p a=true/\xs.find? p=some a/\xs.findIdx? p=some i/\xs.any p=true/\cN P c (st 0) e1 (X i a):=by
 rcases HX p xs with⟨h1,U⟩ | ⟨i,a,h1,U,aA,aI⟩
 ·refine .inl ⟨h1,?_,?_,dO ql xs.length st (fun i hi=>?_) xm⟩
  ·rw[Ju];exact U
  ·rw[fm];exact fun a ae=>by simp[U a ae]
  obtain⟨a,ae⟩:=cV hi;exact mc i a ae (U a (cB ae))
 refine .inr ⟨i,a,h1,U,aA,?_,oj.2 ⟨a,cB h1,U⟩,dO zr i st (fun j a8=>?_) (Cb i a h1 U)⟩
 ·have hi:=a6 h1;have ae:xs[i]=a:=by rw[jA hi]at h1;exact gX h1
  rw[u6];refine⟨hi,by rw[ae];exact U,fun j a8=>?_⟩;have:=aI j xs[j] a8 (by simp);simp[this]
 obtain⟨b,aq⟩:=cV (xs:=xs) (i:=j) (by have:=a6 h1;omega);exact mc j b aq (aI j b a8 aq)
def anyI{α:Type}(p:Nat->α->Bool):Nat->List α->Bool
 | _,[]=>false
 | k,a::r=>p k a||anyI p (k+1) r
theorem AU{α:Type}{p:Nat->α->Bool}:∀{xs:List α} {k:Nat},anyI p k xs=false->∀i a,xs[i]?=some a->p (k+i) a=false
 | [],k,_,i,a,h=>by simp at h
 | x::xs,k,h,i,a,ae=>by
  simp only[anyI,fw]at h;cases i with
  | zero=>simp at ae;subst ae;exact h.1
  | succ i=>
   have:=AU h.2 i a (by simpa using ae);rwa[show k+1+i=k+(i+1) by omega]at this
theorem N6{α:Type}{p:Nat->α->Bool}:∀{xs:List α} {k:Nat},anyI p k xs=true->∃i a,xs[i]?=some a/\p (k+i) a=true/\∀j b,j<i->xs[j]?=some b->p (k+j) b=false
 | [],k,h=>by simp[anyI]at h
 | x::xs,k,h=>by
  by_cases aa:p k x=true
  ·exact⟨0,x,rfl,aa,fun j b a8=>by omega⟩
  simp only[anyI,oi]at h;obtain⟨i,a,h1,U,aA⟩:=N6 (h.resolve_left aa);refine⟨i+1,a,by simpa using h1,by rw[show k+(i+1)=k+1+i by omega];exact U,fun j b a8 aq=>?_⟩;cases j with
  | zero=>simp at aq;subst aq;simpa using aa
  | succ j=>rw[show k+(j+1)=k+1+j by omega];exact aA j b (by omega) (by simpa using aq)
theorem wD{P:Program}{c:Code}{α:Type}(xs:List α)(p:Nat->α->Bool)(st:Nat->aD){e1 e2:hA}{X Y:aD}(zr:e1.pe≠.normal)(ql:e2.pe≠.normal)
  (mc:∀i a,xs[i]?=some a->p i a=false->gi P c (st i) .normal (st (i+1))) (Cb:∀i a,xs[i]?=some a->p i a=true->gi P c (st i) e1 X) (xm:gi P c (st xs.length) e2 Y):
  (anyI p 0 xs=false/\cN P c (st 0) e2 Y)\/(anyI p 0 xs=true/\cN P c (st 0) e1 X):=by
 cases h:anyI p 0 xs with
 | false=>
  refine .inl ⟨rfl,dO ql xs.length st (fun i hi=>?_) xm⟩;obtain⟨a,ae⟩:=cV hi;have:=AU h i a ae;rw[dV]at this;exact mc i a ae this
 | true=>
  obtain⟨i,a,h1,U,aA⟩:=N6 h;rw[dV]at U;refine .inr ⟨rfl,dO zr i st (fun j a8=>?_) (Cb i a h1 U)⟩;obtain⟨b,aq⟩:=cV (xs:=xs) (i:=j) (by have:=a6 h1;omega);have:=aA j b a8 aq;rw[dV]at this;exact mc j b aq this
