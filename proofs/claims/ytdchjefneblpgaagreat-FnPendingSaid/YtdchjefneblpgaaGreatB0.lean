import Derived.Test.YtdchjefneblpgaaGreatRows
import Derived.Test.YtdchjefneblpgaaGreatR15
set_option linter.unusedVariables false
set_option linter.unusedSimpArgs false
namespace Go.Proofs.YtdchjefneblpgaaGreat
open Go.Sx Go.RowKit
theorem ef{P:Program}{c:Code}{e:gO}{stE:aE}(he:e.nt≠.normal):∀(n:Nat) (st:Nat->aE),(∀i,i<n->fP P c (st i) .normal (st (i+1)))->fP P c (st n) e stE->dd P c (st 0) e stE
 | 0,_,_,aa=>.last he aa
 | n+1,st,ae,aa=>.more (ae 0 (by omega)) (ef he n (fun i=>st (i+1)) (fun i hi=>ae (i+1) (by omega)) aa)
theorem ako{P:Program}{c:Code}{e:gO}{stE:aE}(he:e.nt≠.normal)(k n:Nat)(st:Nat->aE)(Nz:k<=n)(ae:∀i,k<=i->i<n->fP P c (st i) .normal (st (i+1)))(aa:fP P c (st n) e stE):dd P c (st k) e stE:=by
 have:=ef (P:=P) (c:=c) he (n-k) (fun i=>st (k+i)) (fun i hi=>ae (k+i) (by omega) (by omega)) (by rw[show k+(n-k)=n by omega];exact aa);simpa using this
variable{i:Nat}
theorem bF{α β:Type}{xs:List α}{a:α}(f:α->β)(h:xs[i]?=some a):(xs.map f)[((i:Nat):Int).toNat]?=some (f a):=by simp[h]
theorem cg{α β:Type}{xs:List α}{f:α->β}(h:i<xs.length):decide ((i:Int)<(↑(xs.map f).length:Int))=true:=by simp only[bp,ci];omega
theorem dH{α β:Type}{xs:List α}{f:α->β}:decide ((↑xs.length:Int)<(↑(xs.map f).length:Int))=false:=by simp
theorem bG:0<=(i:Int):=by omega
theorem bJ{α β:Type}{xs:List α}{f:α->β}(h:i<xs.length):(i:Int)<(↑(xs.map f).length:Int):=by simp only[bp];omega
theorem cY{α:Type}{xs:List α}(h:i<xs.length)(af:xs.length<=8388608):bf IntKind.i64 ((i:Int)+1):=⟨by omega,by omega⟩
theorem dv{α:Type}{xs:List α}{i:Nat}(h:i<xs.length):∃a,xs[i]?=some a:=⟨xs[i],by simp[h]⟩
theorem bh{α:Type}{xs:List α}{a:α}(h:xs[i]?=some a):i<xs.length:=(dK.1 h).1
theorem c8{α:Type}{xs:List α}{i:Nat}{a:α}(h:xs[i]?=some a):a∈xs:=e4 h
theorem PW{α:Type}[DecidableEq α]:∀(xs ys:List α),xs.length=ys.length->xs=ys\/∃(i:Nat) (a b:α),xs[i]?=some a/\ys[i]?=some b/\a≠b/\∀j,j<i->xs[j]?=ys[j]?
 | [],[],_=>.inl rfl
 | a::xs,b::ys,h=>by
  by_cases dW:a=b
  ·subst dW;rcases PW xs ys (by simpa using h) with rfl | ⟨i,x,y,h1,U,au,aH⟩
   ·exact .inl rfl
   refine .inr ⟨i+1,x,y,by simpa using h1,by simpa using U,au,fun j aM=>?_⟩;cases j with
   | zero=>simp
   | succ j=>simpa using aH j (by omega)
  exact .inr ⟨0,a,b,rfl,rfl,dW,fun j aM=>by omega⟩
 | [],b::ys,h=>by simp at h
 | a::xs,[],h=>by simp at h
def xc{α:Type}(sz:α->Nat)(xs:List α)(i:Nat):Nat:=((xs.take i).map sz).sum
theorem akp{α:Type}{sz:α->Nat}{xs:List α}{a:α}(h:xs[i]?=some a):xc sz xs (i+1)=xc sz xs i+sz a:=by
 simp[xc,lK,h]
theorem akq{α:Type}{sz:α->Nat}{xs:List α}:∀{i:Nat},xc sz xs i<=(xs.map sz).sum:=by
 intro i;have:xs.map sz=(xs.take i).map sz++(xs.drop i).map sz:=by rw[<-e3,zf]
 rw[this,List.sum_append];simp[xc]
theorem yn{α:Type}{sz:α->Nat}:∀{xs:List α} {a:α},a∈xs->sz a<=(xs.map sz).sum
 | x::xs,a,h=>by
  rcases dG.1 h with rfl | h
  ·simp
  have:=yn (sz:=sz) h;simp only[iT,oY];omega
def cv(n:Int):List D:=[I n]
def c6(b:Bool):List D:=[B b]
theorem PX{α:Type}(p:α->Bool):∀(xs:List α),(xs.find? p=none/\∀a∈xs,p a=false)\/∃(i:Nat) (a:α),xs[i]?=some a/\p a=true/\xs.find? p=some a/\∀j b,j<i->xs[j]?=some b->p b=false
 | []=>.inl ⟨rfl,by simp⟩
 | a::xs=>by
  by_cases ag:p a=true
  ·exact .inr ⟨0,a,rfl,ag,by simp[ag],fun j b aM=>by omega⟩
  have CT:p a=false:=by simpa using ag
  rcases PX p xs with⟨h,U⟩ | ⟨i,x,h1,U,aH,au⟩
  ·refine .inl ⟨by simp[CT,h],fun b ah=>?_⟩;rcases dG.1 ah with rfl | ah
   ·exact CT
   exact U b ah
  refine .inr ⟨i+1,x,by simpa using h1,U,by simp[CT,aH],fun j b aM ah=>?_⟩;cases j with
  | zero=>simp at ah;subst ah;exact CT
  | succ j=>exact au j b (by omega) (by simpa using ah)
def jw{α β:Type}(f:β->α->β)(b:β)(xs:List α)(i:Nat):β:=(xs.take i).foldl f b
theorem sS{α β:Type}{f:β->α->β}{b:β}{xs:List α}{a:α}(h:xs[i]?=some a):jw f b xs (i+1)=f (jw f b xs i) a:=by
 simp[jw,lK,h,List.foldl_append]
theorem AS{α β:Type}{f:β->α->β}{b:β}{xs:List α}:jw f b xs xs.length=xs.foldl f b:=by simp[jw]
theorem PY{α β:Type}{f:β->α->β}{b:β}{xs:List α}:jw f b xs 0=b:=rfl
def BV(n:Int):Int:=IntKind.i64.wrap n
theorem ua{α:Type}(p:α->Bool){xs:List α}{a:α}(h:xs[i]?=some a):(xs.take (i+1)).filter p=(xs.take i).filter p++(if p a then [a] else []):=by
 simp only[lK,h,xj,List.filter_append,List.filter_cons,List.filter_nil]
theorem cn{α:Type}(f:α->List D)(h:∀a,∀d∈f a,∃x,d=.v x)(xs:List α):Flat (xs.map f):=by
 intro e he d ax;obtain⟨a,_,rfl⟩:=h'.1 he;exact h a d ax
theorem dk{e:List D}(h:∀d∈e,∃x,d=.v x):Flat [e]:=by
 intro e' he;simp at he;subst he;exact h
theorem jb{P:Program}{c:Code}{α:Type}(xs:List α)(p:α->Bool)(st:Nat->aE){e1 e2:gO}{X:Nat->α->aE}{Y:aE}(tL:e1.nt≠.normal)(lU:e2.nt≠.normal)
  (tN:∀i a,xs[i]?=some a->p a=false->fP P c (st i) .normal (st (i+1))) (zH:∀i a,xs[i]?=some a->p a=true->fP P c (st i) e1 (X i a)) (vz:fP P c (st xs.length) e2 Y):
  (xs.find? p=none/\xs.findIdx? p=none/\xs.any p=false/\dd P c (st 0) e2 Y)\/∃i a,xs[i]?=some a/\p a=true/\xs.find? p=some a/\xs.findIdx? p=some i/\xs.any p=true/\dd P c (st 0) e1 (X i a):=by
 rcases PX p xs with⟨h1,U⟩ | ⟨i,a,h1,U,au,aH⟩
 ·refine .inl ⟨h1,?_,?_,ef lU xs.length st (fun i hi=>?_) vz⟩
  ·rw[Cj];exact U
  ·rw[eW];exact fun a ag=>by simp[U a ag]
  obtain⟨a,ag⟩:=dv hi;exact tN i a ag (U a (c8 ag))
 refine .inr ⟨i,a,h1,U,au,?_,lg.2 ⟨a,c8 h1,U⟩,ef tL i st (fun j aM=>?_) (zH i a h1 U)⟩
 ·have hi:=bh h1;have ag:xs[i]=a:=by rw[fC hi]at h1;exact ei h1
  rw[qK];refine⟨hi,by rw[ag];exact U,fun j aM=>?_⟩;have:=aH j xs[j] aM (by simp);simp[this]
 obtain⟨b,ah⟩:=dv (xs:=xs) (i:=j) (by have:=bh h1;omega);exact tN j b ah (aH j b aM ah)
def anyI{α:Type}(p:Nat->α->Bool):Nat->List α->Bool
 | _,[]=>false
 | k,a::r=>p k a||anyI p (k+1) r
theorem AT{α:Type}{p:Nat->α->Bool}:∀{xs:List α} {k:Nat},anyI p k xs=false->∀i a,xs[i]?=some a->p (k+i) a=false
 | [],k,_,i,a,h=>by simp at h
 | x::xs,k,h,i,a,ag=>by
  simp only[anyI,gz]at h;cases i with
  | zero=>simp at ag;subst ag;exact h.1
  | succ i=>
   have:=AT h.2 i a (by simpa using ag);rwa[show k+1+i=k+(i+1) by omega]at this
theorem Jh{α:Type}{p:Nat->α->Bool}:∀{xs:List α} {k:Nat},anyI p k xs=true->∃i a,xs[i]?=some a/\p (k+i) a=true/\∀j b,j<i->xs[j]?=some b->p (k+j) b=false
 | [],k,h=>by simp[anyI]at h
 | x::xs,k,h=>by
  by_cases aa:p k x=true
  ·exact⟨0,x,rfl,aa,fun j b aM=>by omega⟩
  simp only[anyI,lL]at h;obtain⟨i,a,h1,U,au⟩:=Jh (h.resolve_left aa);refine⟨i+1,a,by simpa using h1,by rw[show k+(i+1)=k+1+i by omega];exact U,fun j b aM ah=>?_⟩;cases j with
  | zero=>simp at ah;subst ah;simpa using aa
  | succ j=>rw[show k+(j+1)=k+1+j by omega];exact au j b (by omega) (by simpa using ah)
theorem EN{P:Program}{c:Code}{α:Type}(xs:List α)(p:Nat->α->Bool)(st:Nat->aE){e1 e2:gO}{X Y:aE}(tL:e1.nt≠.normal)(lU:e2.nt≠.normal)
  (tN:∀i a,xs[i]?=some a->p i a=false->fP P c (st i) .normal (st (i+1))) (zH:∀i a,xs[i]?=some a->p i a=true->fP P c (st i) e1 X) (vz:fP P c (st xs.length) e2 Y):
  (anyI p 0 xs=false/\dd P c (st 0) e2 Y)\/(anyI p 0 xs=true/\dd P c (st 0) e1 X):=by
 cases h:anyI p 0 xs with
 | false=>
  refine .inl ⟨rfl,ef lU xs.length st (fun i hi=>?_) vz⟩;obtain⟨a,ag⟩:=dv hi;have:=AT h i a ag;rw[c']at this;exact tN i a ag this
 | true=>
  obtain⟨i,a,h1,U,au⟩:=Jh h;rw[c']at U;refine .inr ⟨rfl,ef tL i st (fun j aM=>?_) (zH i a h1 U)⟩;obtain⟨b,ah⟩:=dv (xs:=xs) (i:=j) (by have:=bh h1;omega);have:=au j b aM ah;rw[c']at this;exact tN j b ah this
