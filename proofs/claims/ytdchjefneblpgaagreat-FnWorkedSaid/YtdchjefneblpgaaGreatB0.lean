import Derived.Test.YtdchjefneblpgaaGreatRows
import Derived.Test.YtdchjefneblpgaaGreatR15
set_option linter.unusedVariables false
set_option linter.unusedSimpArgs false
namespace Go.Proofs.YtdchjefneblpgaaGreat
open Go.Sx Go.RowKit
theorem eN{P:Program}{c:Code}{e:gQ}{TI:aD}(he:e.pW≠.normal):∀(n:Nat) (st:Nat->aD),(∀i,i<n->gf P c (st i) .normal (st (i+1)))->gf P c (st n) e TI->cV P c (st 0) e TI
 | 0,_,_,ak=>.last he ak
 | n+1,st,ai,ak=>.more (ai 0 (by omega)) (eN he n (fun i=>st (i+1)) (fun i hi=>ai (i+1) (by omega)) ak)
variable{i:Nat}
theorem bA{α β:Type}{xs:List α}{a:α}(f:α->β)(h:xs[i]?=some a):(xs.map f)[((i:Nat):Int).toNat]?=some (f a):=by simp[h]
theorem b6{α β:Type}{xs:List α}{f:α->β}(h:i<xs.length):decide ((i:Int)<(↑(xs.map f).length:Int))=true:=by simp only[cm,cW];omega
theorem dz{α β:Type}{xs:List α}{f:α->β}:decide ((↑xs.length:Int)<(↑(xs.map f).length:Int))=false:=by simp
theorem bw:0<=(i:Int):=by omega
theorem bE{α β:Type}{xs:List α}{f:α->β}(h:i<xs.length):(i:Int)<(↑(xs.map f).length:Int):=by simp only[cm];omega
theorem dc{α:Type}{xs:List α}(h:i<xs.length)(ap:xs.length<=8388608):aI IntKind.i64 ((i:Int)+1):=⟨by omega,by omega⟩
theorem cS{α:Type}{xs:List α}{i:Nat}(h:i<xs.length):∃a,xs[i]?=some a:=⟨xs[i],by simp[h]⟩
theorem a1{α:Type}{xs:List α}{a:α}(h:xs[i]?=some a):i<xs.length:=(fy.1 h).1
theorem eA{α:Type}{xs:List α}{i:Nat}{a:α}(h:xs[i]?=some a):a∈xs:=fl h
theorem CF{α:Type}{sz:α->Nat}:∀{xs:List α} {a:α},a∈xs->sz a<=(xs.map sz).sum
 | x::xs,a,h=>by
  rcases ep.1 h with rfl | h
  ·simp
  have:=CF (sz:=sz) h;simp only[mn,EQ];omega
def a6(n:Int):List D:=[I n]
def cq(b:Bool):List D:=[B b]
theorem Qe{α:Type}(p:α->Bool):∀(xs:List α),(xs.find? p=none/\∀a∈xs,p a=false)\/∃(i:Nat) (a:α),xs[i]?=some a/\p a=true/\xs.find? p=some a/\∀j b,j<i->xs[j]?=some b->p b=false
 | []=>.inl ⟨rfl,by simp⟩
 | a::xs=>by
  by_cases ah:p a=true
  ·exact .inr ⟨0,a,rfl,ah,by simp[ah],fun j b bg=>by omega⟩
  have BB:p a=false:=by simpa using ah
  rcases Qe p xs with⟨h,U⟩ | ⟨i,x,h1,U,aJ,ax⟩
  ·refine .inl ⟨by simp[BB,h],fun b aw=>?_⟩;rcases ep.1 aw with rfl | aw
   ·exact BB
   exact U b aw
  refine .inr ⟨i+1,x,by simpa using h1,U,by simp[BB,aJ],fun j b bg aw=>?_⟩;cases j with
  | zero=>simp at aw;subst aw;exact BB
  | succ j=>exact ax j b (by omega) (by simpa using aw)
def rO{α β:Type}(f:β->α->β)(b:β)(xs:List α)(i:Nat):β:=(xs.take i).foldl f b
theorem Qf{α β:Type}{f:β->α->β}{b:β}{xs:List α}{a:α}(h:xs[i]?=some a):rO f b xs (i+1)=f (rO f b xs i) a:=by
 simp[rO,vy,h,List.foldl_append]
theorem Qg{α β:Type}{f:β->α->β}{b:β}{xs:List α}:rO f b xs xs.length=xs.foldl f b:=by simp[rO]
theorem yX{α:Type}(p:α->Bool){xs:List α}{a:α}(h:xs[i]?=some a):(xs.take (i+1)).filter p=(xs.take i).filter p++(if p a then [a] else []):=by
 simp only[vy,h,EN,List.filter_append,List.filter_cons,List.filter_nil]
theorem dA{α:Type}(f:α->List D)(h:∀a,∀d∈f a,∃x,d=.v x)(xs:List α):Flat (xs.map f):=by
 intro e he d aG;obtain⟨a,_,rfl⟩:=lJ.1 he;exact h a d aG
theorem fV{e:List D}(h:∀d∈e,∃x,d=.v x):Flat [e]:=by
 intro e' he;simp at he;subst he;exact h
theorem gy{P:Program}{c:Code}{α:Type}(xs:List α)(p:α->Bool)(st:Nat->aD){e1 e2:gQ}{X:Nat->α->aD}{Y:aD}(BH:e1.pW≠.normal)(p1:e2.pW≠.normal)
  (yg:∀i a,xs[i]?=some a->p a=false->gf P c (st i) .normal (st (i+1))) (FT:∀i a,xs[i]?=some a->p a=true->gf P c (st i) e1 (X i a)) (yf:gf P c (st xs.length) e2 Y):
  (xs.find? p=none/\xs.findIdx? p=none/\xs.any p=false/\cV P c (st 0) e2 Y)\/∃i a,xs[i]?=some a/\p a=true/\xs.find? p=some a/\xs.findIdx? p=some i/\xs.any p=true/\cV P c (st 0) e1 (X i a):=by
 rcases Qe p xs with⟨h1,U⟩ | ⟨i,a,h1,U,ax,aJ⟩
 ·refine .inl ⟨h1,?_,?_,eN p1 xs.length st (fun i hi=>?_) yf⟩
  ·rw[EJ];exact U
  ·rw[hd];exact fun a ah=>by simp[U a ah]
  obtain⟨a,ah⟩:=cS hi;exact yg i a ah (U a (eA ah))
 refine .inr ⟨i,a,h1,U,ax,?_,qP.2 ⟨a,eA h1,U⟩,eN BH i st (fun j bg=>?_) (FT i a h1 U)⟩
 ·have hi:=a1 h1;have ah:xs[i]=a:=by rw[iZ hi]at h1;exact gP h1
  rw[tE];refine⟨hi,by rw[ah];exact U,fun j bg=>?_⟩;have:=aJ j xs[j] bg (by simp);simp[this]
 obtain⟨b,aw⟩:=cS (xs:=xs) (i:=j) (by have:=a1 h1;omega);exact yg j b aw (aJ j b bg aw)
def anyI{α:Type}(p:Nat->α->Bool):Nat->List α->Bool
 | _,[]=>false
 | k,a::r=>p k a||anyI p (k+1) r
theorem CG{α:Type}{p:Nat->α->Bool}:∀{xs:List α} {k:Nat},anyI p k xs=false->∀i a,xs[i]?=some a->p (k+i) a=false
 | [],k,_,i,a,h=>by simp at h
 | x::xs,k,h,i,a,ah=>by
  simp only[anyI,gn]at h;cases i with
  | zero=>simp at ah;subst ah;exact h.1
  | succ i=>
   have:=CG h.2 i a (by simpa using ah);rwa[show k+1+i=k+(i+1) by omega]at this
theorem IE{α:Type}{p:Nat->α->Bool}:∀{xs:List α} {k:Nat},anyI p k xs=true->∃i a,xs[i]?=some a/\p (k+i) a=true/\∀j b,j<i->xs[j]?=some b->p (k+j) b=false
 | [],k,h=>by simp[anyI]at h
 | x::xs,k,h=>by
  by_cases ak:p k x=true
  ·exact⟨0,x,rfl,ak,fun j b bg=>by omega⟩
  simp only[anyI,pS]at h;obtain⟨i,a,h1,U,ax⟩:=IE (h.resolve_left ak);refine⟨i+1,a,by simpa using h1,by rw[show k+(i+1)=k+1+i by omega];exact U,fun j b bg aw=>?_⟩;cases j with
  | zero=>simp at aw;subst aw;simpa using ak
  | succ j=>rw[show k+(j+1)=k+1+j by omega];exact ax j b (by omega) (by simpa using aw)
theorem s9{P:Program}{c:Code}{α:Type}(xs:List α)(p:Nat->α->Bool)(st:Nat->aD){e1 e2:gQ}{X Y:aD}(BH:e1.pW≠.normal)(p1:e2.pW≠.normal)
  (yg:∀i a,xs[i]?=some a->p i a=false->gf P c (st i) .normal (st (i+1))) (FT:∀i a,xs[i]?=some a->p i a=true->gf P c (st i) e1 X) (yf:gf P c (st xs.length) e2 Y):
  (anyI p 0 xs=false/\cV P c (st 0) e2 Y)\/(anyI p 0 xs=true/\cV P c (st 0) e1 X):=by
 cases h:anyI p 0 xs with
 | false=>
  refine .inl ⟨rfl,eN p1 xs.length st (fun i hi=>?_) yf⟩;obtain⟨a,ah⟩:=cS hi;have:=CG h i a ah;rw[dF]at this;exact yg i a ah this
 | true=>
  obtain⟨i,a,h1,U,ax⟩:=IE h;rw[dF]at U;refine .inr ⟨rfl,eN BH i st (fun j bg=>?_) (FT i a h1 U)⟩;obtain⟨b,aw⟩:=cS (xs:=xs) (i:=j) (by have:=a1 h1;omega);have:=ax j b bg aw;rw[dF]at this;exact yg j b aw this
