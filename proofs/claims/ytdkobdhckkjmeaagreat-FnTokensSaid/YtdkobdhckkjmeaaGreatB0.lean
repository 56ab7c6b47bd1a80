import Derived.Test.YtdkobdhckkjmeaaGreatRows
import Derived.Test.YtdkobdhckkjmeaaGreatR15
set_option linter.unusedVariables false
set_option linter.unusedSimpArgs false
namespace Go.Proofs.YtdkobdhckkjmeaaGreat
open Go.Sx Go.RowKit
theorem qao{P:Program}{c:Code}{e:Ex}{stE:St}(he:e.exit'≠.normal):∀(n:Nat) (st:Nat→St),(∀i,i<n→Tr P c (st i) .normal (st (i+1)))→Tr P c (st n) e stE→qam P c (st 0) e stE
 | 0,_,_,hx=>.last he hx
 | n+1,st,hs,hx=>.more (hs 0 (by omega)) (qao he n (fun i=>st (i+1)) (fun i hi=>hs (i+1) (by omega)) hx)
theorem qac{α β:Type}{xs:List α}{i:Nat}{a:α}(f:α→β)(h:xs[i]?=some a):(xs.map f)[((i:Nat):Int).toNat]?=some (f a):=by simp[h]
theorem lt1{α β:Type}{xs:List α}{f:α→β}{i:Nat}(h:i<xs.length):decide ((i:Int)<(↑(xs.map f).length:Int))=true:=by simp only[zb,zi];omega
theorem ge1{α β:Type}{xs:List α}{f:α→β}:decide ((↑xs.length:Int)<(↑(xs.map f).length:Int))=false:=by simp
theorem lt0{i:Nat}:0≤(i:Int):=by omega
theorem lt2{α β:Type}{xs:List α}{f:α→β}{i:Nat}(h:i<xs.length):(i:Int)<(↑(xs.map f).length:Int):=by simp only[zb];omega
theorem up1{α:Type}{xs:List α}{i:Nat}(h:i<xs.length)(hl:xs.length≤8388608):inInt IntKind.i64 ((i:Int)+1):=⟨by omega,by omega⟩
theorem qal{α:Type}{xs:List α}{i:Nat}(h:i<xs.length):∃a,xs[i]?=some a:=⟨xs[i],by simp[h]⟩
theorem lt_of{α:Type}{xs:List α}{i:Nat}{a:α}(h:xs[i]?=some a):i<xs.length:=(zk.1 h).1
theorem qag{α:Type}{xs:List α}{i:Nat}{a:α}(h:xs[i]?=some a):a∈xs:=zw h
theorem qjh{α:Type}{sz:α→Nat}:∀{xs:List α} {a:α},a∈xs→sz a≤(xs.map sz).sum
 | x::xs,a,h=>by
  rcases zL.1 h with rfl | h
  ·simp
  ·have:=qjh (sz:=sz) h;simp only[zav,zcw];omega
def eI(n:Int):List D:=[I n]
def eB(b:Bool):List D:=[B b]
theorem qlW{α:Type}(p:α→Bool):∀(xs:List α),(xs.find? p=none∧∀a∈xs,p a=false)∨∃(i:Nat) (a:α),xs[i]?=some a∧p a=true∧xs.find? p=some a∧∀j b,j<i→xs[j]?=some b→p b=false
 | []=>.inl ⟨rfl,by simp⟩
 | a::xs=>by
  by_cases ha:p a=true
  ·exact .inr ⟨0,a,rfl,ha,by simp[ha],fun j b hj=>by omega⟩
  ·have ha':p a=false:=by simpa using ha
   rcases qlW p xs with⟨h,h2⟩ | ⟨i,x,h1,h2,h4,h3⟩
   ·refine .inl ⟨by simp[ha',h],fun b hb=>?_⟩;rcases zL.1 hb with rfl | hb
    ·exact ha'
    ·exact h2 b hb
   ·refine .inr ⟨i+1,x,by simpa using h1,h2,by simp[ha',h4],fun j b hj hb=>?_⟩;cases j with
    | zero=>simp at hb;subst hb;exact ha'
    | succ j=>exact h3 j b (by omega) (by simpa using hb)
def qcT{α β:Type}(f:β→α→β)(b:β)(xs:List α)(i:Nat):β:=(xs.take i).foldl f b
theorem qji{α β:Type}{f:β→α→β}{b:β}{xs:List α}{i:Nat}{a:α}(h:xs[i]?=some a):qcT f b xs (i+1)=f (qcT f b xs i) a:=by
 simp[qcT,zbe,h,List.foldl_append]
theorem qjj{α β:Type}{f:β→α→β}{b:β}{xs:List α}:qcT f b xs xs.length=xs.foldl f b:=by simp[qcT]
theorem qpw{α β:Type}{f:β→α→β}{b:β}{xs:List α}:qcT f b xs 0=b:=rfl
def wrp(n:Int):Int:=IntKind.i64.wrap n
theorem qeY{α:Type}(p:α→Bool){xs:List α}{i:Nat}{a:α}(h:xs[i]?=some a):(xs.take (i+1)).filter p=(xs.take i).filter p++(if p a then [a] else []):=by
 simp only[zbe,h,zcp,List.filter_append,List.filter_cons,List.filter_nil]
theorem qae{α:Type}(f:α→List D)(h:∀a,∀d∈f a,∃x,d=.v x)(xs:List α):Flat (xs.map f):=by
 intro e he d hd;obtain⟨a,_,rfl⟩:=zbm.1 he;exact h a d hd
theorem qat{e:List D}(h:∀d∈e,∃x,d=.v x):Flat [e]:=by
 intro e' he;simp at he;subst he;exact h
theorem qaW{P:Program}{c:Code}{α:Type}(xs:List α)(p:α→Bool)(st:Nat→St){e1 e2:Ex}{X:Nat→α→St}{Y:St}(he1:e1.exit'≠.normal)(he2:e2.exit'≠.normal)
  (hgo:∀i a,xs[i]?=some a→p a=false→Tr P c (st i) .normal (st (i+1))) (hhit:∀i a,xs[i]?=some a→p a=true→Tr P c (st i) e1 (X i a)) (hend:Tr P c (st xs.length) e2 Y):
  (xs.find? p=none∧xs.findIdx? p=none∧xs.any p=false∧qam P c (st 0) e2 Y)∨∃i a,xs[i]?=some a∧p a=true∧xs.find? p=some a∧xs.findIdx? p=some i∧xs.any p=true∧qam P c (st 0) e1 (X i a):=by
 rcases qlW p xs with⟨h1,h2⟩ | ⟨i,a,h1,h2,h3,h4⟩
 ·refine .inl ⟨h1,?_,?_,qao he2 xs.length st (fun i hi=>?_) hend⟩
  ·rw[zbs];exact h2
  ·rw[zP];exact fun a ha=>by simp[h2 a ha]
  ·obtain⟨a,ha⟩:=qal hi;exact hgo i a ha (h2 a (qag ha))
 ·refine .inr ⟨i,a,h1,h2,h3,?_,zcj.2 ⟨a,qag h1,h2⟩,qao he1 i st (fun j hj=>?_) (hhit i a h1 h2)⟩
  ·have hi:=lt_of h1;have ha:xs[i]=a:=by rw[zu hi]at h1;exact zx h1
   rw[zai];refine⟨hi,by rw[ha];exact h2,fun j hj=>?_⟩;have:=h4 j xs[j] hj (by simp);simp[this]
  ·obtain⟨b,hb⟩:=qal (xs:=xs) (i:=j) (by have:=lt_of h1;omega);exact hgo j b hb (h4 j b hj hb)
def anyI{α:Type}(p:Nat→α→Bool):Nat→List α→Bool
 | _,[]=>false
 | k,a::r=>p k a||anyI p (k+1) r
theorem qgc{α:Type}{p:Nat→α→Bool}:∀{xs:List α} {k:Nat},anyI p k xs=false→∀i a,xs[i]?=some a→p (k+i) a=false
 | [],k,_,i,a,h=>by simp at h
 | x::xs,k,h,i,a,ha=>by
  simp only[anyI,zy]at h;cases i with
  | zero=>simp at ha;subst ha;exact h.1
  | succ i=>
   have:=qgc h.2 i a (by simpa using ha);rwa[show k+1+i=k+(i+1) by omega]at this
theorem qlX{α:Type}{p:Nat→α→Bool}:∀{xs:List α} {k:Nat},anyI p k xs=true→∃i a,xs[i]?=some a∧p (k+i) a=true∧∀j b,j<i→xs[j]?=some b→p (k+j) b=false
 | [],k,h=>by simp[anyI]at h
 | x::xs,k,h=>by
  by_cases hx:p k x=true
  ·exact⟨0,x,rfl,hx,fun j b hj=>by omega⟩
  ·simp only[anyI,zbi]at h;obtain⟨i,a,h1,h2,h3⟩:=qlX (h.resolve_left hx);refine⟨i+1,a,by simpa using h1,by rw[show k+(i+1)=k+1+i by omega];exact h2,fun j b hj hb=>?_⟩;cases j with
   | zero=>simp at hb;subst hb;simpa using hx
   | succ j=>rw[show k+(j+1)=k+1+j by omega];exact h3 j b (by omega) (by simpa using hb)
theorem qdn{P:Program}{c:Code}{α:Type}(xs:List α)(p:Nat→α→Bool)(st:Nat→St){e1 e2:Ex}{X Y:St}(he1:e1.exit'≠.normal)(he2:e2.exit'≠.normal)
  (hgo:∀i a,xs[i]?=some a→p i a=false→Tr P c (st i) .normal (st (i+1))) (hhit:∀i a,xs[i]?=some a→p i a=true→Tr P c (st i) e1 X) (hend:Tr P c (st xs.length) e2 Y):
  (anyI p 0 xs=false∧qam P c (st 0) e2 Y)∨(anyI p 0 xs=true∧qam P c (st 0) e1 X):=by
 cases h:anyI p 0 xs with
 | false=>
  refine .inl ⟨rfl,qao he2 xs.length st (fun i hi=>?_) hend⟩;obtain⟨a,ha⟩:=qal hi;have:=qgc h i a ha;rw[zv]at this;exact hgo i a ha this
 | true=>
  obtain⟨i,a,h1,h2,h3⟩:=qlX h;rw[zv]at h2;refine .inr ⟨rfl,qao he1 i st (fun j hj=>?_) (hhit i a h1 h2)⟩;obtain⟨b,hb⟩:=qal (xs:=xs) (i:=j) (by have:=lt_of h1;omega);have:=h3 j b hj hb;rw[zv]at this;exact hgo j b hb this
