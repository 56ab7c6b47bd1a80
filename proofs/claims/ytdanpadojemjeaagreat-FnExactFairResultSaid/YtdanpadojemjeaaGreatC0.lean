/- Small functions that many others call, and lemmas for loops. -/
import Derived.Test.YtdanpadojemjeaaGreatT2
import Derived.Test.YtdanpadojemjeaaGreatGN
import Derived.Sort.Statements
import Derived.Shelf.SlSortCmp.Insertion
set_option linter.unusedVariables false
set_option linter.unusedSimpArgs false
namespace Go.Proofs.YtdanpadojemjeaaGreat
open Go.Sx Go.RowKit Go.Proofs.Tryz
def inR(n lo hi:Int):Bool:=decide (lo≤n∧n≤hi)
theorem qa9(n lo hi:Int):Rt 137 [.one (I n),.one (I lo),.one (I hi)] [.one (B (inR n lo hi))]:=by
 by_cases h:lo≤n
 ·have e:inR n lo hi=decide (n≤hi):=by simp[inR,h]
  rw[e];exact quS ⟨by simp only[zi];omega,trivial⟩
 ·rw[show inR n lo hi=false by simp[inR,h]];exact quT ⟨by simp only[zf];omega,trivial⟩
theorem qaG(n lo hi:Int)(r:Bool)(h:inR n lo hi=r):Rt 137 [.one (I n),.one (I lo),.one (I hi)] [.one (B r)]:=h▸qa9 n lo hi
theorem qbx(n lo hi:Int):Rt 81 [.one (I n),.one (I lo),.one (I hi)] [.one (B (inR n lo hi))]:=by
 by_cases h:lo≤n
 ·have e:inR n lo hi=decide (n≤hi):=by simp[inR,h]
  rw[e];exact quQ ⟨by simp only[zi];omega,trivial⟩
 ·rw[show inR n lo hi=false by simp[inR,h]];exact quR ⟨by simp only[zf];omega,trivial⟩
theorem qaT(n lo hi:Int)(r:Bool)(h:inR n lo hi=r):Rt 81 [.one (I n),.one (I lo),.one (I hi)] [.one (B r)]:=h▸qbx n lo hi
def qbR(n lo hi:Int):Int:=if hi<lo then lo else if n<lo then lo else if hi<n then hi else n
theorem qkz(n lo hi:Int):Rt 95 [.one (I n),.one (I lo),.one (I hi)] [.one (I (qbR n lo hi))]:=by
 unfold qbR
 by_cases h1:hi<lo
 ·rw[zp h1];exact qun ⟨by simpa using h1,trivial⟩
 rw[zo h1]
 by_cases h2:n<lo
 ·rw[zp h2];exact qup ⟨by simpa using h1,by simpa using h2,trivial⟩
 rw[zo h2]
 by_cases h3:hi<n
 ·rw[zp h3];exact quq ⟨by simpa using h1,by simpa using h2,by simpa using h3,trivial⟩
 ·rw[zo h3];exact qur ⟨by simpa using h1,by simpa using h2,by simpa using h3,trivial⟩
theorem qkA(n lo hi:Int):Rt 96 [.one (I n),.one (I lo),.one (I hi)] [.one (I (qbR n lo hi))]:=by
 unfold qbR
 by_cases h1:hi<lo
 ·rw[zp h1];exact qus ⟨by simpa using h1,trivial⟩
 rw[zo h1]
 by_cases h2:n<lo
 ·rw[zp h2];exact qut ⟨by simpa using h1,by simpa using h2,trivial⟩
 rw[zo h2]
 exact quu ⟨by simpa using h1,by simpa using h2,trivial⟩
theorem Record.flat(r:Record):∀d∈r.e,∃x,d=.v x:=by
 intro d hd
 simp only[Record.e,zL,zbu,or_false]at hd
 rcases hd with rfl | rfl | rfl | rfl | rfl<;>exact⟨_,rfl⟩
theorem Cell.flat(r:Cell):∀d∈r.e,∃x,d=.v x:=by
 intro d hd
 simp only[Cell.e,zL,zbu,or_false]at hd
 rcases hd with rfl | rfl | rfl | rfl<;>exact⟨_,rfl⟩
theorem Pick.flat(r:Pick):∀d∈r.e,∃x,d=.v x:=by
 intro d hd
 simp only[Pick.e,zL,zbu,or_false]at hd
 rcases hd with rfl | rfl | rfl<;>exact⟨_,rfl⟩
theorem Stamp.flat(r:Stamp):∀d∈r.e,∃x,d=.v x:=by
 intro d hd
 simp only[Stamp.e,zL,zbu,or_false]at hd
 rcases hd with rfl | rfl<;>exact⟨_,rfl⟩
theorem qdR{α:Type}(p:α→Bool)(xs:List α)(i:Nat):((xs.take i).filter p).length≤i:=
 zce (zat ..) (by simp;omega)
theorem qkB(a r:Cell):(a.op==r.op&&(a.epoch==r.epoch&&(a.key==r.key&&a.val==r.val)))=decide (a=r):=by
 obtain⟨o,e,k,v⟩:=a
 obtain⟨o',e',k',v'⟩:=r
 rw[Bool.eq_iff_iff]
 simp only[zj,zE,zi,Cell.mk.injEq]
theorem qon(a r:Cell):(r.op==a.op&&(r.epoch==a.epoch&&(r.key==a.key&&r.val==a.val)))=decide (a=r):=by
 rw[qkB r a]
 exact decide_eq_decide.2 ⟨Eq.symm,Eq.symm⟩
theorem tr_to{P:Program}{c:Code}{st:St}{e:Ex}{α:Type}(f:α→St){l l':α}(h:Tr P c st e (f l))(hl:l=l'):Tr P c st e (f l'):=hl▸h
theorem qvT{P:Program}{f:Nat}{args:List AD}{k:Nat}{l l':List (List D)}(h:Ret P f args [.one (.sl k l)])(hl:l=l'):Ret P f args [.one (.sl k l')]:=hl▸h
theorem qfK{α β:Type}(f:α→List β)(c:Nat)(h:∀a,(f a).length≤c):∀xs:List α,(xs.flatMap f).length≤xs.length*c
 | []=>by simp
 | a::xs=>by
  have h1:=h a
  have h2:=qfK f c h xs
  simp only[List.flatMap_cons,zab,zq,zR,Nat.one_mul]
  omega
theorem dT{p:Prop}[Decidable p](h:p):decide p=true:=zap h
theorem dF{p:Prop}[Decidable p](h:¬p):decide p=false:=zt h
end Go.Proofs.YtdanpadojemjeaaGreat
namespace Go.Proofs.YtdanpadojemjeaaGreat
open Go.Sx Go.RowKit Go.Proofs.Tryz
def ord3(a b:Int):Int:=if a<b then -1 else if b<a then 1 else 0
def lexN(l:List Int):Int:=(l.find? (· != 0)).getD 0
theorem qig(a b:Int):Rt 250 [.one (I a),.one (I b)] [.one (I (ord3 a b))]:=by
 unfold ord3
 by_cases h:a<b
 ·rw[zp h];exact quU ⟨dT h,trivial⟩
 ·rw[zo h]
  by_cases h2:b<a
  ·rw[zp h2];exact quV ⟨dF h,dT h2,trivial⟩
  ·rw[zo h2];exact quW ⟨dF h,dF h2,trivial⟩
theorem qoA(a:Int):Rt 264 [.one (I a)] [.one (B false)]:=by
 have:=quX a trivial
 simpa using this
theorem qoB(a b:Int):Rt 261 [.one (I a),.one (I b)] [.one (I (ord3 a b))]:=by
 have x:=qoA a
 have y:=qoA b
 unfold ord3
 by_cases h:a<b
 ·rw[zp h];exact quY ⟨x,y,rfl,rfl,dT h,trivial⟩
 ·rw[zo h]
  by_cases h2:b<a
  ·rw[zp h2];exact quZ ⟨x,y,rfl,rfl,dF h,dT h2,trivial⟩
  ·rw[zo h2];exact qu0 ⟨x,y,rfl,rfl,dF h,dF h2,trivial⟩
theorem qoC{xs ys:List Int}{i:Nat}{d:Int}(h:(List.zipWith ord3 xs ys)[i]?=some d):∃a b,xs[i]?=some a∧ys[i]?=some b∧ord3 a b=d:=by
 rw[List.getElem?_zipWith]at h
 cases h1:xs[i]? with
 | none=>simp[h1]at h
 | some a=>
  cases h2:ys[i]? with
  | none=>simp[h1,h2]at h
  | some b=>exact⟨a,b,rfl,rfl,by simpa[h1,h2]using h⟩
theorem qxC(xs ys:List Int)(hl:xs.length=ys.length)(hm:xs.length≤8388608):Rt 254 [.one (.sl 1 (xs.map eI)),.one (.sl 1 (ys.map eI))] [.one (I (lexN (List.zipWith ord3 xs ys)))]:=by
 have hz:(List.zipWith ord3 xs ys).length=xs.length:=by simp[hl]
 have l:=qaL (P:=prog) (c:=(qaa f254 0)) (List.zipWith ord3 xs ys) (fun d=>d != 0) (fun i=>qeJ (xs.map eI) (ys.map eI) i) (X:=fun _ d=>qkt d) qat (qaf 0)
  (fun i d hd h=>by
   obtain⟨a,b,ha,hb,rfl⟩:=qoC hd
   exact qu2 ⟨lt1 (lt_of ha),lt0,lt2 (lt_of ha),qac eI ha,dF (by have:=lt_of hb;simp;omega),lt0,lt2 (lt_of hb),qac eI hb,qoB a b,h,up1 (lt_of ha) hm,trivial⟩)
  (fun i d hd h=>by
   obtain⟨a,b,ha,hb,rfl⟩:=qoC hd
   exact qu1 ⟨lt1 (lt_of ha),lt0,lt2 (lt_of ha),qac eI ha,dF (by have:=lt_of hb;simp;omega),lt0,lt2 (lt_of hb),qac eI hb,qoB a b,h,trivial⟩)
  (by rw[hz];exact qu3 ⟨ge1,trivial⟩)
 unfold lexN
 rcases l with⟨h1,_,_,h2⟩ | ⟨i,a,_,_,h1,_,_,h2⟩
 ·rw[h1];exact qu5 ⟨h2,by simp[hl],trivial⟩
 ·rw[h1];exact qu4 ⟨h2,trivial⟩
theorem qxD(xs ys:List Int)(hl:xs.length=ys.length)(hm:xs.length≤8388608):Rt 246 [.one (.sl 1 (xs.map eI)),.one (.sl 1 (ys.map eI))] [.one (I (lexN (List.zipWith ord3 xs ys)))]:=
 qu6 ⟨qxC xs ys hl hm,trivial⟩
def qa3(a b:Cell):Int:=lexN [ord3 a.epoch b.epoch,ord3 a.op b.op,ord3 a.key b.key,ord3 a.val b.val]
theorem qih(a b:Cell):Rt 230 [.agg a.e,.agg b.e] [.one (I (qa3 a b))]:=
 qvW ⟨qxD [a.epoch,a.op,a.key,a.val] [b.epoch,b.op,b.key,b.val] rfl (by simp),trivial⟩
theorem qii(a b:Cell):Rt 243 [.agg a.e,.agg b.e] [.one (I (qa3 a b))]:=by
 have o1:=qig a.epoch b.epoch
 have o2:=qig a.op b.op
 have o3:=qig a.key b.key
 have o4:=qig a.val b.val
 unfold qa3
 generalize ord3 a.epoch b.epoch=x1 at*
 generalize ord3 a.op b.op=x2 at*
 generalize ord3 a.key b.key=x3 at*
 generalize ord3 a.val b.val=x4 at*
 have l:=qaL (P:=prog) (c:=(qaa f243 0)) [x1,x2,x3,x4] (fun d=>d != 0) (fun i=>qeW x1 x2 x3 x4 i) (X:=fun _ d=>qkF d) qat (qaf 0)
  (fun i d hd h=>qwJ ⟨dT (by have:=lt_of hd;simp at this;omega),lt0,by have:=lt_of hd;simp at this ⊢;omega,qac eI hd,h,⟨by omega,by have:=lt_of hd;simp at this;omega⟩,trivial⟩)
  (fun i d hd h=>qwI ⟨dT (by have:=lt_of hd;simp at this;omega),lt0,by have:=lt_of hd;simp at this ⊢;omega,qac eI hd,h,lt0,by have:=lt_of hd;simp at this ⊢;omega,qac eI hd,trivial⟩)
  (qwK ⟨rfl,trivial⟩)
 unfold lexN
 rcases l with⟨h1,_,_,h2⟩ | ⟨i,a,_,_,h1,_,_,h2⟩
 ·rw[h1];exact qwM ⟨o1,o2,o3,o4,h2,trivial⟩
 ·rw[h1];exact qwL ⟨o1,o2,o3,o4,h2,trivial⟩
end Go.Proofs.YtdanpadojemjeaaGreat
namespace Go.Proofs.YtdanpadojemjeaaGreat
open Go.Sx Go.RowKit Go.Sort Go.Proofs.Tryz
def cmpL(u v:List Int):Int:=lexN (List.zipWith ord3 u v)
theorem qxE(d:Int)(l:List Int):lexN (d::l)=if d=0 then lexN l else d:=by
 unfold lexN
 by_cases h:d=0
 ·simp[h]
 ·simp[h]
theorem qxF(a b:Int)(u v:List Int):cmpL (a::u) (b::v)=if a=b then cmpL u v else ord3 a b:=by
 unfold cmpL
 rw[List.zipWith_cons_cons,qxE]
 have:ord3 a b=0↔a=b:=by unfold ord3;split<;>(try split)<;>constructor<;>intro h<;>omega
 by_cases h:a=b
 ·rw[zp (this.2 h),zp h]
 ·rw[zo (fun e=>h (this.1 e)),zo h]
theorem qoD(a b:Int)(u v:List Int):cmpL (a::u) (b::v)<0↔a<b∨(a=b∧cmpL u v<0):=by
 rw[qxF]
 split
 ·constructor
  ·intro h;exact .inr ⟨‹_›,h⟩
  ·rintro (h | h)
   ·omega
   ·exact h.2
 ·unfold ord3
  split<;>(try split)<;>constructor<;>intro h<;>omega
theorem qoE:∀(u v w:List Int),u.length=v.length→v.length=w.length→cmpL u v<0→cmpL v w<0→cmpL u w<0
 | [],[],[],_,_,h,_=>h
 | a::u,b::v,c::w,h1,h2,h3,h4=>by
  rw[qoD] at*
  have:=qoE u v w (by simpa using h1) (by simpa using h2)
  omega
theorem qoF:∀(u v:List Int),u.length=v.length→¬cmpL u v<0→¬cmpL v u<0→u=v
 | [],[],_,_,_=>rfl
 | a::u,b::v,h1,h3,h4=>by
  rw[qoD]at h3 h4
  have hab:a=b:=by omega
  subst hab
  rw[qoF u v (by simpa using h1) (by omega) (by omega)]
section
variable {α : Type}
abbrev SortedL(lt:α→α→Bool)(S:List α):Prop:=S.Pairwise fun a b=>(!lt b a)=true
end
end Go.Proofs.YtdanpadojemjeaaGreat
namespace Go.Proofs.YtdanpadojemjeaaGreat
open Go.Sx Go.RowKit Go.Proofs.Tryz
def qbS(e:Int)(xs:List Record):List Record:=xs.filter fun r=>r.stamp.epoch==e
theorem qoG(xs:List Record)(e:Int)(hl:xs.length≤8388608):Rt 233 [.one (.sl 5 (xs.map Record.e)),.one (I e)] [.one (.sl 5 ((qbS e xs).map Record.e))]:=by
 let p:=fun r:Record=>r.stamp.epoch==e
 have l:=qan (P:=prog) (c:=(qaa f233 0)) (qaf 0) xs.length (fun i:Nat=>qeK (xs.map Record.e) e i (((xs.take i).filter p).map Record.e)) (fun i hi=>by
  obtain⟨a,ha⟩:=qai hi
  have hf:=qdR p xs i
  have hs:=qcV p ha
  by_cases hp:p a=true
  ·rw[zp hp]at hs
   rw[hs,zU]
   exact qu7 ⟨lt1 hi,lt0,lt2 hi,qac Record.e ha,hp,lt0,lt2 hi,qac Record.e ha,by simp;omega,by simp;omega,qap a.flat,up1 hi hl,trivial⟩
  ·rw[zo hp,zaa]at hs
   rw[hs]
   exact qu8 ⟨lt1 hi,lt0,lt2 hi,qac Record.e ha,zQ.2 hp,up1 hi hl,trivial⟩) (qu9 ⟨ge1,trivial⟩)
 rw[zC]at l
 exact qva ⟨l,trivial⟩
theorem qkI(xs:List Record)(e:Int)(hl:xs.length≤8388608):Rt 174 [.one (.sl 5 (xs.map Record.e)),.one (I e)] [.one (.sl 5 ((qbS e xs).map Record.e))]:=by
 let p:=fun r:Record=>r.stamp.epoch==e
 have l:=qan (P:=prog) (c:=(qaa f174 0)) (qaf 0) xs.length (fun i:Nat=>qeL (xs.map Record.e) e i (((xs.take i).filter p).map Record.e)) (fun i hi=>by
  obtain⟨a,ha⟩:=qai hi
  have hf:=qdR p xs i
  have hs:=qcV p ha
  by_cases hp:p a=true
  ·rw[zp hp]at hs
   rw[hs,zU]
   exact qvb ⟨lt1 hi,lt0,lt2 hi,qac Record.e ha,hp,by simp;omega,by simp;omega,qap a.flat,up1 hi hl,trivial⟩
  ·rw[zo hp,zaa]at hs
   rw[hs]
   exact qvc ⟨lt1 hi,lt0,lt2 hi,qac Record.e ha,zQ.2 hp,up1 hi hl,trivial⟩) (qvd ⟨ge1,trivial⟩)
 rw[zC]at l
 exact qve ⟨l,trivial⟩
end Go.Proofs.YtdanpadojemjeaaGreat
namespace Go.Proofs.YtdanpadojemjeaaGreat
open Go.Sx Go.RowKit Go.Proofs.Tryz
def idxI{α:Type}(p:α→Bool)(xs:List α):Int:=match xs.findIdx? p with | some i=>i | none=>-1
theorem qo5{α:Type}(p:α→Bool)(xs:List α):decide (idxI p xs≥0)=xs.any p:=by
 unfold idxI
 cases h:xs.findIdx? p with
 | none=>
  have:xs.any p=false:=by
   rw[zP]
   rw[zbs]at h
   exact fun a ha=>by simp[h a ha]
  rw[this];rfl
 | some i=>
  rw[zai]at h
  obtain⟨hi,h2,_⟩:=h
  have:xs.any p=true:=zcj.2 ⟨_,zax hi,h2⟩
  rw[this];simp
theorem qzo(xs:List Record)(p:Record→Bool)(g:Nat)(caps:List D)(hl:xs.length≤8388608)(hc:qaZ prog g=true)(hp:∀x∈xs,Rt g ([.agg x.e]++caps.map .one) [.one (B (p x))]):
  Rt 234 [.one (.sl 5 (xs.map Record.e)),.one (.cl g caps)] [.one (I (idxI p xs))]:=by
 have hp':∀x∈xs,∀r,p x=r→Rt g ([.agg x.e]++caps.map .one) [.one (B r)]:=fun x hx r h=>h▸hp x hx
 have l:=qaL (P:=prog) (c:=(qaa f234 0)) xs p (fun i=>qeP (xs.map Record.e) g caps i) (X:=fun i _=>qkv i) qat (qaf 0)
  (fun i a ha h=>qvy _ _ _ _ _ _ _ _ _ _ ⟨lt1 (lt_of ha),lt0,lt2 (lt_of ha),qac Record.e ha,hc,hp' a (qar ha) false h,rfl,up1 (lt_of ha) hl,trivial⟩)
  (fun i a ha h=>qvx _ _ _ _ _ _ _ _ _ _ ⟨lt1 (lt_of ha),lt0,lt2 (lt_of ha),qac Record.e ha,hc,hp' a (qar ha) true h,rfl,trivial⟩)
  (qvz _ _ _ _ ⟨ge1,trivial⟩)
 rcases l with⟨_,h1,_,h2⟩ | ⟨i,a,_,_,_,h1,_,h2⟩
 ·simp only[idxI,h1]
  exact qvB _ _ _ ⟨h2,trivial⟩
 ·simp only[idxI,h1]
  exact qvA _ _ _ _ ⟨h2,trivial⟩
theorem qzp(xs:List Record)(p:Record→Bool)(g:Nat)(caps:List D)(hl:xs.length≤8388608)(hc:qaZ prog g=true)(hp:∀x∈xs,Rt g ([.agg x.e]++caps.map .one) [.one (B (p x))]):
  Rt 207 [.one (.sl 5 (xs.map Record.e)),.one (.cl g caps)] [.one (B (xs.any p))]:=by
 rw[←qo5]
 exact qvR _ _ _ _ ⟨qzo xs p g caps hl hc hp,trivial⟩
theorem qzq(xs:List Done)(p:Done→Bool)(g:Nat)(caps:List D)(hl:xs.length≤8388608)(hc:qaZ prog g=true)(hp:∀x∈xs,Rt g ([.agg x.e]++caps.map .one) [.one (B (p x))]):
  Rt 231 [.one (.sl 2 (xs.map Done.e)),.one (.cl g caps)] [.one (I (idxI p xs))]:=by
 have hp':∀x∈xs,∀r,p x=r→Rt g ([.agg x.e]++caps.map .one) [.one (B r)]:=fun x hx r h=>h▸hp x hx
 have l:=qaL (P:=prog) (c:=(qaa f231 0)) xs p (fun i=>qeQ (xs.map Done.e) g caps i) (X:=fun i _=>qkw i) qat (qaf 0)
  (fun i a ha h=>qvD _ _ _ _ _ _ _ ⟨lt1 (lt_of ha),lt0,lt2 (lt_of ha),qac Done.e ha,hc,hp' a (qar ha) false h,rfl,up1 (lt_of ha) hl,trivial⟩)
  (fun i a ha h=>qvC _ _ _ _ _ _ _ ⟨lt1 (lt_of ha),lt0,lt2 (lt_of ha),qac Done.e ha,hc,hp' a (qar ha) true h,rfl,trivial⟩)
  (qvE _ _ _ _ ⟨ge1,trivial⟩)
 rcases l with⟨_,h1,_,h2⟩ | ⟨i,a,_,_,_,h1,_,h2⟩
 ·simp only[idxI,h1]
  exact qvG _ _ _ ⟨h2,trivial⟩
 ·simp only[idxI,h1]
  exact qvF _ _ _ _ ⟨h2,trivial⟩
theorem qzr(xs:List Done)(p:Done→Bool)(g:Nat)(caps:List D)(hl:xs.length≤8388608)(hc:qaZ prog g=true)(hp:∀x∈xs,Rt g ([.agg x.e]++caps.map .one) [.one (B (p x))]):
  Rt 201 [.one (.sl 2 (xs.map Done.e)),.one (.cl g caps)] [.one (B (xs.any p))]:=by
 rw[←qo5]
 exact qvS _ _ _ _ ⟨qzq xs p g caps hl hc hp,trivial⟩
theorem qzs(xs:List News)(p:News→Bool)(g:Nat)(caps:List D)(hl:xs.length≤8388608)(hc:qaZ prog g=true)(hp:∀x∈xs,Rt g ([.agg x.e]++caps.map .one) [.one (B (p x))]):
  Rt 62 [.one (.sl 3 (xs.map News.e)),.one (.cl g caps)] [.one (I (idxI p xs))]:=by
 have hp':∀x∈xs,∀r,p x=r→Rt g ([.agg x.e]++caps.map .one) [.one (B r)]:=fun x hx r h=>h▸hp x hx
 have l:=qaL (P:=prog) (c:=(qaa f62 0)) xs p (fun i=>qeR (xs.map News.e) g caps i) (X:=fun i _=>qkx i) qat (qaf 0)
  (fun i a ha h=>qvI _ _ _ _ _ _ _ _ ⟨lt1 (lt_of ha),lt0,lt2 (lt_of ha),qac News.e ha,hc,hp' a (qar ha) false h,rfl,up1 (lt_of ha) hl,trivial⟩)
  (fun i a ha h=>qvH _ _ _ _ _ _ _ _ ⟨lt1 (lt_of ha),lt0,lt2 (lt_of ha),qac News.e ha,hc,hp' a (qar ha) true h,rfl,trivial⟩)
  (qvJ _ _ _ _ ⟨ge1,trivial⟩)
 rcases l with⟨_,h1,_,h2⟩ | ⟨i,a,_,_,_,h1,_,h2⟩
 ·simp only[idxI,h1]
  exact qvL _ _ _ ⟨h2,trivial⟩
 ·simp only[idxI,h1]
  exact qvK _ _ _ _ ⟨h2,trivial⟩
theorem qzt(xs:List Cell)(p:Cell→Bool)(g:Nat)(caps:List D)(hl:xs.length≤8388608)(hc:qaZ prog g=true)(hp:∀x∈xs,Rt g ([.agg x.e]++caps.map .one) [.one (B (p x))]):
  Rt 262 [.one (.sl 4 (xs.map Cell.e)),.one (.cl g caps)] [.one (I (idxI p xs))]:=by
 have hp':∀x∈xs,∀r,p x=r→Rt g ([.agg x.e]++caps.map .one) [.one (B r)]:=fun x hx r h=>h▸hp x hx
 have l:=qaL (P:=prog) (c:=(qaa f262 0)) xs p (fun i=>qeS (xs.map Cell.e) g caps i) (X:=fun i _=>qky i) qat (qaf 0)
  (fun i a ha h=>qvN _ _ _ _ _ _ _ _ _ ⟨lt1 (lt_of ha),lt0,lt2 (lt_of ha),qac Cell.e ha,hc,hp' a (qar ha) false h,rfl,up1 (lt_of ha) hl,trivial⟩)
  (fun i a ha h=>qvM _ _ _ _ _ _ _ _ _ ⟨lt1 (lt_of ha),lt0,lt2 (lt_of ha),qac Cell.e ha,hc,hp' a (qar ha) true h,rfl,trivial⟩)
  (qvO _ _ _ _ ⟨ge1,trivial⟩)
 rcases l with⟨_,h1,_,h2⟩ | ⟨i,a,_,_,_,h1,_,h2⟩
 ·simp only[idxI,h1]
  exact qvQ _ _ _ ⟨h2,trivial⟩
 ·simp only[idxI,h1]
  exact qvP _ _ _ _ ⟨h2,trivial⟩
end Go.Proofs.YtdanpadojemjeaaGreat
