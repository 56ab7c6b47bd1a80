/- Small functions that many others call, and lemmas for loops. -/
import Derived.Test.YtenekpkjlgddnaaT2
import Derived.Test.YtenekpkjlgddnaaGN
set_option linter.unusedVariables false
set_option linter.unusedSimpArgs false
namespace Go.Proofs.Ytenekpkjlgddnaa
open Go.Sx Go.RowKit Go.Proofs.Try
def inR(n lo hi:Int):Bool:=decide (lo≤n∧n≤hi)
theorem qaV(n lo hi:Int):Rt 63 [.one (I n),.one (I lo),.one (I hi)] [.one (B (inR n lo hi))]:=by
 by_cases h:lo≤n
 ·have e:inR n lo hi=decide (n≤hi):=by simp[inR,h]
  rw[e];exact qkj ⟨by simp only[zi];omega,trivial⟩
 ·rw[show inR n lo hi=false by simp[inR,h]];exact qkk ⟨by simp only[zf];omega,trivial⟩
theorem qh4(n lo hi:Int)(r:Bool)(h:inR n lo hi=r):Rt 63 [.one (I n),.one (I lo),.one (I hi)] [.one (B r)]:=h▸qaV n lo hi
theorem Record.flat(r:Record):∀d∈r.e,∃x,d=.v x:=by
 intro d hd
 simp only[Record.e,zL,zbu,or_false]at hd
 rcases hd with rfl | rfl | rfl | rfl | rfl<;>exact⟨_,rfl⟩
theorem Cell.flat(r:Cell):∀d∈r.e,∃x,d=.v x:=by
 intro d hd
 simp only[Cell.e,zL,zbu,or_false]at hd
 rcases hd with rfl | rfl | rfl | rfl<;>exact⟨_,rfl⟩
theorem Pick.flat(r:Pick):∀d∈r.e,∃x,d=.v x:=by
 intro d hd
 simp only[Pick.e,zL,zbu,or_false]at hd
 rcases hd with rfl | rfl | rfl<;>exact⟨_,rfl⟩
theorem Stamp.flat(r:Stamp):∀d∈r.e,∃x,d=.v x:=by
 intro d hd
 simp only[Stamp.e,zL,zbu,or_false]at hd
 rcases hd with rfl | rfl<;>exact⟨_,rfl⟩
theorem qfZ{α:Type}(p:α→Bool)(xs:List α)(i:Nat):((xs.take i).filter p).length≤i:=
 zce (zat ..) (by simp;omega)
theorem qkE(a r:Cell):(a.op==r.op&&(a.epoch==r.epoch&&(a.key==r.key&&a.val==r.val)))=decide (a=r):=by
 obtain⟨o,e,k,v⟩:=a
 obtain⟨o',e',k',v'⟩:=r
 rw[Bool.eq_iff_iff]
 simp only[zj,zE,zi,Cell.mk.injEq]
theorem qh5(a r:Cell):(r.op==a.op&&(r.epoch==a.epoch&&(r.key==a.key&&r.val==a.val)))=decide (a=r):=by
 rw[qkE r a]
 exact decide_eq_decide.2 ⟨Eq.symm,Eq.symm⟩
theorem tr_to{P:Program}{c:Code}{st:St}{e:Ex}{α:Type}(f:α→St){l l':α}(h:Tr P c st e (f l))(hl:l=l'):Tr P c st e (f l'):=hl▸h
theorem dT{p:Prop}[Decidable p](h:p):decide p=true:=zap h
theorem dF{p:Prop}[Decidable p](h:¬p):decide p=false:=zt h
end Go.Proofs.Ytenekpkjlgddnaa
namespace Go.Proofs.Ytenekpkjlgddnaa
open Go.Sx Go.RowKit Go.Proofs.Try
def ord3(a b:Int):Int:=if a<b then -1 else if b<a then 1 else 0
def lexN(l:List Int):Int:=(l.find? (· != 0)).getD 0
theorem qh9(a:Int):Rt 122 [.one (I a)] [.one (B false)]:=by
 have:=qkl a trivial
 simpa using this
theorem qia(a b:Int):Rt 118 [.one (I a),.one (I b)] [.one (I (ord3 a b))]:=by
 have x:=qh9 a
 have y:=qh9 b
 unfold ord3
 by_cases h:a<b
 ·rw[zp h];exact qkm ⟨x,y,rfl,rfl,dT h,trivial⟩
 ·rw[zo h]
  by_cases h2:b<a
  ·rw[zp h2];exact qkn ⟨x,y,rfl,rfl,dF h,dT h2,trivial⟩
  ·rw[zo h2];exact qko ⟨x,y,rfl,rfl,dF h,dF h2,trivial⟩
theorem qib{xs ys:List Int}{i:Nat}{d:Int}(h:(List.zipWith ord3 xs ys)[i]?=some d):∃a b,xs[i]?=some a∧ys[i]?=some b∧ord3 a b=d:=by
 rw[List.getElem?_zipWith]at h
 cases h1:xs[i]? with
 | none=>simp[h1]at h
 | some a=>
  cases h2:ys[i]? with
  | none=>simp[h1,h2]at h
  | some b=>exact⟨a,b,rfl,rfl,by simpa[h1,h2]using h⟩
theorem qlf(xs ys:List Int)(hl:xs.length=ys.length)(hm:xs.length≤8388608):Rt 107 [.one (.sl 1 (xs.map eI)),.one (.sl 1 (ys.map eI))] [.one (I (lexN (List.zipWith ord3 xs ys)))]:=by
 have hz:(List.zipWith ord3 xs ys).length=xs.length:=by simp[hl]
 have l:=qcU (P:=prog) (c:=(qab f107 0)) (List.zipWith ord3 xs ys) (fun d=>d != 0) (fun i=>qcq (xs.map eI) (ys.map eI) i) (X:=fun _ d=>qfX d) qcT (qaF 0)
  (fun i d hd h=>by
   obtain⟨a,b,ha,hb,rfl⟩:=qib hd
   exact qkq ⟨lt1 (lt_of ha),lt0,lt2 (lt_of ha),qaB eI ha,dF (by have:=lt_of hb;simp;omega),lt0,lt2 (lt_of hb),qaB eI hb,qia a b,h,up1 (lt_of ha) hm,trivial⟩)
  (fun i d hd h=>by
   obtain⟨a,b,ha,hb,rfl⟩:=qib hd
   exact qkp ⟨lt1 (lt_of ha),lt0,lt2 (lt_of ha),qaB eI ha,dF (by have:=lt_of hb;simp;omega),lt0,lt2 (lt_of hb),qaB eI hb,qia a b,h,trivial⟩)
  (by rw[hz];exact qkr ⟨ge1,trivial⟩)
 unfold lexN
 rcases l with⟨h1,_,_,h2⟩ | ⟨i,a,_,_,h1,_,_,h2⟩
 ·rw[h1];exact qkt ⟨h2,by simp[hl],trivial⟩
 ·rw[h1];exact qks ⟨h2,trivial⟩
theorem qlg(xs ys:List Int)(hl:xs.length=ys.length)(hm:xs.length≤8388608):Rt 85 [.one (.sl 1 (xs.map eI)),.one (.sl 1 (ys.map eI))] [.one (I (lexN (List.zipWith ord3 xs ys)))]:=
 qku ⟨qlf xs ys hl hm,trivial⟩
def qej(a b:Cell):Int:=lexN [ord3 a.epoch b.epoch,ord3 a.op b.op,ord3 a.key b.key,ord3 a.val b.val]
theorem qic(a b:Cell):Rt 90 [.agg a.e,.agg b.e] [.one (I (qej a b))]:=
 qkH ⟨qlg [a.epoch,a.op,a.key,a.val] [b.epoch,b.op,b.key,b.val] rfl (by simp),trivial⟩
end Go.Proofs.Ytenekpkjlgddnaa
namespace Go.Proofs.Ytenekpkjlgddnaa
open Go.Sx Go.RowKit Go.Proofs.Try
def idxI{α:Type}(p:α→Bool)(xs:List α):Int:=match xs.findIdx? p with | some i=>i | none=>-1
theorem qn2(xs:List Cell)(p:Cell→Bool)(g:Nat)(caps:List D)(hl:xs.length≤8388608)(hc:qaJ prog g=true)(hp:∀x∈xs,Rt g ([.agg x.e]++caps.map .one) [.one (B (p x))]):
  Rt 108 [.one (.sl 4 (xs.map Cell.e)),.one (.cl g caps)] [.one (I (idxI p xs))]:=by
 have hp':∀x∈xs,∀r,p x=r→Rt g ([.agg x.e]++caps.map .one) [.one (B r)]:=fun x hx r h=>h▸hp x hx
 have l:=qcU (P:=prog) (c:=(qab f108 0)) xs p (fun i=>qcs (xs.map Cell.e) g caps i) (X:=fun i _=>qfY i) qcT (qaF 0)
  (fun i a ha h=>qkA _ _ _ _ _ _ _ _ _ ⟨lt1 (lt_of ha),lt0,lt2 (lt_of ha),qaB Cell.e ha,hc,hp' a (qbD ha) false h,rfl,up1 (lt_of ha) hl,trivial⟩)
  (fun i a ha h=>qkz _ _ _ _ _ _ _ _ _ ⟨lt1 (lt_of ha),lt0,lt2 (lt_of ha),qaB Cell.e ha,hc,hp' a (qbD ha) true h,rfl,trivial⟩)
  (qkB _ _ _ _ ⟨ge1,trivial⟩)
 rcases l with⟨_,h1,_,h2⟩ | ⟨i,a,_,_,_,h1,_,h2⟩
 ·simp only[idxI,h1]
  exact qkD _ _ _ ⟨h2,trivial⟩
 ·simp only[idxI,h1]
  exact qkC _ _ _ _ ⟨h2,trivial⟩
end Go.Proofs.Ytenekpkjlgddnaa
