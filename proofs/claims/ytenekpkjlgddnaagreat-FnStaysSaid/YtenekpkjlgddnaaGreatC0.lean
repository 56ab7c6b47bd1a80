/- Small functions that many others call, and lemmas for loops. -/
import Derived.Test.YtenekpkjlgddnaaGreatT2
import Derived.Test.YtenekpkjlgddnaaGreatGN
import Derived.Sort.Statements
import Derived.Shelf.SlSortCmp.Insertion
set_option linter.unusedVariables false
set_option linter.unusedSimpArgs false
namespace Go.Proofs.YtenekpkjlgddnaaGreat
open Go.Sx Go.RowKit Go.Proofs.Tryz
def inR(n lo hi:Int):Bool:=decide (lo≤n∧n≤hi)
theorem qbc(n lo hi:Int):Rt 30 [.one (I n),.one (I lo),.one (I hi)] [.one (B (inR n lo hi))]:=by
 by_cases h:lo≤n
 ·have e:inR n lo hi=decide (n≤hi):=by simp[inR,h]
  rw[e];exact qol ⟨by simp only[zi];omega,trivial⟩
 ·rw[show inR n lo hi=false by simp[inR,h]];exact qom ⟨by simp only[zf];omega,trivial⟩
theorem qa4(n lo hi:Int):Rt 48 [.one (I n),.one (I lo),.one (I hi)] [.one (B (inR n lo hi))]:=by
 by_cases h:lo≤n
 ·have e:inR n lo hi=decide (n≤hi):=by simp[inR,h]
  rw[e];exact qoj ⟨by simp only[zi];omega,trivial⟩
 ·rw[show inR n lo hi=false by simp[inR,h]];exact qok ⟨by simp only[zf];omega,trivial⟩
theorem qay(n lo hi:Int)(r:Bool)(h:inR n lo hi=r):Rt 48 [.one (I n),.one (I lo),.one (I hi)] [.one (B r)]:=h▸qa4 n lo hi
def qcC(n lo hi:Int):Int:=if hi<lo then lo else if n<lo then lo else if hi<n then hi else n
theorem qkx(n lo hi:Int):Rt 28 [.one (I n),.one (I lo),.one (I hi)] [.one (I (qcC n lo hi))]:=by
 unfold qcC
 by_cases h1:hi<lo
 ·rw[zp h1];exact qof ⟨by simpa using h1,trivial⟩
 rw[zo h1]
 by_cases h2:n<lo
 ·rw[zp h2];exact qog ⟨by simpa using h1,by simpa using h2,trivial⟩
 rw[zo h2]
 by_cases h3:hi<n
 ·rw[zp h3];exact qoh ⟨by simpa using h1,by simpa using h2,by simpa using h3,trivial⟩
 ·rw[zo h3];exact qoi ⟨by simpa using h1,by simpa using h2,by simpa using h3,trivial⟩
theorem Record.flat(r:Record):∀d∈r.e,∃x,d=.v x:=by
 intro d hd
 simp only[Record.e,zL,zbu,or_false]at hd
 rcases hd with rfl | rfl | rfl | rfl | rfl<;>exact⟨_,rfl⟩
theorem Cell.flat(r:Cell):∀d∈r.e,∃x,d=.v x:=by
 intro d hd
 simp only[Cell.e,zL,zbu,or_false]at hd
 rcases hd with rfl | rfl | rfl | rfl<;>exact⟨_,rfl⟩
theorem Pick.flat(r:Pick):∀d∈r.e,∃x,d=.v x:=by
 intro d hd
 simp only[Pick.e,zL,zbu,or_false]at hd
 rcases hd with rfl | rfl | rfl<;>exact⟨_,rfl⟩
theorem Stamp.flat(r:Stamp):∀d∈r.e,∃x,d=.v x:=by
 intro d hd
 simp only[Stamp.e,zL,zbu,or_false]at hd
 rcases hd with rfl | rfl<;>exact⟨_,rfl⟩
theorem qky{α:Type}(p:α→Bool)(xs:List α)(i:Nat):((xs.take i).filter p).length≤i:=
 zce (zat ..) (by simp;omega)
theorem qo0(a r:Cell):(a.op==r.op&&(a.epoch==r.epoch&&(a.key==r.key&&a.val==r.val)))=decide (a=r):=by
 obtain⟨o,e,k,v⟩:=a
 obtain⟨o',e',k',v'⟩:=r
 rw[Bool.eq_iff_iff]
 simp only[zj,zE,zi,Cell.mk.injEq]
theorem qkz(a r:Cell):(r.op==a.op&&(r.epoch==a.epoch&&(r.key==a.key&&r.val==a.val)))=decide (a=r):=by
 rw[qo0 r a]
 exact decide_eq_decide.2 ⟨Eq.symm,Eq.symm⟩
theorem tr_to{P:Program}{c:Code}{st:St}{e:Ex}{α:Type}(f:α→St){l l':α}(h:Tr P c st e (f l))(hl:l=l'):Tr P c st e (f l'):=hl▸h
theorem qkA{α β:Type}(f:α→List β)(c:Nat)(h:∀a,(f a).length≤c):∀xs:List α,(xs.flatMap f).length≤xs.length*c
 | []=>by simp
 | a::xs=>by
  have h1:=h a
  have h2:=qkA f c h xs
  simp only[List.flatMap_cons,zab,zq,zR,Nat.one_mul]
  omega
theorem dT{p:Prop}[Decidable p](h:p):decide p=true:=zap h
theorem dF{p:Prop}[Decidable p](h:¬p):decide p=false:=zt h
end Go.Proofs.YtenekpkjlgddnaaGreat
namespace Go.Proofs.YtenekpkjlgddnaaGreat
open Go.Sx Go.RowKit Go.Proofs.Tryz
def ord3(a b:Int):Int:=if a<b then -1 else if b<a then 1 else 0
def lexN(l:List Int):Int:=(l.find? (· != 0)).getD 0
theorem qkF(a:Int):Rt 106 [.one (I a)] [.one (B false)]:=by
 have:=qon a trivial
 simpa using this
theorem qkG(a b:Int):Rt 104 [.one (I a),.one (I b)] [.one (I (ord3 a b))]:=by
 have x:=qkF a
 have y:=qkF b
 unfold ord3
 by_cases h:a<b
 ·rw[zp h];exact qoo ⟨x,y,rfl,rfl,dT h,trivial⟩
 ·rw[zo h]
  by_cases h2:b<a
  ·rw[zp h2];exact qop ⟨x,y,rfl,rfl,dF h,dT h2,trivial⟩
  ·rw[zo h2];exact qoq ⟨x,y,rfl,rfl,dF h,dF h2,trivial⟩
theorem qkH{xs ys:List Int}{i:Nat}{d:Int}(h:(List.zipWith ord3 xs ys)[i]?=some d):∃a b,xs[i]?=some a∧ys[i]?=some b∧ord3 a b=d:=by
 rw[List.getElem?_zipWith]at h
 cases h1:xs[i]? with
 | none=>simp[h1]at h
 | some a=>
  cases h2:ys[i]? with
  | none=>simp[h1,h2]at h
  | some b=>exact⟨a,b,rfl,rfl,by simpa[h1,h2]using h⟩
theorem qpC(xs ys:List Int)(hl:xs.length=ys.length)(hm:xs.length≤8388608):Rt 99 [.one (.sl 1 (xs.map eI)),.one (.sl 1 (ys.map eI))] [.one (I (lexN (List.zipWith ord3 xs ys)))]:=by
 have hz:(List.zipWith ord3 xs ys).length=xs.length:=by simp[hl]
 have l:=qa7 (P:=prog) (c:=(qab f99 0)) (List.zipWith ord3 xs ys) (fun d=>d != 0) (fun i=>qdw (xs.map eI) (ys.map eI) i) (X:=fun _ d=>qhN d) qaE (qaj 0)
  (fun i d hd h=>by
   obtain⟨a,b,ha,hb,rfl⟩:=qkH hd
   exact qos ⟨lt1 (lt_of ha),lt0,lt2 (lt_of ha),qad eI ha,dF (by have:=lt_of hb;simp;omega),lt0,lt2 (lt_of hb),qad eI hb,qkG a b,h,up1 (lt_of ha) hm,trivial⟩)
  (fun i d hd h=>by
   obtain⟨a,b,ha,hb,rfl⟩:=qkH hd
   exact qor ⟨lt1 (lt_of ha),lt0,lt2 (lt_of ha),qad eI ha,dF (by have:=lt_of hb;simp;omega),lt0,lt2 (lt_of hb),qad eI hb,qkG a b,h,trivial⟩)
  (by rw[hz];exact qot ⟨ge1,trivial⟩)
 unfold lexN
 rcases l with⟨h1,_,_,h2⟩ | ⟨i,a,_,_,h1,_,_,h2⟩
 ·rw[h1];exact qov ⟨h2,by simp[hl],trivial⟩
 ·rw[h1];exact qou ⟨h2,trivial⟩
theorem qpD(xs ys:List Int)(hl:xs.length=ys.length)(hm:xs.length≤8388608):Rt 92 [.one (.sl 1 (xs.map eI)),.one (.sl 1 (ys.map eI))] [.one (I (lexN (List.zipWith ord3 xs ys)))]:=
 qow ⟨qpC xs ys hl hm,trivial⟩
def qeQ(a b:Cell):Int:=lexN [ord3 a.epoch b.epoch,ord3 a.op b.op,ord3 a.key b.key,ord3 a.val b.val]
theorem qfX(a b:Cell):Rt 86 [.agg a.e,.agg b.e] [.one (I (qeQ a b))]:=
 qo4 ⟨qpD [a.epoch,a.op,a.key,a.val] [b.epoch,b.op,b.key,b.val] rfl (by simp),trivial⟩
end Go.Proofs.YtenekpkjlgddnaaGreat
namespace Go.Proofs.YtenekpkjlgddnaaGreat
open Go.Sx Go.RowKit Go.Sort Go.Proofs.Tryz
section
variable {α : Type}
abbrev SortedL(lt:α→α→Bool)(S:List α):Prop:=S.Pairwise fun a b=>(!lt b a)=true
end
end Go.Proofs.YtenekpkjlgddnaaGreat
namespace Go.Proofs.YtenekpkjlgddnaaGreat
open Go.Sx Go.RowKit Go.Proofs.Tryz
def idxI{α:Type}(p:α→Bool)(xs:List α):Int:=match xs.findIdx? p with | some i=>i | none=>-1
theorem qk8{α:Type}(p:α→Bool)(xs:List α):decide (idxI p xs≥0)=xs.any p:=by
 unfold idxI
 cases h:xs.findIdx? p with
 | none=>
  have:xs.any p=false:=by
   rw[zP]
   rw[zbs]at h
   exact fun a ha=>by simp[h a ha]
  rw[this];rfl
 | some i=>
  rw[zai]at h
  obtain⟨hi,h2,_⟩:=h
  have:xs.any p=true:=zcj.2 ⟨_,zax hi,h2⟩
  rw[this];simp
theorem qtA(xs:List Record)(p:Record→Bool)(g:Nat)(caps:List D)(hl:xs.length≤8388608)(hc:qaA prog g=true)(hp:∀x∈xs,Rt g ([.agg x.e]++caps.map .one) [.one (B (p x))]):
  Rt 91 [.one (.sl 5 (xs.map Record.e)),.one (.cl g caps)] [.one (I (idxI p xs))]:=by
 have hp':∀x∈xs,∀r,p x=r→Rt g ([.agg x.e]++caps.map .one) [.one (B r)]:=fun x hx r h=>h▸hp x hx
 have l:=qa7 (P:=prog) (c:=(qab f91 0)) xs p (fun i=>qdy (xs.map Record.e) g caps i) (X:=fun i _=>qhO i) qaE (qaj 0)
  (fun i a ha h=>qoF _ _ _ _ _ _ _ _ _ _ ⟨lt1 (lt_of ha),lt0,lt2 (lt_of ha),qad Record.e ha,hc,hp' a (qaq ha) false h,rfl,up1 (lt_of ha) hl,trivial⟩)
  (fun i a ha h=>qoE _ _ _ _ _ _ _ _ _ _ ⟨lt1 (lt_of ha),lt0,lt2 (lt_of ha),qad Record.e ha,hc,hp' a (qaq ha) true h,rfl,trivial⟩)
  (qoG _ _ _ _ ⟨ge1,trivial⟩)
 rcases l with⟨_,h1,_,h2⟩ | ⟨i,a,_,_,_,h1,_,h2⟩
 ·simp only[idxI,h1]
  exact qoI _ _ _ ⟨h2,trivial⟩
 ·simp only[idxI,h1]
  exact qoH _ _ _ _ ⟨h2,trivial⟩
theorem qtB(xs:List Record)(p:Record→Bool)(g:Nat)(caps:List D)(hl:xs.length≤8388608)(hc:qaA prog g=true)(hp:∀x∈xs,Rt g ([.agg x.e]++caps.map .one) [.one (B (p x))]):
  Rt 83 [.one (.sl 5 (xs.map Record.e)),.one (.cl g caps)] [.one (B (xs.any p))]:=by
 rw[←qk8]
 exact qoY _ _ _ _ ⟨qtA xs p g caps hl hc hp,trivial⟩
theorem qtC(xs:List Done)(p:Done→Bool)(g:Nat)(caps:List D)(hl:xs.length≤8388608)(hc:qaA prog g=true)(hp:∀x∈xs,Rt g ([.agg x.e]++caps.map .one) [.one (B (p x))]):
  Rt 90 [.one (.sl 2 (xs.map Done.e)),.one (.cl g caps)] [.one (I (idxI p xs))]:=by
 have hp':∀x∈xs,∀r,p x=r→Rt g ([.agg x.e]++caps.map .one) [.one (B r)]:=fun x hx r h=>h▸hp x hx
 have l:=qa7 (P:=prog) (c:=(qab f90 0)) xs p (fun i=>qdz (xs.map Done.e) g caps i) (X:=fun i _=>qhP i) qaE (qaj 0)
  (fun i a ha h=>qoK _ _ _ _ _ _ _ ⟨lt1 (lt_of ha),lt0,lt2 (lt_of ha),qad Done.e ha,hc,hp' a (qaq ha) false h,rfl,up1 (lt_of ha) hl,trivial⟩)
  (fun i a ha h=>qoJ _ _ _ _ _ _ _ ⟨lt1 (lt_of ha),lt0,lt2 (lt_of ha),qad Done.e ha,hc,hp' a (qaq ha) true h,rfl,trivial⟩)
  (qoL _ _ _ _ ⟨ge1,trivial⟩)
 rcases l with⟨_,h1,_,h2⟩ | ⟨i,a,_,_,_,h1,_,h2⟩
 ·simp only[idxI,h1]
  exact qoN _ _ _ ⟨h2,trivial⟩
 ·simp only[idxI,h1]
  exact qoM _ _ _ _ ⟨h2,trivial⟩
theorem qtD(xs:List Done)(p:Done→Bool)(g:Nat)(caps:List D)(hl:xs.length≤8388608)(hc:qaA prog g=true)(hp:∀x∈xs,Rt g ([.agg x.e]++caps.map .one) [.one (B (p x))]):
  Rt 81 [.one (.sl 2 (xs.map Done.e)),.one (.cl g caps)] [.one (B (xs.any p))]:=by
 rw[←qk8]
 exact qoZ _ _ _ _ ⟨qtC xs p g caps hl hc hp,trivial⟩
theorem qtE(xs:List News)(p:News→Bool)(g:Nat)(caps:List D)(hl:xs.length≤8388608)(hc:qaA prog g=true)(hp:∀x∈xs,Rt g ([.agg x.e]++caps.map .one) [.one (B (p x))]):
  Rt 51 [.one (.sl 3 (xs.map News.e)),.one (.cl g caps)] [.one (I (idxI p xs))]:=by
 have hp':∀x∈xs,∀r,p x=r→Rt g ([.agg x.e]++caps.map .one) [.one (B r)]:=fun x hx r h=>h▸hp x hx
 have l:=qa7 (P:=prog) (c:=(qab f51 0)) xs p (fun i=>qdA (xs.map News.e) g caps i) (X:=fun i _=>qhQ i) qaE (qaj 0)
  (fun i a ha h=>qoP _ _ _ _ _ _ _ _ ⟨lt1 (lt_of ha),lt0,lt2 (lt_of ha),qad News.e ha,hc,hp' a (qaq ha) false h,rfl,up1 (lt_of ha) hl,trivial⟩)
  (fun i a ha h=>qoO _ _ _ _ _ _ _ _ ⟨lt1 (lt_of ha),lt0,lt2 (lt_of ha),qad News.e ha,hc,hp' a (qaq ha) true h,rfl,trivial⟩)
  (qoQ _ _ _ _ ⟨ge1,trivial⟩)
 rcases l with⟨_,h1,_,h2⟩ | ⟨i,a,_,_,_,h1,_,h2⟩
 ·simp only[idxI,h1]
  exact qoS _ _ _ ⟨h2,trivial⟩
 ·simp only[idxI,h1]
  exact qoR _ _ _ _ ⟨h2,trivial⟩
theorem qtF(xs:List Cell)(p:Cell→Bool)(g:Nat)(caps:List D)(hl:xs.length≤8388608)(hc:qaA prog g=true)(hp:∀x∈xs,Rt g ([.agg x.e]++caps.map .one) [.one (B (p x))]):
  Rt 100 [.one (.sl 4 (xs.map Cell.e)),.one (.cl g caps)] [.one (I (idxI p xs))]:=by
 have hp':∀x∈xs,∀r,p x=r→Rt g ([.agg x.e]++caps.map .one) [.one (B r)]:=fun x hx r h=>h▸hp x hx
 have l:=qa7 (P:=prog) (c:=(qab f100 0)) xs p (fun i=>qdB (xs.map Cell.e) g caps i) (X:=fun i _=>qhR i) qaE (qaj 0)
  (fun i a ha h=>qoU _ _ _ _ _ _ _ _ _ ⟨lt1 (lt_of ha),lt0,lt2 (lt_of ha),qad Cell.e ha,hc,hp' a (qaq ha) false h,rfl,up1 (lt_of ha) hl,trivial⟩)
  (fun i a ha h=>qoT _ _ _ _ _ _ _ _ _ ⟨lt1 (lt_of ha),lt0,lt2 (lt_of ha),qad Cell.e ha,hc,hp' a (qaq ha) true h,rfl,trivial⟩)
  (qoV _ _ _ _ ⟨ge1,trivial⟩)
 rcases l with⟨_,h1,_,h2⟩ | ⟨i,a,_,_,_,h1,_,h2⟩
 ·simp only[idxI,h1]
  exact qoX _ _ _ ⟨h2,trivial⟩
 ·simp only[idxI,h1]
  exact qoW _ _ _ _ ⟨h2,trivial⟩
end Go.Proofs.YtenekpkjlgddnaaGreat
