import Derived.Test.YtdkobdhckkjmeaaGreatT2
import Derived.Test.YtdkobdhckkjmeaaGreatGN
import Derived.Sort.Statements
import Derived.Shelf.SlSortCmp.Insertion
set_option linter.unusedVariables false
set_option linter.unusedSimpArgs false
namespace Go.Proofs.YtdkobdhckkjmeaaGreat
open Go.Sx Go.RowKit Go.Proofs.Tryz
def inR(n lo hi:Int):Bool:=decide (lo≤n∧n≤hi)
theorem qbo(n lo hi:Int):Rt 167 [.one (I n),.one (I lo),.one (I hi)] [.one (B (inR n lo hi))]:=by
 by_cases h:lo≤n
 ·have e:inR n lo hi=decide (n≤hi):=by simp[inR,h]
  rw[e];exact qw1 ⟨by simp only[zi];omega,trivial⟩
 ·rw[show inR n lo hi=false by simp[inR,h]];exact qw2 ⟨by simp only[zf];omega,trivial⟩
theorem qaK(n lo hi:Int)(r:Bool)(h:inR n lo hi=r):Rt 167 [.one (I n),.one (I lo),.one (I hi)] [.one (B r)]:=h▸qbo n lo hi
theorem qbN(n lo hi:Int):Rt 158 [.one (I n),.one (I lo),.one (I hi)] [.one (B (inR n lo hi))]:=by
 by_cases h:lo≤n
 ·have e:inR n lo hi=decide (n≤hi):=by simp[inR,h]
  rw[e];exact qwZ ⟨by simp only[zi];omega,trivial⟩
 ·rw[show inR n lo hi=false by simp[inR,h]];exact qw0 ⟨by simp only[zf];omega,trivial⟩
theorem qaO(n lo hi:Int)(r:Bool)(h:inR n lo hi=r):Rt 158 [.one (I n),.one (I lo),.one (I hi)] [.one (B r)]:=h▸qbN n lo hi
def qaU(n lo hi:Int):Int:=if hi<lo then lo else if n<lo then lo else if hi<n then hi else n
theorem qjt(n lo hi:Int):Rt 130 [.one (I n),.one (I lo),.one (I hi)] [.one (I (qaU n lo hi))]:=by
 unfold qaU;by_cases h1:hi<lo
 ·rw[zp h1];exact qwx ⟨by simpa using h1,trivial⟩
 rw[zo h1];by_cases h2:n<lo
 ·rw[zp h2];exact qwy ⟨by simpa using h1,by simpa using h2,trivial⟩
 rw[zo h2];by_cases h3:hi<n
 ·rw[zp h3];exact qwz ⟨by simpa using h1,by simpa using h2,by simpa using h3,trivial⟩
 ·rw[zo h3];exact qwA ⟨by simpa using h1,by simpa using h2,by simpa using h3,trivial⟩
theorem Record.flat(r:Record):∀d∈r.e,∃x,d=.v x:=by
 intro d hd;simp only[Record.e,zL,zbu,or_false]at hd;rcases hd with rfl | rfl | rfl | rfl | rfl<;>exact⟨_,rfl⟩
theorem Cell.flat(r:Cell):∀d∈r.e,∃x,d=.v x:=by
 intro d hd;simp only[Cell.e,zL,zbu,or_false]at hd;rcases hd with rfl | rfl | rfl | rfl<;>exact⟨_,rfl⟩
theorem Pick.flat(r:Pick):∀d∈r.e,∃x,d=.v x:=by
 intro d hd;simp only[Pick.e,zL,zbu,or_false]at hd;rcases hd with rfl | rfl | rfl<;>exact⟨_,rfl⟩
theorem Stamp.flat(r:Stamp):∀d∈r.e,∃x,d=.v x:=by
 intro d hd;simp only[Stamp.e,zL,zbu,or_false]at hd;rcases hd with rfl | rfl<;>exact⟨_,rfl⟩
theorem qju{α:Type}(p:α→Bool)(xs:List α)(i:Nat):((xs.take i).filter p).length≤i:=
 zce (zat ..) (by simp;omega)
theorem qmk(a r:Cell):(a.op==r.op&&(a.epoch==r.epoch&&(a.key==r.key&&a.val==r.val)))=decide (a=r):=by
 obtain⟨o,e,k,v⟩:=a;obtain⟨o',e',k',v'⟩:=r;rw[Bool.eq_iff_iff];simp only[zj,zE,zi,Cell.mk.injEq]
theorem tr_to{P:Program}{c:Code}{st:St}{e:Ex}{α:Type}(f:α→St){l l':α}(h:Tr P c st e (f l))(hl:l=l'):Tr P c st e (f l'):=hl▸h
theorem qyo{P:Program}{f:Nat}{args:List AD}{k:Nat}{l l':List (List D)}(h:Ret P f args [.one (.sl k l)])(hl:l=l'):Ret P f args [.one (.sl k l')]:=hl▸h
theorem qgi{α β:Type}(f:α→List β)(c:Nat)(h:∀a,(f a).length≤c):∀xs:List α,(xs.flatMap f).length≤xs.length*c
 | []=>by simp
 | a::xs=>by
  have h1:=h a;have h2:=qgi f c h xs;simp only[List.flatMap_cons,zab,zq,zR,Nat.one_mul];omega
theorem dT{p:Prop}[Decidable p](h:p):decide p=true:=zap h
theorem dF{p:Prop}[Decidable p](h:¬p):decide p=false:=zt h
end Go.Proofs.YtdkobdhckkjmeaaGreat
namespace Go.Proofs.YtdkobdhckkjmeaaGreat
open Go.Sx Go.RowKit Go.Proofs.Tryz
def ord3(a b:Int):Int:=if a<b then -1 else if b<a then 1 else 0
def lexN(l:List Int):Int:=(l.find? (· != 0)).getD 0
theorem qjv(a b:Int):Rt 322 [.one (I a),.one (I b)] [.one (I (ord3 a b))]:=by
 unfold ord3;by_cases h:a<b
 ·rw[zp h];exact qw3 ⟨dT h,trivial⟩
 ·rw[zo h];by_cases h2:b<a
  ·rw[zp h2];exact qw4 ⟨dF h,dT h2,trivial⟩
  ·rw[zo h2];exact qw5 ⟨dF h,dF h2,trivial⟩
theorem qqy(a:Int):Rt 365 [.one (I a)] [.one (B false)]:=by
 have:=qw6 a trivial;simpa using this
theorem qqz(a b:Int):Rt 358 [.one (I a),.one (I b)] [.one (I (ord3 a b))]:=by
 have x:=qqy a;have y:=qqy b;unfold ord3;by_cases h:a<b
 ·rw[zp h];exact qw7 ⟨x,y,rfl,rfl,dT h,trivial⟩
 ·rw[zo h];by_cases h2:b<a
  ·rw[zp h2];exact qw8 ⟨x,y,rfl,rfl,dF h,dT h2,trivial⟩
  ·rw[zo h2];exact qw9 ⟨x,y,rfl,rfl,dF h,dF h2,trivial⟩
theorem qqA{xs ys:List Int}{i:Nat}{d:Int}(h:(List.zipWith ord3 xs ys)[i]?=some d):∃a b,xs[i]?=some a∧ys[i]?=some b∧ord3 a b=d:=by
 rw[List.getElem?_zipWith]at h;cases h1:xs[i]? with
 | none=>simp[h1]at h
 | some a=>
  cases h2:ys[i]? with
  | none=>simp[h1,h2]at h
  | some b=>exact⟨a,b,rfl,rfl,by simpa[h1,h2]using h⟩
theorem qzF(xs ys:List Int)(hl:xs.length=ys.length)(hm:xs.length≤8388608):Rt 345 [.one (.sl 1 (xs.map eI)),.one (.sl 1 (ys.map eI))] [.one (I (lexN (List.zipWith ord3 xs ys)))]:=by
 have hz:(List.zipWith ord3 xs ys).length=xs.length:=by simp[hl]
 have l:=qaW (P:=prog) (c:=(qaa f345 0)) (List.zipWith ord3 xs ys) (fun d=>d != 0) (fun i=>qe2 (xs.map eI) (ys.map eI) i) (X:=fun _ d=>qmc d) qaE (qaf 0)
  (fun i d hd h=>by
   obtain⟨a,b,ha,hb,rfl⟩:=qqA hd;exact qxb ⟨lt1 (lt_of ha),lt0,lt2 (lt_of ha),qac eI ha,dF (by have:=lt_of hb;simp;omega),lt0,lt2 (lt_of hb),qac eI hb,qqz a b,h,up1 (lt_of ha) hm,trivial⟩)
  (fun i d hd h=>by
   obtain⟨a,b,ha,hb,rfl⟩:=qqA hd;exact qxa ⟨lt1 (lt_of ha),lt0,lt2 (lt_of ha),qac eI ha,dF (by have:=lt_of hb;simp;omega),lt0,lt2 (lt_of hb),qac eI hb,qqz a b,h,trivial⟩)
  (by rw[hz];exact qxc ⟨ge1,trivial⟩)
 unfold lexN;rcases l with⟨h1,_,_,h2⟩ | ⟨i,a,_,_,h1,_,_,h2⟩
 ·rw[h1];exact qxe ⟨h2,by simp[hl],trivial⟩
 ·rw[h1];exact qxd ⟨h2,trivial⟩
theorem qmp(xs ys:List Int)(hl:xs.length=ys.length)(hm:xs.length≤8388608):Rt 332 [.one (.sl 1 (xs.map eI)),.one (.sl 1 (ys.map eI))] [.one (I (lexN (List.zipWith ord3 xs ys)))]:=
 qxf ⟨qzF xs ys hl hm,trivial⟩
def qbg(a b:Cell):Int:=lexN [ord3 a.epoch b.epoch,ord3 a.op b.op,ord3 a.key b.key,ord3 a.val b.val]
theorem qjw(a b:Cell):Rt 313 [.agg a.e,.agg b.e] [.one (I (qbg a b))]:=
 qyr ⟨qmp [a.epoch,a.op,a.key,a.val] [b.epoch,b.op,b.key,b.val] rfl (by simp),trivial⟩
theorem qjx(a b:Cell):Rt 306 [.agg a.e,.agg b.e] [.one (I (qbg a b))]:=by
 have o1:=qjv a.epoch b.epoch;have o2:=qjv a.op b.op;have o3:=qjv a.key b.key;have o4:=qjv a.val b.val;unfold qbg;generalize ord3 a.epoch b.epoch=x1 at*;generalize ord3 a.op b.op=x2 at*;generalize ord3 a.key b.key=x3 at*;generalize ord3 a.val b.val=x4 at*;have l:=qaW (P:=prog) (c:=(qaa f306 0)) [x1,x2,x3,x4] (fun d=>d != 0) (fun i=>qfe x1 x2 x3 x4 i) (X:=fun _ d=>qmn d) qaE (qaf 0)
  (fun i d hd h=>qy0 ⟨dT (by have:=lt_of hd;simp at this;omega),lt0,by have:=lt_of hd;simp at this ⊢;omega,qac eI hd,h,⟨by omega,by have:=lt_of hd;simp at this;omega⟩,trivial⟩)
  (fun i d hd h=>qyZ ⟨dT (by have:=lt_of hd;simp at this;omega),lt0,by have:=lt_of hd;simp at this ⊢;omega,qac eI hd,h,lt0,by have:=lt_of hd;simp at this ⊢;omega,qac eI hd,trivial⟩)
  (qy1 ⟨rfl,trivial⟩)
 unfold lexN;rcases l with⟨h1,_,_,h2⟩ | ⟨i,a,_,_,h1,_,_,h2⟩
 ·rw[h1];exact qy3 ⟨o1,o2,o3,o4,h2,trivial⟩
 ·rw[h1];exact qy2 ⟨o1,o2,o3,o4,h2,trivial⟩
end Go.Proofs.YtdkobdhckkjmeaaGreat
namespace Go.Proofs.YtdkobdhckkjmeaaGreat
open Go.Sx Go.RowKit Go.Sort Go.Proofs.Tryz
def cmpL(u v:List Int):Int:=lexN (List.zipWith ord3 u v)
theorem qgm(d:Int)(l:List Int):lexN (d::l)=if d=0 then lexN l else d:=by
 unfold lexN;by_cases h:d=0
 ·simp[h]
 ·simp[h]
theorem qDM(a b:Int)(u v:List Int):cmpL (a::u) (b::v)=if a=b then cmpL u v else ord3 a b:=by
 unfold cmpL;rw[List.zipWith_cons_cons,qgm];have:ord3 a b=0↔a=b:=by unfold ord3;split<;>(try split)<;>constructor<;>intro h<;>omega
 by_cases h:a=b
 ·rw[zp (this.2 h),zp h]
 ·rw[zo (fun e=>h (this.1 e)),zo h]
theorem qjD(a b:Int)(u v:List Int):cmpL (a::u) (b::v)<0↔a<b∨(a=b∧cmpL u v<0):=by
 rw[qDM];split
 ·constructor
  ·intro h;exact .inr ⟨‹_›,h⟩
  ·rintro (h | h)
   ·omega
   ·exact h.2
 ·unfold ord3;split<;>(try split)<;>constructor<;>intro h<;>omega
theorem qmC:∀(u v w:List Int),u.length=v.length→v.length=w.length→cmpL u v<0→cmpL v w<0→cmpL u w<0
 | [],[],[],_,_,h,_=>h
 | a::u,b::v,c::w,h1,h2,h3,h4=>by
  rw[qjD] at*;have:=qmC u v w (by simpa using h1) (by simpa using h2);omega
theorem qmD:∀(u v:List Int),u.length=v.length→¬cmpL u v<0→¬cmpL v u<0→u=v
 | [],[],_,_,_=>rfl
 | a::u,b::v,h1,h3,h4=>by
  rw[qjD]at h3 h4;have hab:a=b:=by omega
  subst hab;rw[qmD u v (by simpa using h1) (by omega) (by omega)]
section
variable {α : Type}
abbrev SortedL(lt:α→α→Bool)(S:List α):Prop:=S.Pairwise fun a b=>(!lt b a)=true
end
end Go.Proofs.YtdkobdhckkjmeaaGreat
namespace Go.Proofs.YtdkobdhckkjmeaaGreat
open Go.Sx Go.RowKit Go.Proofs.Tryz
def idxI{α:Type}(p:α→Bool)(xs:List α):Int:=match xs.findIdx? p with | some i=>i | none=>-1
theorem qjF{α:Type}(p:α→Bool)(xs:List α):decide (idxI p xs≥0)=xs.any p:=by
 unfold idxI;cases h:xs.findIdx? p with
 | none=>
  have:xs.any p=false:=by
   rw[zP];rw[zbs]at h;exact fun a ha=>by simp[h a ha]
  rw[this];rfl
 | some i=>
  rw[zai]at h;obtain⟨hi,h2,_⟩:=h;have:xs.any p=true:=zcj.2 ⟨_,zax hi,h2⟩;rw[this];simp
theorem qEa(xs:List Record)(p:Record→Bool)(g:Nat)(caps:List D)(hl:xs.length≤8388608)(hc:qaT prog g=true)(hp:∀x∈xs,Rt g ([.agg x.e]++caps.map .one) [.one (B (p x))]):
  Rt 311 [.one (.sl 5 (xs.map Record.e)),.one (.cl g caps)] [.one (I (idxI p xs))]:=by
 have hp':∀x∈xs,∀r,p x=r→Rt g ([.agg x.e]++caps.map .one) [.one (B r)]:=fun x hx r h=>h▸hp x hx
 have l:=qaW (P:=prog) (c:=(qaa f311 0)) xs p (fun i=>qe8 (xs.map Record.e) g caps i) (X:=fun i _=>qmf i) qaE (qaf 0)
  (fun i a ha h=>qx1 _ _ _ _ _ _ _ _ _ _ ⟨lt1 (lt_of ha),lt0,lt2 (lt_of ha),qac Record.e ha,hc,hp' a (qag ha) false h,rfl,up1 (lt_of ha) hl,trivial⟩)
  (fun i a ha h=>qx0 _ _ _ _ _ _ _ _ _ _ ⟨lt1 (lt_of ha),lt0,lt2 (lt_of ha),qac Record.e ha,hc,hp' a (qag ha) true h,rfl,trivial⟩)
  (qx2 _ _ _ _ ⟨ge1,trivial⟩)
 rcases l with⟨_,h1,_,h2⟩ | ⟨i,a,_,_,_,h1,_,h2⟩
 ·simp only[idxI,h1];exact qx4 _ _ _ ⟨h2,trivial⟩
 ·simp only[idxI,h1];exact qx3 _ _ _ _ ⟨h2,trivial⟩
theorem qrf(xs:List Record)(p:Record→Bool)(g:Nat)(caps:List D)(hl:xs.length≤8388608)(hc:qaT prog g=true)(hp:∀x∈xs,Rt g ([.agg x.e]++caps.map .one) [.one (B (p x))]):
  Rt 266 [.one (.sl 5 (xs.map Record.e)),.one (.cl g caps)] [.one (B (xs.any p))]:=by
 rw[←qjF];exact qyl _ _ _ _ ⟨qEa xs p g caps hl hc hp,trivial⟩
theorem qEb(xs:List Done)(p:Done→Bool)(g:Nat)(caps:List D)(hl:xs.length≤8388608)(hc:qaT prog g=true)(hp:∀x∈xs,Rt g ([.agg x.e]++caps.map .one) [.one (B (p x))]):
  Rt 339 [.one (.sl 2 (xs.map Done.e)),.one (.cl g caps)] [.one (I (idxI p xs))]:=by
 have hp':∀x∈xs,∀r,p x=r→Rt g ([.agg x.e]++caps.map .one) [.one (B r)]:=fun x hx r h=>h▸hp x hx
 have l:=qaW (P:=prog) (c:=(qaa f339 0)) xs p (fun i=>qe9 (xs.map Done.e) g caps i) (X:=fun i _=>qmg i) qaE (qaf 0)
  (fun i a ha h=>qx6 _ _ _ _ _ _ _ ⟨lt1 (lt_of ha),lt0,lt2 (lt_of ha),qac Done.e ha,hc,hp' a (qag ha) false h,rfl,up1 (lt_of ha) hl,trivial⟩)
  (fun i a ha h=>qx5 _ _ _ _ _ _ _ ⟨lt1 (lt_of ha),lt0,lt2 (lt_of ha),qac Done.e ha,hc,hp' a (qag ha) true h,rfl,trivial⟩)
  (qx7 _ _ _ _ ⟨ge1,trivial⟩)
 rcases l with⟨_,h1,_,h2⟩ | ⟨i,a,_,_,_,h1,_,h2⟩
 ·simp only[idxI,h1];exact qx9 _ _ _ ⟨h2,trivial⟩
 ·simp only[idxI,h1];exact qx8 _ _ _ _ ⟨h2,trivial⟩
theorem qEc(xs:List Done)(p:Done→Bool)(g:Nat)(caps:List D)(hl:xs.length≤8388608)(hc:qaT prog g=true)(hp:∀x∈xs,Rt g ([.agg x.e]++caps.map .one) [.one (B (p x))]):
  Rt 317 [.one (.sl 2 (xs.map Done.e)),.one (.cl g caps)] [.one (B (xs.any p))]:=by
 rw[←qjF];exact qym _ _ _ _ ⟨qEb xs p g caps hl hc hp,trivial⟩
