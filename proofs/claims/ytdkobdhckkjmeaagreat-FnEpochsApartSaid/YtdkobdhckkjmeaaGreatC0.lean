/- Small functions that many others call, and lemmas for loops. -/
import Derived.Test.YtdkobdhckkjmeaaGreatT2
import Derived.Test.YtdkobdhckkjmeaaGreatGN
import Derived.Sort.Statements
import Derived.Shelf.SlSortCmp.Insertion
set_option linter.unusedVariables false
set_option linter.unusedSimpArgs false
namespace Go.Proofs.YtdkobdhckkjmeaaGreat
open Go.Sx Go.RowKit Go.Proofs.Tryz
def inR(n lo hi:Int):Bool:=decide (lo≤n∧n≤hi)
theorem qbo(n lo hi:Int):Rt 167 [.one (I n),.one (I lo),.one (I hi)] [.one (B (inR n lo hi))]:=by
 by_cases h:lo≤n
 ·have e:inR n lo hi=decide (n≤hi):=by simp[inR,h]
  rw[e];exact qwA ⟨by simp only[zi];omega,trivial⟩
 ·rw[show inR n lo hi=false by simp[inR,h]];exact qwB ⟨by simp only[zf];omega,trivial⟩
theorem qbO(n lo hi:Int):Rt 158 [.one (I n),.one (I lo),.one (I hi)] [.one (B (inR n lo hi))]:=by
 by_cases h:lo≤n
 ·have e:inR n lo hi=decide (n≤hi):=by simp[inR,h]
  rw[e];exact qwy ⟨by simp only[zi];omega,trivial⟩
 ·rw[show inR n lo hi=false by simp[inR,h]];exact qwz ⟨by simp only[zf];omega,trivial⟩
theorem qaP(n lo hi:Int)(r:Bool)(h:inR n lo hi=r):Rt 158 [.one (I n),.one (I lo),.one (I hi)] [.one (B r)]:=h▸qbO n lo hi
def qaV(n lo hi:Int):Int:=if hi<lo then lo else if n<lo then lo else if hi<n then hi else n
theorem qjw(n lo hi:Int):Rt 130 [.one (I n),.one (I lo),.one (I hi)] [.one (I (qaV n lo hi))]:=by
 unfold qaV;by_cases h1:hi<lo
 ·rw[zp h1];exact qv6 ⟨by simpa using h1,trivial⟩
 rw[zo h1];by_cases h2:n<lo
 ·rw[zp h2];exact qv7 ⟨by simpa using h1,by simpa using h2,trivial⟩
 rw[zo h2];by_cases h3:hi<n
 ·rw[zp h3];exact qv8 ⟨by simpa using h1,by simpa using h2,by simpa using h3,trivial⟩
 ·rw[zo h3];exact qv9 ⟨by simpa using h1,by simpa using h2,by simpa using h3,trivial⟩
theorem qmj(n lo hi:Int):Rt 160 [.one (I n),.one (I lo),.one (I hi)] [.one (I (qaV n lo hi))]:=by
 unfold qaV;by_cases h1:hi<lo
 ·rw[zp h1];exact qwa ⟨by simpa using h1,trivial⟩
 rw[zo h1];by_cases h2:n<lo
 ·rw[zp h2];exact qwb ⟨by simpa using h1,by simpa using h2,trivial⟩
 rw[zo h2];exact qwc ⟨by simpa using h1,by simpa using h2,trivial⟩
theorem Record.flat(r:Record):∀d∈r.e,∃x,d=.v x:=by
 intro d hd;simp only[Record.e,zL,zbu,or_false]at hd;rcases hd with rfl | rfl | rfl | rfl | rfl<;>exact⟨_,rfl⟩
theorem Cell.flat(r:Cell):∀d∈r.e,∃x,d=.v x:=by
 intro d hd;simp only[Cell.e,zL,zbu,or_false]at hd;rcases hd with rfl | rfl | rfl | rfl<;>exact⟨_,rfl⟩
theorem Pick.flat(r:Pick):∀d∈r.e,∃x,d=.v x:=by
 intro d hd;simp only[Pick.e,zL,zbu,or_false]at hd;rcases hd with rfl | rfl | rfl<;>exact⟨_,rfl⟩
theorem Stamp.flat(r:Stamp):∀d∈r.e,∃x,d=.v x:=by
 intro d hd;simp only[Stamp.e,zL,zbu,or_false]at hd;rcases hd with rfl | rfl<;>exact⟨_,rfl⟩
theorem qjx{α:Type}(p:α→Bool)(xs:List α)(i:Nat):((xs.take i).filter p).length≤i:=
 zce (zat ..) (by simp;omega)
theorem qmk(a r:Cell):(a.op==r.op&&(a.epoch==r.epoch&&(a.key==r.key&&a.val==r.val)))=decide (a=r):=by
 obtain⟨o,e,k,v⟩:=a;obtain⟨o',e',k',v'⟩:=r;rw[Bool.eq_iff_iff];simp only[zj,zE,zi,Cell.mk.injEq]
theorem qqp(a r:Cell):(r.op==a.op&&(r.epoch==a.epoch&&(r.key==a.key&&r.val==a.val)))=decide (a=r):=by
 rw[qmk r a];exact decide_eq_decide.2 ⟨Eq.symm,Eq.symm⟩
theorem tr_to{P:Program}{c:Code}{st:St}{e:Ex}{α:Type}(f:α→St){l l':α}(h:Tr P c st e (f l))(hl:l=l'):Tr P c st e (f l'):=hl▸h
theorem qgl{α β:Type}(f:α→List β)(c:Nat)(h:∀a,(f a).length≤c):∀xs:List α,(xs.flatMap f).length≤xs.length*c
 | []=>by simp
 | a::xs=>by
  have h1:=h a;have h2:=qgl f c h xs;simp only[List.flatMap_cons,zab,zq,zR,Nat.one_mul];omega
theorem dT{p:Prop}[Decidable p](h:p):decide p=true:=zap h
theorem dF{p:Prop}[Decidable p](h:¬p):decide p=false:=zt h
end Go.Proofs.YtdkobdhckkjmeaaGreat
namespace Go.Proofs.YtdkobdhckkjmeaaGreat
open Go.Sx Go.RowKit Go.Proofs.Tryz
def ord3(a b:Int):Int:=if a<b then -1 else if b<a then 1 else 0
def lexN(l:List Int):Int:=(l.find? (· != 0)).getD 0
theorem qqw(a:Int):Rt 365 [.one (I a)] [.one (B false)]:=by
 have:=qwF a trivial;simpa using this
theorem qqx(a b:Int):Rt 358 [.one (I a),.one (I b)] [.one (I (ord3 a b))]:=by
 have x:=qqw a;have y:=qqw b;unfold ord3;by_cases h:a<b
 ·rw[zp h];exact qwG ⟨x,y,rfl,rfl,dT h,trivial⟩
 ·rw[zo h];by_cases h2:b<a
  ·rw[zp h2];exact qwH ⟨x,y,rfl,rfl,dF h,dT h2,trivial⟩
  ·rw[zo h2];exact qwI ⟨x,y,rfl,rfl,dF h,dF h2,trivial⟩
theorem qqy{xs ys:List Int}{i:Nat}{d:Int}(h:(List.zipWith ord3 xs ys)[i]?=some d):∃a b,xs[i]?=some a∧ys[i]?=some b∧ord3 a b=d:=by
 rw[List.getElem?_zipWith]at h;cases h1:xs[i]? with
 | none=>simp[h1]at h
 | some a=>
  cases h2:ys[i]? with
  | none=>simp[h1,h2]at h
  | some b=>exact⟨a,b,rfl,rfl,by simpa[h1,h2]using h⟩
theorem qze(xs ys:List Int)(hl:xs.length=ys.length)(hm:xs.length≤8388608):Rt 345 [.one (.sl 1 (xs.map eI)),.one (.sl 1 (ys.map eI))] [.one (I (lexN (List.zipWith ord3 xs ys)))]:=by
 have hz:(List.zipWith ord3 xs ys).length=xs.length:=by simp[hl]
 have l:=qaX (P:=prog) (c:=(qaa f345 0)) (List.zipWith ord3 xs ys) (fun d=>d != 0) (fun i=>qe5 (xs.map eI) (ys.map eI) i) (X:=fun _ d=>qmc d) qaF (qaf 0)
  (fun i d hd h=>by
   obtain⟨a,b,ha,hb,rfl⟩:=qqy hd;exact qwK ⟨lt1 (lt_of ha),lt0,lt2 (lt_of ha),qac eI ha,dF (by have:=lt_of hb;simp;omega),lt0,lt2 (lt_of hb),qac eI hb,qqx a b,h,up1 (lt_of ha) hm,trivial⟩)
  (fun i d hd h=>by
   obtain⟨a,b,ha,hb,rfl⟩:=qqy hd;exact qwJ ⟨lt1 (lt_of ha),lt0,lt2 (lt_of ha),qac eI ha,dF (by have:=lt_of hb;simp;omega),lt0,lt2 (lt_of hb),qac eI hb,qqx a b,h,trivial⟩)
  (by rw[hz];exact qwL ⟨ge1,trivial⟩)
 unfold lexN;rcases l with⟨h1,_,_,h2⟩ | ⟨i,a,_,_,h1,_,_,h2⟩
 ·rw[h1];exact qwN ⟨h2,by simp[hl],trivial⟩
 ·rw[h1];exact qwM ⟨h2,trivial⟩
theorem qmp(xs ys:List Int)(hl:xs.length=ys.length)(hm:xs.length≤8388608):Rt 332 [.one (.sl 1 (xs.map eI)),.one (.sl 1 (ys.map eI))] [.one (I (lexN (List.zipWith ord3 xs ys)))]:=
 qwO ⟨qze xs ys hl hm,trivial⟩
def qbg(a b:Cell):Int:=lexN [ord3 a.epoch b.epoch,ord3 a.op b.op,ord3 a.key b.key,ord3 a.val b.val]
theorem qjz(a b:Cell):Rt 313 [.agg a.e,.agg b.e] [.one (I (qbg a b))]:=
 qx0 ⟨qmp [a.epoch,a.op,a.key,a.val] [b.epoch,b.op,b.key,b.val] rfl (by simp),trivial⟩
end Go.Proofs.YtdkobdhckkjmeaaGreat
namespace Go.Proofs.YtdkobdhckkjmeaaGreat
open Go.Sx Go.RowKit Go.Sort Go.Proofs.Tryz
def cmpL(u v:List Int):Int:=lexN (List.zipWith ord3 u v)
theorem qgr(d:Int)(l:List Int):lexN (d::l)=if d=0 then lexN l else d:=by
 unfold lexN;by_cases h:d=0
 ·simp[h]
 ·simp[h]
theorem qEC(a b:Int)(u v:List Int):cmpL (a::u) (b::v)=if a=b then cmpL u v else ord3 a b:=by
 unfold cmpL;rw[List.zipWith_cons_cons,qgr];have:ord3 a b=0↔a=b:=by unfold ord3;split<;>(try split)<;>constructor<;>intro h<;>omega
 by_cases h:a=b
 ·rw[zp (this.2 h),zp h]
 ·rw[zo (fun e=>h (this.1 e)),zo h]
theorem qjK(a b:Int)(u v:List Int):cmpL (a::u) (b::v)<0↔a<b∨(a=b∧cmpL u v<0):=by
 rw[qEC];split
 ·constructor
  ·intro h;exact .inr ⟨‹_›,h⟩
  ·rintro (h | h)
   ·omega
   ·exact h.2
 ·unfold ord3;split<;>(try split)<;>constructor<;>intro h<;>omega
theorem qrq:∀u:List Int,¬cmpL u u<0
 | []=>by simp[cmpL,lexN]
 | a::u=>by rw[qjK];have:=qrq u;omega
theorem qmG:∀(u v w:List Int),u.length=v.length→v.length=w.length→cmpL u v<0→cmpL v w<0→cmpL u w<0
 | [],[],[],_,_,h,_=>h
 | a::u,b::v,c::w,h1,h2,h3,h4=>by
  rw[qjK] at*;have:=qmG u v w (by simpa using h1) (by simpa using h2);omega
theorem qmH:∀(u v:List Int),u.length=v.length→¬cmpL u v<0→¬cmpL v u<0→u=v
 | [],[],_,_,_=>rfl
 | a::u,b::v,h1,h3,h4=>by
  rw[qjK]at h3 h4;have hab:a=b:=by omega
  subst hab;rw[qmH u v (by simpa using h1) (by omega) (by omega)]
section
variable {α : Type}
abbrev SortedL(lt:α→α→Bool)(S:List α):Prop:=S.Pairwise fun a b=>(!lt b a)=true
end
end Go.Proofs.YtdkobdhckkjmeaaGreat
namespace Go.Proofs.YtdkobdhckkjmeaaGreat
open Go.Sx Go.RowKit Go.Proofs.Tryz
def idxI{α:Type}(p:α→Bool)(xs:List α):Int:=match xs.findIdx? p with | some i=>i | none=>-1
theorem qjF{α:Type}(p:α→Bool)(xs:List α):decide (idxI p xs≥0)=xs.any p:=by
 unfold idxI;cases h:xs.findIdx? p with
 | none=>
  have:xs.any p=false:=by
   rw[zP];rw[zbs]at h;exact fun a ha=>by simp[h a ha]
  rw[this];rfl
 | some i=>
  rw[zai]at h;obtain⟨hi,h2,_⟩:=h;have:xs.any p=true:=zcj.2 ⟨_,zax hi,h2⟩;rw[this];simp
theorem qDl(xs:List Record)(p:Record→Bool)(g:Nat)(caps:List D)(hl:xs.length≤8388608)(hc:qaT prog g=true)(hp:∀x∈xs,Rt g ([.agg x.e]++caps.map .one) [.one (B (p x))]):
  Rt 311 [.one (.sl 5 (xs.map Record.e)),.one (.cl g caps)] [.one (I (idxI p xs))]:=by
 have hp':∀x∈xs,∀r,p x=r→Rt g ([.agg x.e]++caps.map .one) [.one (B r)]:=fun x hx r h=>h▸hp x hx
 have l:=qaX (P:=prog) (c:=(qaa f311 0)) xs p (fun i=>qfb (xs.map Record.e) g caps i) (X:=fun i _=>qmf i) qaF (qaf 0)
  (fun i a ha h=>qxA _ _ _ _ _ _ _ _ _ _ ⟨lt1 (lt_of ha),lt0,lt2 (lt_of ha),qac Record.e ha,hc,hp' a (qag ha) false h,rfl,up1 (lt_of ha) hl,trivial⟩)
  (fun i a ha h=>qxz _ _ _ _ _ _ _ _ _ _ ⟨lt1 (lt_of ha),lt0,lt2 (lt_of ha),qac Record.e ha,hc,hp' a (qag ha) true h,rfl,trivial⟩)
  (qxB _ _ _ _ ⟨ge1,trivial⟩)
 rcases l with⟨_,h1,_,h2⟩ | ⟨i,a,_,_,_,h1,_,h2⟩
 ·simp only[idxI,h1];exact qxD _ _ _ ⟨h2,trivial⟩
 ·simp only[idxI,h1];exact qxC _ _ _ _ ⟨h2,trivial⟩
theorem qqY(xs:List Record)(p:Record→Bool)(g:Nat)(caps:List D)(hl:xs.length≤8388608)(hc:qaT prog g=true)(hp:∀x∈xs,Rt g ([.agg x.e]++caps.map .one) [.one (B (p x))]):
  Rt 266 [.one (.sl 5 (xs.map Record.e)),.one (.cl g caps)] [.one (B (xs.any p))]:=by
 rw[←qjF];exact qxU _ _ _ _ ⟨qDl xs p g caps hl hc hp,trivial⟩
theorem qDm(xs:List Done)(p:Done→Bool)(g:Nat)(caps:List D)(hl:xs.length≤8388608)(hc:qaT prog g=true)(hp:∀x∈xs,Rt g ([.agg x.e]++caps.map .one) [.one (B (p x))]):
  Rt 339 [.one (.sl 2 (xs.map Done.e)),.one (.cl g caps)] [.one (I (idxI p xs))]:=by
 have hp':∀x∈xs,∀r,p x=r→Rt g ([.agg x.e]++caps.map .one) [.one (B r)]:=fun x hx r h=>h▸hp x hx
 have l:=qaX (P:=prog) (c:=(qaa f339 0)) xs p (fun i=>qfc (xs.map Done.e) g caps i) (X:=fun i _=>qmg i) qaF (qaf 0)
  (fun i a ha h=>qxF _ _ _ _ _ _ _ ⟨lt1 (lt_of ha),lt0,lt2 (lt_of ha),qac Done.e ha,hc,hp' a (qag ha) false h,rfl,up1 (lt_of ha) hl,trivial⟩)
  (fun i a ha h=>qxE _ _ _ _ _ _ _ ⟨lt1 (lt_of ha),lt0,lt2 (lt_of ha),qac Done.e ha,hc,hp' a (qag ha) true h,rfl,trivial⟩)
  (qxG _ _ _ _ ⟨ge1,trivial⟩)
 rcases l with⟨_,h1,_,h2⟩ | ⟨i,a,_,_,_,h1,_,h2⟩
 ·simp only[idxI,h1];exact qxI _ _ _ ⟨h2,trivial⟩
 ·simp only[idxI,h1];exact qxH _ _ _ _ ⟨h2,trivial⟩
theorem qDn(xs:List Done)(p:Done→Bool)(g:Nat)(caps:List D)(hl:xs.length≤8388608)(hc:qaT prog g=true)(hp:∀x∈xs,Rt g ([.agg x.e]++caps.map .one) [.one (B (p x))]):
  Rt 317 [.one (.sl 2 (xs.map Done.e)),.one (.cl g caps)] [.one (B (xs.any p))]:=by
 rw[←qjF];exact qxV _ _ _ _ ⟨qDm xs p g caps hl hc hp,trivial⟩
theorem qqZ(xs:List News)(p:News→Bool)(g:Nat)(caps:List D)(hl:xs.length≤8388608)(hc:qaT prog g=true)(hp:∀x∈xs,Rt g ([.agg x.e]++caps.map .one) [.one (B (p x))]):
  Rt 259 [.one (.sl 3 (xs.map News.e)),.one (.cl g caps)] [.one (I (idxI p xs))]:=by
 have hp':∀x∈xs,∀r,p x=r→Rt g ([.agg x.e]++caps.map .one) [.one (B r)]:=fun x hx r h=>h▸hp x hx
 have l:=qaX (P:=prog) (c:=(qaa f259 0)) xs p (fun i=>qfd (xs.map News.e) g caps i) (X:=fun i _=>qmh i) qaF (qaf 0)
  (fun i a ha h=>qxK _ _ _ _ _ _ _ _ ⟨lt1 (lt_of ha),lt0,lt2 (lt_of ha),qac News.e ha,hc,hp' a (qag ha) false h,rfl,up1 (lt_of ha) hl,trivial⟩)
  (fun i a ha h=>qxJ _ _ _ _ _ _ _ _ ⟨lt1 (lt_of ha),lt0,lt2 (lt_of ha),qac News.e ha,hc,hp' a (qag ha) true h,rfl,trivial⟩)
  (qxL _ _ _ _ ⟨ge1,trivial⟩)
 rcases l with⟨_,h1,_,h2⟩ | ⟨i,a,_,_,_,h1,_,h2⟩
 ·simp only[idxI,h1];exact qxN _ _ _ ⟨h2,trivial⟩
 ·simp only[idxI,h1];exact qxM _ _ _ _ ⟨h2,trivial⟩
theorem qDp(xs:List Cell)(p:Cell→Bool)(g:Nat)(caps:List D)(hl:xs.length≤8388608)(hc:qaT prog g=true)(hp:∀x∈xs,Rt g ([.agg x.e]++caps.map .one) [.one (B (p x))]):
  Rt 343 [.one (.sl 4 (xs.map Cell.e)),.one (.cl g caps)] [.one (I (idxI p xs))]:=by
 have hp':∀x∈xs,∀r,p x=r→Rt g ([.agg x.e]++caps.map .one) [.one (B r)]:=fun x hx r h=>h▸hp x hx
 have l:=qaX (P:=prog) (c:=(qaa f343 0)) xs p (fun i=>qfe (xs.map Cell.e) g caps i) (X:=fun i _=>qmi i) qaF (qaf 0)
  (fun i a ha h=>qxP _ _ _ _ _ _ _ _ _ ⟨lt1 (lt_of ha),lt0,lt2 (lt_of ha),qac Cell.e ha,hc,hp' a (qag ha) false h,rfl,up1 (lt_of ha) hl,trivial⟩)
  (fun i a ha h=>qxO _ _ _ _ _ _ _ _ _ ⟨lt1 (lt_of ha),lt0,lt2 (lt_of ha),qac Cell.e ha,hc,hp' a (qag ha) true h,rfl,trivial⟩)
  (qxQ _ _ _ _ ⟨ge1,trivial⟩)
 rcases l with⟨_,h1,_,h2⟩ | ⟨i,a,_,_,_,h1,_,h2⟩
 ·simp only[idxI,h1];exact qxS _ _ _ ⟨h2,trivial⟩
 ·simp only[idxI,h1];exact qxR _ _ _ _ ⟨h2,trivial⟩
end Go.Proofs.YtdkobdhckkjmeaaGreat
