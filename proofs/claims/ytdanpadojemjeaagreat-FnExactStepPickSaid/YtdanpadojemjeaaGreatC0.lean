/- Small functions that many others call, and lemmas for loops. -/
import Derived.Test.YtdanpadojemjeaaGreatT2
import Derived.Test.YtdanpadojemjeaaGreatGN
import Derived.Sort.Statements
import Derived.Shelf.SlSortCmp.Insertion
set_option linter.unusedVariables false
set_option linter.unusedSimpArgs false
namespace Go.Proofs.YtdanpadojemjeaaGreat
open Go.Sx Go.RowKit Go.Proofs.Tryz
def inR(n lo hi:Int):Bool:=decide (lo≤n∧n≤hi)
theorem qbf(n lo hi:Int):Rt 137 [.one (I n),.one (I lo),.one (I hi)] [.one (B (inR n lo hi))]:=by
 by_cases h:lo≤n
 ·have e:inR n lo hi=decide (n≤hi):=by simp[inR,h]
  rw[e];exact qwk ⟨by simp only[zi];omega,trivial⟩
 ·rw[show inR n lo hi=false by simp[inR,h]];exact qwl ⟨by simp only[zf];omega,trivial⟩
theorem qaK(n lo hi:Int)(r:Bool)(h:inR n lo hi=r):Rt 137 [.one (I n),.one (I lo),.one (I hi)] [.one (B r)]:=h▸qbf n lo hi
theorem qbB(n lo hi:Int):Rt 81 [.one (I n),.one (I lo),.one (I hi)] [.one (B (inR n lo hi))]:=by
 by_cases h:lo≤n
 ·have e:inR n lo hi=decide (n≤hi):=by simp[inR,h]
  rw[e];exact qwi ⟨by simp only[zi];omega,trivial⟩
 ·rw[show inR n lo hi=false by simp[inR,h]];exact qwj ⟨by simp only[zf];omega,trivial⟩
theorem qaY(n lo hi:Int)(r:Bool)(h:inR n lo hi=r):Rt 81 [.one (I n),.one (I lo),.one (I hi)] [.one (B r)]:=h▸qbB n lo hi
theorem Record.flat(r:Record):∀d∈r.e,∃x,d=.v x:=by
 intro d hd
 simp only[Record.e,zL,zbt,or_false]at hd
 rcases hd with rfl | rfl | rfl | rfl | rfl<;>exact⟨_,rfl⟩
theorem Cell.flat(r:Cell):∀d∈r.e,∃x,d=.v x:=by
 intro d hd
 simp only[Cell.e,zL,zbt,or_false]at hd
 rcases hd with rfl | rfl | rfl | rfl<;>exact⟨_,rfl⟩
theorem Pick.flat(r:Pick):∀d∈r.e,∃x,d=.v x:=by
 intro d hd
 simp only[Pick.e,zL,zbt,or_false]at hd
 rcases hd with rfl | rfl | rfl<;>exact⟨_,rfl⟩
theorem Stamp.flat(r:Stamp):∀d∈r.e,∃x,d=.v x:=by
 intro d hd
 simp only[Stamp.e,zL,zbt,or_false]at hd
 rcases hd with rfl | rfl<;>exact⟨_,rfl⟩
theorem qhV{α:Type}(p:α→Bool)(xs:List α)(i:Nat):((xs.take i).filter p).length≤i:=
 zcd (zax ..) (by simp;omega)
theorem qkd(a r:Cell):(a.op==r.op&&(a.epoch==r.epoch&&(a.key==r.key&&a.val==r.val)))=decide (a=r):=by
 obtain⟨o,e,k,v⟩:=a
 obtain⟨o',e',k',v'⟩:=r
 rw[Bool.eq_iff_iff]
 simp only[zj,zF,zi,Cell.mk.injEq]
theorem qn5(a r:Cell):(r.op==a.op&&(r.epoch==a.epoch&&(r.key==a.key&&r.val==a.val)))=decide (a=r):=by
 rw[qkd r a]
 exact decide_eq_decide.2 ⟨Eq.symm,Eq.symm⟩
theorem tr_to{P:Program}{c:Code}{st:St}{e:Ex}{α:Type}(f:α→St){l l':α}(h:Tr P c st e (f l))(hl:l=l'):Tr P c st e (f l'):=hl▸h
theorem qyr{P:Program}{f:Nat}{args:List AD}{k:Nat}{l l':List (List D)}(h:Ret P f args [.one (.sl k l)])(hl:l=l'):Ret P f args [.one (.sl k l')]:=hl▸h
theorem dT{p:Prop}[Decidable p](h:p):decide p=true:=zav h
theorem dF{p:Prop}[Decidable p](h:¬p):decide p=false:=zv h
end Go.Proofs.YtdanpadojemjeaaGreat
namespace Go.Proofs.YtdanpadojemjeaaGreat
open Go.Sx Go.RowKit Go.Proofs.Tryz
def ord3(a b:Int):Int:=if a<b then -1 else if b<a then 1 else 0
def lexN(l:List Int):Int:=(l.find? (· != 0)).getD 0
theorem qhW(a b:Int):Rt 250 [.one (I a),.one (I b)] [.one (I (ord3 a b))]:=by
 unfold ord3
 by_cases h:a<b
 ·rw[zq h];exact qwm ⟨dT h,trivial⟩
 ·rw[zo h]
  by_cases h2:b<a
  ·rw[zq h2];exact qwn ⟨dF h,dT h2,trivial⟩
  ·rw[zo h2];exact qwo ⟨dF h,dF h2,trivial⟩
theorem qn6(a:Int):Rt 264 [.one (I a)] [.one (B false)]:=by
 have:=qwp a trivial
 simpa using this
theorem qn7(a b:Int):Rt 261 [.one (I a),.one (I b)] [.one (I (ord3 a b))]:=by
 have x:=qn6 a
 have y:=qn6 b
 unfold ord3
 by_cases h:a<b
 ·rw[zq h];exact qwq ⟨x,y,rfl,rfl,dT h,trivial⟩
 ·rw[zo h]
  by_cases h2:b<a
  ·rw[zq h2];exact qwr ⟨x,y,rfl,rfl,dF h,dT h2,trivial⟩
  ·rw[zo h2];exact qws ⟨x,y,rfl,rfl,dF h,dF h2,trivial⟩
theorem qn8{xs ys:List Int}{i:Nat}{d:Int}(h:(List.zipWith ord3 xs ys)[i]?=some d):∃a b,xs[i]?=some a∧ys[i]?=some b∧ord3 a b=d:=by
 rw[List.getElem?_zipWith]at h
 cases h1:xs[i]? with
 | none=>simp[h1]at h
 | some a=>
  cases h2:ys[i]? with
  | none=>simp[h1,h2]at h
  | some b=>exact⟨a,b,rfl,rfl,by simpa[h1,h2]using h⟩
theorem qys(xs ys:List Int)(hl:xs.length=ys.length)(hm:xs.length≤8388608):Rt 254 [.one (.sl 1 (xs.map eI)),.one (.sl 1 (ys.map eI))] [.one (I (lexN (List.zipWith ord3 xs ys)))]:=by
 have hz:(List.zipWith ord3 xs ys).length=xs.length:=by simp[hl]
 have l:=qaT (P:=prog) (c:=(qaa f254 0)) (List.zipWith ord3 xs ys) (fun d=>d != 0) (fun i=>qeA (xs.map eI) (ys.map eI) i) (X:=fun _ d=>qj3 d) qav (qaf 0)
  (fun i d hd h=>by
   obtain⟨a,b,ha,hb,rfl⟩:=qn8 hd
   exact qwu ⟨lt1 (lt_of ha),lt0,lt2 (lt_of ha),qac eI ha,dF (by have:=lt_of hb;simp;omega),lt0,lt2 (lt_of hb),qac eI hb,qn7 a b,h,up1 (lt_of ha) hm,trivial⟩)
  (fun i d hd h=>by
   obtain⟨a,b,ha,hb,rfl⟩:=qn8 hd
   exact qwt ⟨lt1 (lt_of ha),lt0,lt2 (lt_of ha),qac eI ha,dF (by have:=lt_of hb;simp;omega),lt0,lt2 (lt_of hb),qac eI hb,qn7 a b,h,trivial⟩)
  (by rw[hz];exact qwv ⟨ge1,trivial⟩)
 unfold lexN
 rcases l with⟨h1,_,_,h2⟩ | ⟨i,a,_,_,h1,_,_,h2⟩
 ·rw[h1];exact qwx ⟨h2,by simp[hl],trivial⟩
 ·rw[h1];exact qww ⟨h2,trivial⟩
theorem qyt(xs ys:List Int)(hl:xs.length=ys.length)(hm:xs.length≤8388608):Rt 246 [.one (.sl 1 (xs.map eI)),.one (.sl 1 (ys.map eI))] [.one (I (lexN (List.zipWith ord3 xs ys)))]:=
 qwy ⟨qys xs ys hl hm,trivial⟩
def qa9(a b:Cell):Int:=lexN [ord3 a.epoch b.epoch,ord3 a.op b.op,ord3 a.key b.key,ord3 a.val b.val]
theorem qhX(a b:Cell):Rt 230 [.agg a.e,.agg b.e] [.one (I (qa9 a b))]:=
 qxd ⟨qyt [a.epoch,a.op,a.key,a.val] [b.epoch,b.op,b.key,b.val] rfl (by simp),trivial⟩
theorem qhY(a b:Cell):Rt 243 [.agg a.e,.agg b.e] [.one (I (qa9 a b))]:=by
 have o1:=qhW a.epoch b.epoch
 have o2:=qhW a.op b.op
 have o3:=qhW a.key b.key
 have o4:=qhW a.val b.val
 unfold qa9
 generalize ord3 a.epoch b.epoch=x1 at*
 generalize ord3 a.op b.op=x2 at*
 generalize ord3 a.key b.key=x3 at*
 generalize ord3 a.val b.val=x4 at*
 have l:=qaT (P:=prog) (c:=(qaa f243 0)) [x1,x2,x3,x4] (fun d=>d != 0) (fun i=>qeK x1 x2 x3 x4 i) (X:=fun _ d=>qkb d) qav (qaf 0)
  (fun i d hd h=>qxM ⟨dT (by have:=lt_of hd;simp at this;omega),lt0,by have:=lt_of hd;simp at this ⊢;omega,qac eI hd,h,⟨by omega,by have:=lt_of hd;simp at this;omega⟩,trivial⟩)
  (fun i d hd h=>qxL ⟨dT (by have:=lt_of hd;simp at this;omega),lt0,by have:=lt_of hd;simp at this ⊢;omega,qac eI hd,h,lt0,by have:=lt_of hd;simp at this ⊢;omega,qac eI hd,trivial⟩)
  (qxN ⟨rfl,trivial⟩)
 unfold lexN
 rcases l with⟨h1,_,_,h2⟩ | ⟨i,a,_,_,h1,_,_,h2⟩
 ·rw[h1];exact qxP ⟨o1,o2,o3,o4,h2,trivial⟩
 ·rw[h1];exact qxO ⟨o1,o2,o3,o4,h2,trivial⟩
end Go.Proofs.YtdanpadojemjeaaGreat
namespace Go.Proofs.YtdanpadojemjeaaGreat
open Go.Sx Go.RowKit Go.Sort Go.Proofs.Tryz
def cmpL(u v:List Int):Int:=lexN (List.zipWith ord3 u v)
theorem qyu(d:Int)(l:List Int):lexN (d::l)=if d=0 then lexN l else d:=by
 unfold lexN
 by_cases h:d=0
 ·simp[h]
 ·simp[h]
theorem qyv(a b:Int)(u v:List Int):cmpL (a::u) (b::v)=if a=b then cmpL u v else ord3 a b:=by
 unfold cmpL
 rw[List.zipWith_cons_cons,qyu]
 have:ord3 a b=0↔a=b:=by unfold ord3;split<;>(try split)<;>constructor<;>intro h<;>omega
 by_cases h:a=b
 ·rw[zq (this.2 h),zq h]
 ·rw[zo (fun e=>h (this.1 e)),zo h]
theorem qn9(a b:Int)(u v:List Int):cmpL (a::u) (b::v)<0↔a<b∨(a=b∧cmpL u v<0):=by
 rw[qyv]
 split
 ·constructor
  ·intro h;exact .inr ⟨‹_›,h⟩
  ·rintro (h | h)
   ·omega
   ·exact h.2
 ·unfold ord3
  split<;>(try split)<;>constructor<;>intro h<;>omega
theorem qoa:∀(u v w:List Int),u.length=v.length→v.length=w.length→cmpL u v<0→cmpL v w<0→cmpL u w<0
 | [],[],[],_,_,h,_=>h
 | a::u,b::v,c::w,h1,h2,h3,h4=>by
  rw[qn9] at*
  have:=qoa u v w (by simpa using h1) (by simpa using h2)
  omega
theorem qob:∀(u v:List Int),u.length=v.length→¬cmpL u v<0→¬cmpL v u<0→u=v
 | [],[],_,_,_=>rfl
 | a::u,b::v,h1,h3,h4=>by
  rw[qn9]at h3 h4
  have hab:a=b:=by omega
  subst hab
  rw[qob u v (by simpa using h1) (by omega) (by omega)]
section
variable {α : Type}
abbrev SortedL(lt:α→α→Bool)(S:List α):Prop:=S.Pairwise fun a b=>(!lt b a)=true
end
end Go.Proofs.YtdanpadojemjeaaGreat
namespace Go.Proofs.YtdanpadojemjeaaGreat
open Go.Sx Go.RowKit Go.Proofs.Tryz
def qcz(e:Int)(xs:List Record):List Record:=xs.filter fun r=>r.stamp.epoch==e
theorem qoc(xs:List Record)(e:Int)(hl:xs.length≤8388608):Rt 233 [.one (.sl 5 (xs.map Record.e)),.one (I e)] [.one (.sl 5 ((qcz e xs).map Record.e))]:=by
 let p:=fun r:Record=>r.stamp.epoch==e
 have l:=qat (P:=prog) (c:=(qaa f233 0)) (qaf 0) xs.length (fun i:Nat=>qeB (xs.map Record.e) e i (((xs.take i).filter p).map Record.e)) (fun i hi=>by
  obtain⟨a,ha⟩:=qah hi
  have hf:=qhV p xs i
  have hs:=qgu p ha
  by_cases hp:p a=true
  ·rw[zq hp]at hs
   rw[hs,zai]
   exact qwz ⟨lt1 hi,lt0,lt2 hi,qac Record.e ha,hp,lt0,lt2 hi,qac Record.e ha,by simp;omega,by simp;omega,qas a.flat,up1 hi hl,trivial⟩
  ·rw[zo hp,zbe]at hs
   rw[hs]
   exact qwA ⟨lt1 hi,lt0,lt2 hi,qac Record.e ha,zQ.2 hp,up1 hi hl,trivial⟩) (qwB ⟨ge1,trivial⟩)
 rw[zG]at l
 exact qwC ⟨l,trivial⟩
theorem qod(xs:List Record)(e:Int)(hl:xs.length≤8388608):Rt 174 [.one (.sl 5 (xs.map Record.e)),.one (I e)] [.one (.sl 5 ((qcz e xs).map Record.e))]:=by
 let p:=fun r:Record=>r.stamp.epoch==e
 have l:=qat (P:=prog) (c:=(qaa f174 0)) (qaf 0) xs.length (fun i:Nat=>qeC (xs.map Record.e) e i (((xs.take i).filter p).map Record.e)) (fun i hi=>by
  obtain⟨a,ha⟩:=qah hi
  have hf:=qhV p xs i
  have hs:=qgu p ha
  by_cases hp:p a=true
  ·rw[zq hp]at hs
   rw[hs,zai]
   exact qwD ⟨lt1 hi,lt0,lt2 hi,qac Record.e ha,hp,by simp;omega,by simp;omega,qas a.flat,up1 hi hl,trivial⟩
  ·rw[zo hp,zbe]at hs
   rw[hs]
   exact qwE ⟨lt1 hi,lt0,lt2 hi,qac Record.e ha,zQ.2 hp,up1 hi hl,trivial⟩) (qwF ⟨ge1,trivial⟩)
 rw[zG]at l
 exact qwG ⟨l,trivial⟩
end Go.Proofs.YtdanpadojemjeaaGreat
namespace Go.Proofs.YtdanpadojemjeaaGreat
open Go.Sx Go.RowKit Go.Proofs.Tryz
def idxI{α:Type}(p:α→Bool)(xs:List α):Int:=match xs.findIdx? p with | some i=>i | none=>-1
theorem qoe{α:Type}(p:α→Bool)(xs:List α):decide (idxI p xs≥0)=xs.any p:=by
 unfold idxI
 cases h:xs.findIdx? p with
 | none=>
  have:xs.any p=false:=by
   rw[zO]
   rw[zbr]at h
   exact fun a ha=>by simp[h a ha]
  rw[this];rfl
 | some i=>
  rw[zad]at h
  obtain⟨hi,h2,_⟩:=h
  have:xs.any p=true:=zci.2 ⟨_,zat hi,h2⟩
  rw[this];simp
theorem qyw(xs:List Record)(p:Record→Bool)(g:Nat)(caps:List D)(hl:xs.length≤8388608)(hc:qa6 prog g=true)(hp:∀x∈xs,Rt g ([.agg x.e]++caps.map .one) [.one (B (p x))]):
  Rt 234 [.one (.sl 5 (xs.map Record.e)),.one (.cl g caps)] [.one (I (idxI p xs))]:=by
 have hp':∀x∈xs,∀r,p x=r→Rt g ([.agg x.e]++caps.map .one) [.one (B r)]:=fun x hx r h=>h▸hp x hx
 have l:=qaT (P:=prog) (c:=(qaa f234 0)) xs p (fun i=>qeE (xs.map Record.e) g caps i) (X:=fun i _=>qj5 i) qav (qaf 0)
  (fun i a ha h=>qwQ _ _ _ _ _ _ _ _ _ _ ⟨lt1 (lt_of ha),lt0,lt2 (lt_of ha),qac Record.e ha,hc,hp' a (qaq ha) false h,rfl,up1 (lt_of ha) hl,trivial⟩)
  (fun i a ha h=>qwP _ _ _ _ _ _ _ _ _ _ ⟨lt1 (lt_of ha),lt0,lt2 (lt_of ha),qac Record.e ha,hc,hp' a (qaq ha) true h,rfl,trivial⟩)
  (qwR _ _ _ _ ⟨ge1,trivial⟩)
 rcases l with⟨_,h1,_,h2⟩ | ⟨i,a,_,_,_,h1,_,h2⟩
 ·simp only[idxI,h1]
  exact qwT _ _ _ ⟨h2,trivial⟩
 ·simp only[idxI,h1]
  exact qwS _ _ _ _ ⟨h2,trivial⟩
theorem qyx(xs:List Record)(p:Record→Bool)(g:Nat)(caps:List D)(hl:xs.length≤8388608)(hc:qa6 prog g=true)(hp:∀x∈xs,Rt g ([.agg x.e]++caps.map .one) [.one (B (p x))]):
  Rt 207 [.one (.sl 5 (xs.map Record.e)),.one (.cl g caps)] [.one (B (xs.any p))]:=by
 rw[←qoe]
 exact qw9 _ _ _ _ ⟨qyw xs p g caps hl hc hp,trivial⟩
theorem qyy(xs:List Done)(p:Done→Bool)(g:Nat)(caps:List D)(hl:xs.length≤8388608)(hc:qa6 prog g=true)(hp:∀x∈xs,Rt g ([.agg x.e]++caps.map .one) [.one (B (p x))]):
  Rt 231 [.one (.sl 2 (xs.map Done.e)),.one (.cl g caps)] [.one (I (idxI p xs))]:=by
 have hp':∀x∈xs,∀r,p x=r→Rt g ([.agg x.e]++caps.map .one) [.one (B r)]:=fun x hx r h=>h▸hp x hx
 have l:=qaT (P:=prog) (c:=(qaa f231 0)) xs p (fun i=>qeF (xs.map Done.e) g caps i) (X:=fun i _=>qj6 i) qav (qaf 0)
  (fun i a ha h=>qwV _ _ _ _ _ _ _ ⟨lt1 (lt_of ha),lt0,lt2 (lt_of ha),qac Done.e ha,hc,hp' a (qaq ha) false h,rfl,up1 (lt_of ha) hl,trivial⟩)
  (fun i a ha h=>qwU _ _ _ _ _ _ _ ⟨lt1 (lt_of ha),lt0,lt2 (lt_of ha),qac Done.e ha,hc,hp' a (qaq ha) true h,rfl,trivial⟩)
  (qwW _ _ _ _ ⟨ge1,trivial⟩)
 rcases l with⟨_,h1,_,h2⟩ | ⟨i,a,_,_,_,h1,_,h2⟩
 ·simp only[idxI,h1]
  exact qwY _ _ _ ⟨h2,trivial⟩
 ·simp only[idxI,h1]
  exact qwX _ _ _ _ ⟨h2,trivial⟩
theorem qyz(xs:List Done)(p:Done→Bool)(g:Nat)(caps:List D)(hl:xs.length≤8388608)(hc:qa6 prog g=true)(hp:∀x∈xs,Rt g ([.agg x.e]++caps.map .one) [.one (B (p x))]):
  Rt 201 [.one (.sl 2 (xs.map Done.e)),.one (.cl g caps)] [.one (B (xs.any p))]:=by
 rw[←qoe]
 exact qxa _ _ _ _ ⟨qyy xs p g caps hl hc hp,trivial⟩
theorem qyA(xs:List News)(p:News→Bool)(g:Nat)(caps:List D)(hl:xs.length≤8388608)(hc:qa6 prog g=true)(hp:∀x∈xs,Rt g ([.agg x.e]++caps.map .one) [.one (B (p x))]):
  Rt 62 [.one (.sl 3 (xs.map News.e)),.one (.cl g caps)] [.one (I (idxI p xs))]:=by
 have hp':∀x∈xs,∀r,p x=r→Rt g ([.agg x.e]++caps.map .one) [.one (B r)]:=fun x hx r h=>h▸hp x hx
 have l:=qaT (P:=prog) (c:=(qaa f62 0)) xs p (fun i=>qeG (xs.map News.e) g caps i) (X:=fun i _=>qj7 i) qav (qaf 0)
  (fun i a ha h=>qw0 _ _ _ _ _ _ _ _ ⟨lt1 (lt_of ha),lt0,lt2 (lt_of ha),qac News.e ha,hc,hp' a (qaq ha) false h,rfl,up1 (lt_of ha) hl,trivial⟩)
  (fun i a ha h=>qwZ _ _ _ _ _ _ _ _ ⟨lt1 (lt_of ha),lt0,lt2 (lt_of ha),qac News.e ha,hc,hp' a (qaq ha) true h,rfl,trivial⟩)
  (qw1 _ _ _ _ ⟨ge1,trivial⟩)
 rcases l with⟨_,h1,_,h2⟩ | ⟨i,a,_,_,_,h1,_,h2⟩
 ·simp only[idxI,h1]
  exact qw3 _ _ _ ⟨h2,trivial⟩
 ·simp only[idxI,h1]
  exact qw2 _ _ _ _ ⟨h2,trivial⟩
theorem qyB(xs:List Cell)(p:Cell→Bool)(g:Nat)(caps:List D)(hl:xs.length≤8388608)(hc:qa6 prog g=true)(hp:∀x∈xs,Rt g ([.agg x.e]++caps.map .one) [.one (B (p x))]):
  Rt 262 [.one (.sl 4 (xs.map Cell.e)),.one (.cl g caps)] [.one (I (idxI p xs))]:=by
 have hp':∀x∈xs,∀r,p x=r→Rt g ([.agg x.e]++caps.map .one) [.one (B r)]:=fun x hx r h=>h▸hp x hx
 have l:=qaT (P:=prog) (c:=(qaa f262 0)) xs p (fun i=>qeH (xs.map Cell.e) g caps i) (X:=fun i _=>qj8 i) qav (qaf 0)
  (fun i a ha h=>qw5 _ _ _ _ _ _ _ _ _ ⟨lt1 (lt_of ha),lt0,lt2 (lt_of ha),qac Cell.e ha,hc,hp' a (qaq ha) false h,rfl,up1 (lt_of ha) hl,trivial⟩)
  (fun i a ha h=>qw4 _ _ _ _ _ _ _ _ _ ⟨lt1 (lt_of ha),lt0,lt2 (lt_of ha),qac Cell.e ha,hc,hp' a (qaq ha) true h,rfl,trivial⟩)
  (qw6 _ _ _ _ ⟨ge1,trivial⟩)
 rcases l with⟨_,h1,_,h2⟩ | ⟨i,a,_,_,_,h1,_,h2⟩
 ·simp only[idxI,h1]
  exact qw8 _ _ _ ⟨h2,trivial⟩
 ·simp only[idxI,h1]
  exact qw7 _ _ _ _ ⟨h2,trivial⟩
end Go.Proofs.YtdanpadojemjeaaGreat
