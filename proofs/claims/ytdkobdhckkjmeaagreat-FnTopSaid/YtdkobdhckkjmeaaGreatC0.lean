/- Small functions that many others call, and lemmas for loops. -/
import Derived.Test.YtdkobdhckkjmeaaGreatT2
import Derived.Test.YtdkobdhckkjmeaaGreatGN
import Derived.Sort.Statements
import Derived.Shelf.SlSortCmp.Insertion
set_option linter.unusedVariables false
set_option linter.unusedSimpArgs false
namespace Go.Proofs.YtdkobdhckkjmeaaGreat
open Go.Sx Go.RowKit Go.Proofs.Tryz
def inR(n lo hi:Int):Bool:=decide (lo≤n∧n≤hi)
theorem qbo(n lo hi:Int):Rt 167 [.one (I n),.one (I lo),.one (I hi)] [.one (B (inR n lo hi))]:=by
 by_cases h:lo≤n
 ·have e:inR n lo hi=decide (n≤hi):=by simp[inR,h]
  rw[e];exact qwn ⟨by simp only[zi];omega,trivial⟩
 ·rw[show inR n lo hi=false by simp[inR,h]];exact qwo ⟨by simp only[zf];omega,trivial⟩
theorem qaK(n lo hi:Int)(r:Bool)(h:inR n lo hi=r):Rt 167 [.one (I n),.one (I lo),.one (I hi)] [.one (B r)]:=h▸qbo n lo hi
theorem qbN(n lo hi:Int):Rt 158 [.one (I n),.one (I lo),.one (I hi)] [.one (B (inR n lo hi))]:=by
 by_cases h:lo≤n
 ·have e:inR n lo hi=decide (n≤hi):=by simp[inR,h]
  rw[e];exact qwl ⟨by simp only[zi];omega,trivial⟩
 ·rw[show inR n lo hi=false by simp[inR,h]];exact qwm ⟨by simp only[zf];omega,trivial⟩
theorem qaO(n lo hi:Int)(r:Bool)(h:inR n lo hi=r):Rt 158 [.one (I n),.one (I lo),.one (I hi)] [.one (B r)]:=h▸qbN n lo hi
def qaU(n lo hi:Int):Int:=if hi<lo then lo else if n<lo then lo else if hi<n then hi else n
theorem qjr(n lo hi:Int):Rt 130 [.one (I n),.one (I lo),.one (I hi)] [.one (I (qaU n lo hi))]:=by
 unfold qaU;by_cases h1:hi<lo
 ·rw[zp h1];exact qvT ⟨by simpa using h1,trivial⟩
 rw[zo h1];by_cases h2:n<lo
 ·rw[zp h2];exact qvU ⟨by simpa using h1,by simpa using h2,trivial⟩
 rw[zo h2];by_cases h3:hi<n
 ·rw[zp h3];exact qvV ⟨by simpa using h1,by simpa using h2,by simpa using h3,trivial⟩
 ·rw[zo h3];exact qvW ⟨by simpa using h1,by simpa using h2,by simpa using h3,trivial⟩
theorem qme(n lo hi:Int):Rt 160 [.one (I n),.one (I lo),.one (I hi)] [.one (I (qaU n lo hi))]:=by
 unfold qaU;by_cases h1:hi<lo
 ·rw[zp h1];exact qvX ⟨by simpa using h1,trivial⟩
 rw[zo h1];by_cases h2:n<lo
 ·rw[zp h2];exact qvY ⟨by simpa using h1,by simpa using h2,trivial⟩
 rw[zo h2];exact qvZ ⟨by simpa using h1,by simpa using h2,trivial⟩
theorem Record.flat(r:Record):∀d∈r.e,∃x,d=.v x:=by
 intro d hd;simp only[Record.e,zL,zbu,or_false]at hd;rcases hd with rfl | rfl | rfl | rfl | rfl<;>exact⟨_,rfl⟩
theorem Cell.flat(r:Cell):∀d∈r.e,∃x,d=.v x:=by
 intro d hd;simp only[Cell.e,zL,zbu,or_false]at hd;rcases hd with rfl | rfl | rfl | rfl<;>exact⟨_,rfl⟩
theorem Pick.flat(r:Pick):∀d∈r.e,∃x,d=.v x:=by
 intro d hd;simp only[Pick.e,zL,zbu,or_false]at hd;rcases hd with rfl | rfl | rfl<;>exact⟨_,rfl⟩
theorem Stamp.flat(r:Stamp):∀d∈r.e,∃x,d=.v x:=by
 intro d hd;simp only[Stamp.e,zL,zbu,or_false]at hd;rcases hd with rfl | rfl<;>exact⟨_,rfl⟩
theorem qjs{α:Type}(p:α→Bool)(xs:List α)(i:Nat):((xs.take i).filter p).length≤i:=
 zce (zat ..) (by simp;omega)
theorem qmf(a r:Cell):(a.op==r.op&&(a.epoch==r.epoch&&(a.key==r.key&&a.val==r.val)))=decide (a=r):=by
 obtain⟨o,e,k,v⟩:=a;obtain⟨o',e',k',v'⟩:=r;rw[Bool.eq_iff_iff];simp only[zj,zE,zi,Cell.mk.injEq]
theorem qqi(a r:Cell):(r.op==a.op&&(r.epoch==a.epoch&&(r.key==a.key&&r.val==a.val)))=decide (a=r):=by
 rw[qmf r a];exact decide_eq_decide.2 ⟨Eq.symm,Eq.symm⟩
theorem tr_to{P:Program}{c:Code}{st:St}{e:Ex}{α:Type}(f:α→St){l l':α}(h:Tr P c st e (f l))(hl:l=l'):Tr P c st e (f l'):=hl▸h
theorem qxK{P:Program}{f:Nat}{args:List AD}{k:Nat}{l l':List (List D)}(h:Ret P f args [.one (.sl k l)])(hl:l=l'):Ret P f args [.one (.sl k l')]:=hl▸h
theorem qgh{α β:Type}(f:α→List β)(c:Nat)(h:∀a,(f a).length≤c):∀xs:List α,(xs.flatMap f).length≤xs.length*c
 | []=>by simp
 | a::xs=>by
  have h1:=h a;have h2:=qgh f c h xs;simp only[List.flatMap_cons,zab,zq,zR,Nat.one_mul];omega
theorem dT{p:Prop}[Decidable p](h:p):decide p=true:=zap h
theorem dF{p:Prop}[Decidable p](h:¬p):decide p=false:=zt h
end Go.Proofs.YtdkobdhckkjmeaaGreat
namespace Go.Proofs.YtdkobdhckkjmeaaGreat
open Go.Sx Go.RowKit Go.Proofs.Tryz
def ord3(a b:Int):Int:=if a<b then -1 else if b<a then 1 else 0
def lexN(l:List Int):Int:=(l.find? (· != 0)).getD 0
theorem qjt(a b:Int):Rt 322 [.one (I a),.one (I b)] [.one (I (ord3 a b))]:=by
 unfold ord3;by_cases h:a<b
 ·rw[zp h];exact qwp ⟨dT h,trivial⟩
 ·rw[zo h];by_cases h2:b<a
  ·rw[zp h2];exact qwq ⟨dF h,dT h2,trivial⟩
  ·rw[zo h2];exact qwr ⟨dF h,dF h2,trivial⟩
theorem qqp(a:Int):Rt 365 [.one (I a)] [.one (B false)]:=by
 have:=qws a trivial;simpa using this
theorem qqq(a b:Int):Rt 358 [.one (I a),.one (I b)] [.one (I (ord3 a b))]:=by
 have x:=qqp a;have y:=qqp b;unfold ord3;by_cases h:a<b
 ·rw[zp h];exact qwt ⟨x,y,rfl,rfl,dT h,trivial⟩
 ·rw[zo h];by_cases h2:b<a
  ·rw[zp h2];exact qwu ⟨x,y,rfl,rfl,dF h,dT h2,trivial⟩
  ·rw[zo h2];exact qwv ⟨x,y,rfl,rfl,dF h,dF h2,trivial⟩
theorem qqr{xs ys:List Int}{i:Nat}{d:Int}(h:(List.zipWith ord3 xs ys)[i]?=some d):∃a b,xs[i]?=some a∧ys[i]?=some b∧ord3 a b=d:=by
 rw[List.getElem?_zipWith]at h;cases h1:xs[i]? with
 | none=>simp[h1]at h
 | some a=>
  cases h2:ys[i]? with
  | none=>simp[h1,h2]at h
  | some b=>exact⟨a,b,rfl,rfl,by simpa[h1,h2]using h⟩
theorem qy1(xs ys:List Int)(hl:xs.length=ys.length)(hm:xs.length≤8388608):Rt 345 [.one (.sl 1 (xs.map eI)),.one (.sl 1 (ys.map eI))] [.one (I (lexN (List.zipWith ord3 xs ys)))]:=by
 have hz:(List.zipWith ord3 xs ys).length=xs.length:=by simp[hl]
 have l:=qaW (P:=prog) (c:=(qaa f345 0)) (List.zipWith ord3 xs ys) (fun d=>d != 0) (fun i=>qe2 (xs.map eI) (ys.map eI) i) (X:=fun _ d=>ql7 d) qaE (qaf 0)
  (fun i d hd h=>by
   obtain⟨a,b,ha,hb,rfl⟩:=qqr hd;exact qwx ⟨lt1 (lt_of ha),lt0,lt2 (lt_of ha),qac eI ha,dF (by have:=lt_of hb;simp;omega),lt0,lt2 (lt_of hb),qac eI hb,qqq a b,h,up1 (lt_of ha) hm,trivial⟩)
  (fun i d hd h=>by
   obtain⟨a,b,ha,hb,rfl⟩:=qqr hd;exact qww ⟨lt1 (lt_of ha),lt0,lt2 (lt_of ha),qac eI ha,dF (by have:=lt_of hb;simp;omega),lt0,lt2 (lt_of hb),qac eI hb,qqq a b,h,trivial⟩)
  (by rw[hz];exact qwy ⟨ge1,trivial⟩)
 unfold lexN;rcases l with⟨h1,_,_,h2⟩ | ⟨i,a,_,_,h1,_,_,h2⟩
 ·rw[h1];exact qwA ⟨h2,by simp[hl],trivial⟩
 ·rw[h1];exact qwz ⟨h2,trivial⟩
theorem qmk(xs ys:List Int)(hl:xs.length=ys.length)(hm:xs.length≤8388608):Rt 332 [.one (.sl 1 (xs.map eI)),.one (.sl 1 (ys.map eI))] [.one (I (lexN (List.zipWith ord3 xs ys)))]:=
 qwB ⟨qy1 xs ys hl hm,trivial⟩
def qbg(a b:Cell):Int:=lexN [ord3 a.epoch b.epoch,ord3 a.op b.op,ord3 a.key b.key,ord3 a.val b.val]
theorem qju(a b:Cell):Rt 313 [.agg a.e,.agg b.e] [.one (I (qbg a b))]:=
 qxN ⟨qmk [a.epoch,a.op,a.key,a.val] [b.epoch,b.op,b.key,b.val] rfl (by simp),trivial⟩
theorem qjv(a b:Cell):Rt 306 [.agg a.e,.agg b.e] [.one (I (qbg a b))]:=by
 have o1:=qjt a.epoch b.epoch;have o2:=qjt a.op b.op;have o3:=qjt a.key b.key;have o4:=qjt a.val b.val;unfold qbg;generalize ord3 a.epoch b.epoch=x1 at*;generalize ord3 a.op b.op=x2 at*;generalize ord3 a.key b.key=x3 at*;generalize ord3 a.val b.val=x4 at*;have l:=qaW (P:=prog) (c:=(qaa f306 0)) [x1,x2,x3,x4] (fun d=>d != 0) (fun i=>qfe x1 x2 x3 x4 i) (X:=fun _ d=>qmi d) qaE (qaf 0)
  (fun i d hd h=>qym ⟨dT (by have:=lt_of hd;simp at this;omega),lt0,by have:=lt_of hd;simp at this ⊢;omega,qac eI hd,h,⟨by omega,by have:=lt_of hd;simp at this;omega⟩,trivial⟩)
  (fun i d hd h=>qyl ⟨dT (by have:=lt_of hd;simp at this;omega),lt0,by have:=lt_of hd;simp at this ⊢;omega,qac eI hd,h,lt0,by have:=lt_of hd;simp at this ⊢;omega,qac eI hd,trivial⟩)
  (qyn ⟨rfl,trivial⟩)
 unfold lexN;rcases l with⟨h1,_,_,h2⟩ | ⟨i,a,_,_,h1,_,_,h2⟩
 ·rw[h1];exact qyp ⟨o1,o2,o3,o4,h2,trivial⟩
 ·rw[h1];exact qyo ⟨o1,o2,o3,o4,h2,trivial⟩
end Go.Proofs.YtdkobdhckkjmeaaGreat
namespace Go.Proofs.YtdkobdhckkjmeaaGreat
open Go.Sx Go.RowKit Go.Sort Go.Proofs.Tryz
def cmpL(u v:List Int):Int:=lexN (List.zipWith ord3 u v)
theorem qgj(d:Int)(l:List Int):lexN (d::l)=if d=0 then lexN l else d:=by
 unfold lexN;by_cases h:d=0
 ·simp[h]
 ·simp[h]
theorem qqs:∀(l1 l2:List Int),lexN (lexN l1::l2)=lexN (l1++l2)
 | [],l2=>by rw[qgj];simp[lexN]
 | d::l1,l2=>by
  rw[List.cons_append,qgj d (l1++l2),qgj d l1];by_cases h:d=0
  ·rw[zp h,zp h];exact qqs l1 l2
  ·rw[zo h,zo h,qgj,zo h]
theorem qy2(a b:Int)(u v:List Int):cmpL (a::u) (b::v)=if a=b then cmpL u v else ord3 a b:=by
 unfold cmpL;rw[List.zipWith_cons_cons,qgj];have:ord3 a b=0↔a=b:=by unfold ord3;split<;>(try split)<;>constructor<;>intro h<;>omega
 by_cases h:a=b
 ·rw[zp (this.2 h),zp h]
 ·rw[zo (fun e=>h (this.1 e)),zo h]
theorem qjw(a b:Int)(u v:List Int):cmpL (a::u) (b::v)<0↔a<b∨(a=b∧cmpL u v<0):=by
 rw[qy2];split
 ·constructor
  ·intro h;exact .inr ⟨‹_›,h⟩
  ·rintro (h | h)
   ·omega
   ·exact h.2
 ·unfold ord3;split<;>(try split)<;>constructor<;>intro h<;>omega
theorem qqt:∀u:List Int,¬cmpL u u<0
 | []=>by simp[cmpL,lexN]
 | a::u=>by rw[qjw];have:=qqt u;omega
theorem qml:∀(u v w:List Int),u.length=v.length→v.length=w.length→cmpL u v<0→cmpL v w<0→cmpL u w<0
 | [],[],[],_,_,h,_=>h
 | a::u,b::v,c::w,h1,h2,h3,h4=>by
  rw[qjw] at*;have:=qml u v w (by simpa using h1) (by simpa using h2);omega
theorem qqu:∀(u v w:List Int),u.length=v.length→v.length=w.length→¬cmpL u v<0→¬cmpL v w<0→¬cmpL u w<0
 | [],[],[],_,_,h,_=>h
 | a::u,b::v,c::w,h1,h2,h3,h4=>by
  rw[qjw] at*;have:=qqu u v w (by simpa using h1) (by simpa using h2);omega
theorem qmm:∀(u v:List Int),u.length=v.length→¬cmpL u v<0→¬cmpL v u<0→u=v
 | [],[],_,_,_=>rfl
 | a::u,b::v,h1,h3,h4=>by
  rw[qjw]at h3 h4;have hab:a=b:=by omega
  subst hab;rw[qmm u v (by simpa using h1) (by omega) (by omega)]
theorem qy3{α:Type}(key:α→List Int)(n:Nat)(hn:∀a,(key a).length=n):SWO (ltOf fun a b=>cmpL (key a) (key b)) where
 irrefl x:=by simp only[ltOf,zf];exact qqt _
 trans x y z h1 h2:=by
  simp only[ltOf,zi] at*;exact qml _ _ _ (by rw[hn,hn]) (by rw[hn,hn]) h1 h2
 ntrans x y z h1 h2:=by
  simp only[ltOf,zf] at*;exact qqu _ _ _ (by rw[hn,hn]) (by rw[hn,hn]) h1 h2
theorem qy4{α:Type}(key:α→List Int)(n:Nat)(hn:∀a,(key a).length=n)(hi:∀a b,key a=key b→a=b)(x y:α)(h1:(ltOf fun a b=>cmpL (key a) (key b)) x y=false)(h2:(ltOf fun a b=>cmpL (key a) (key b)) y x=false):x=y:=by
 simp only[ltOf,zf] at*;exact hi _ _ (qmm _ _ (by rw[hn,hn]) h1 h2)
section
variable {α : Type}
def plc(lt:α→α→Bool)(x:α)(S:List α):Nat→Nat
 | 0=>0
 | k+1=>match S[k]? with | some y=>if lt x y then plc lt x S k else k+1 | none=>k+1
def insR(lt:α→α→Bool)(S:List α)(x:α):List α:=S.take (plc lt x S S.length)++x::S.drop (plc lt x S S.length)
def sortI(lt:α→α→Bool)(xs:List α):List α:=xs.foldl (insR lt) []
theorem qqv(lt:α→α→Bool)(x:α)(S:List α):∀k,plc lt x S k≤k
 | 0=>zO _
 | k+1=>by
  simp only[plc];have:=qqv lt x S k;split
  ·split<;>omega
  ·omega
theorem qqw(lt:α→α→Bool)(x:α)(S:List α):∀k j y,plc lt x S k≤j→j<k→S[j]?=some y→lt x y=true
 | 0,j,y,_,h,_=>by omega
 | k+1,j,y,h1,h2,hy=>by
  simp only[plc]at h1;split at h1
  ·rename_i z hz;split at h1
   ·rename_i hl;by_cases e:j=k
    ·subst e;rw[hz]at hy;cases hy;exact hl
    ·exact qqw lt x S k j y h1 (by omega) hy
   ·omega
  ·omega
theorem qqx(lt:α→α→Bool)(x:α)(S:List α):∀k y,0<plc lt x S k→S[plc lt x S k-1]?=some y→lt x y=false
 | 0,y,h,_=>by simp[plc]at h
 | k+1,y,h,hy=>by
  simp only[plc]at h hy;split at h
  ·rename_i z hz;simp only[hz]at hy;split at h
   ·rename_i hl;rw[zp hl]at hy;exact qqx lt x S k y h hy
   ·rename_i hl;rw[zo hl,Nat.add_sub_cancel,hz]at hy;cases hy;simpa using hl
  ·rename_i hz;simp only[hz]at hy;rw[Nat.add_sub_cancel,hz]at hy;cases hy
theorem qqy(lt:α→α→Bool)(S:List α)(x:α):(insR lt S x).Perm (x::S):=by
 unfold insR;refine (List.perm_middle).trans ?_;rw[zcb]
theorem qy5(lt:α→α→Bool)(S:List α)(x:α):(insR lt S x).length=S.length+1:=(qqy lt S x).length_eq
abbrev SortedL(lt:α→α→Bool)(S:List α):Prop:=S.Pairwise fun a b=>(!lt b a)=true
theorem qy6{lt:α→α→Bool}(hO:SWO lt){S:List α}(hS:SortedL lt S)(x:α):SortedL lt (insR lt S x):=by
 have asym:∀a b,lt a b=true→lt b a=false:=by
  intro a b h;cases h2:lt b a with
  | false=>rfl
  | true=>have:=hO.trans _ _ _ h h2;rw[hO.irrefl]at this;cases this
 unfold insR;obtain⟨p,hp⟩:∃p,p=plc lt x S S.length:=⟨_,rfl⟩
 have hple:=qqv lt x S S.length;have habove:=qqw lt x S S.length;have hbelow:=qqx lt x S S.length;rw[←hp]at hple habove hbelow ⊢;have h0:S.take p++S.drop p=S:=zcb _ _;have hS2:=hS;unfold SortedL at hS2;rw[←h0,List.pairwise_append]at hS2;obtain⟨h1,h2,h3⟩:=hS2;have hxd:∀b∈S.drop p,lt x b=true:=by
  intro b hb;obtain⟨j,hj⟩:=zak.1 hb;rw[zA]at hj;exact habove (p+j) b (by omega) (zk.1 hj).1 hj
 have hax:∀a∈S.take p,lt x a=false:=by
  intro a ha;obtain⟨j,hj⟩:=zak.1 ha;rw[zF]at hj;split at hj
  ·rename_i hjp;have hpl:p-1<S.length:=by omega
   have hb:=hbelow S[p-1] (by omega) (zu hpl);by_cases e:j=p-1
   ·subst e;rw[zu hpl]at hj;cases hj;exact hb
   ·have hjl:j<S.length:=by omega
    have:=List.pairwise_iff_getElem.1 hS j (p-1) hjl hpl (by omega);rw[zu hjl]at hj;cases hj;exact hO.ntrans _ _ _ hb (by simpa using this)
  ·cases hj
 unfold SortedL;rw[List.pairwise_append];refine⟨h1,List.pairwise_cons.2 ⟨fun b hb=>by simp[asym _ _ (hxd b hb)],h2⟩,fun a ha b hb=>?_⟩;rcases zL.1 hb with rfl | hb
 ·simp[hax a ha]
 ·exact h3 a ha b hb
theorem qmn{lt:α→α→Bool}(hO:SWO lt):∀(xs S:List α),SortedL lt S→SortedL lt (xs.foldl (insR lt) S)∧(xs.foldl (insR lt) S).Perm (S++xs)
 | [],S,h=>⟨h,by simp⟩
 | x::xs,S,h=>by
  obtain⟨h1,h2⟩:=qmn hO xs (insR lt S x) (qy6 hO h x);refine⟨h1,h2.trans ?_⟩;refine ((qqy lt S x).append_right xs).trans ?_;exact (List.perm_middle (l₁:=S) (a:=x) (l₂:=xs)).symm
theorem qy7{lt:α→α→Bool}(hO:SWO lt)(hT:∀x y,lt x y=false→lt y x=false→x=y)(xs:List α):sortI lt xs=xs.mergeSort fun x y=>!lt y x:=by
 obtain⟨h1,h2⟩:=qmn hO xs [] List.Pairwise.nil;refine List.Perm.eq_of_pairwise (le:=fun x y=>(!lt y x)=true) ?_ h1 ?_ ((show (sortI lt xs).Perm xs from h2).trans (List.mergeSort_perm _ _).symm)
 ·intro a b _ _ h3 h4;simp only[zS]at h3 h4;exact hT a b h4 h3
 ·refine List.pairwise_mergeSort (le:=fun x y=>!lt y x) ?_ ?_ xs
  ·intro a b c h3 h4;simp only[zS]at h3 h4 ⊢;exact hO.ntrans _ _ _ h4 h3
  ·intro a b;simp only[zbi,zS];cases h3:lt b a with
   | false=>exact .inl rfl
   | true=>
    right;cases h4:lt a b with
    | false=>rfl
    | true=>have:=hO.trans _ _ _ h3 h4;rw[hO.irrefl]at this;cases this
theorem qqz(lt:α→α→Bool):∀(xs S:List α),(xs.foldl (insR lt) S).length=S.length+xs.length
 | [],S=>rfl
 | x::xs,S=>by
  rw[List.foldl_cons,qqz lt xs,qy5,zq];omega
end
end Go.Proofs.YtdkobdhckkjmeaaGreat
namespace Go.Proofs.YtdkobdhckkjmeaaGreat
open Go.Sx Go.RowKit Go.Proofs.Tryz
def idxI{α:Type}(p:α→Bool)(xs:List α):Int:=match xs.findIdx? p with | some i=>i | none=>-1
theorem qjz{α:Type}(p:α→Bool)(xs:List α):decide (idxI p xs≥0)=xs.any p:=by
 unfold idxI;cases h:xs.findIdx? p with
 | none=>
  have:xs.any p=false:=by
   rw[zP];rw[zbs]at h;exact fun a ha=>by simp[h a ha]
  rw[this];rfl
 | some i=>
  rw[zai]at h;obtain⟨hi,h2,_⟩:=h;have:xs.any p=true:=zcj.2 ⟨_,zax hi,h2⟩;rw[this];simp
theorem qzo(xs:List Worker)(p:Worker→Bool)(g:Nat)(caps:List D)(hl:xs.length≤8388608)(hc:qaT prog g=true)(hp:∀x∈xs,Rt g ([.agg x.e]++caps.map .one) [.one (B (p x))]):
  Rt 298 [.one (.sl 8 (xs.map Worker.e)),.one (.cl g caps)] [.one (I (idxI p xs))]:=by
 have hp':∀x∈xs,∀r,p x=r→Rt g ([.agg x.e]++caps.map .one) [.one (B r)]:=fun x hx r h=>h▸hp x hx
 have l:=qaW (P:=prog) (c:=(qaa f298 0)) xs p (fun i=>qe7 (xs.map Worker.e) g caps i) (X:=fun i _=>ql9 i) qaE (qaf 0)
  (fun i a ha h=>qxi _ _ _ _ _ _ _ _ _ _ _ _ _ ⟨lt1 (lt_of ha),lt0,lt2 (lt_of ha),qac Worker.e ha,hc,hp' a (qag ha) false h,rfl,up1 (lt_of ha) hl,trivial⟩)
  (fun i a ha h=>qxh _ _ _ _ _ _ _ _ _ _ _ _ _ ⟨lt1 (lt_of ha),lt0,lt2 (lt_of ha),qac Worker.e ha,hc,hp' a (qag ha) true h,rfl,trivial⟩)
  (qxj _ _ _ _ ⟨ge1,trivial⟩)
 rcases l with⟨_,h1,_,h2⟩ | ⟨i,a,_,_,_,h1,_,h2⟩
 ·simp only[idxI,h1];exact qxl _ _ _ ⟨h2,trivial⟩
 ·simp only[idxI,h1];exact qxk _ _ _ _ ⟨h2,trivial⟩
theorem qzp(xs:List Worker)(p:Worker→Bool)(g:Nat)(caps:List D)(hl:xs.length≤8388608)(hc:qaT prog g=true)(hp:∀x∈xs,Rt g ([.agg x.e]++caps.map .one) [.one (B (p x))]):
  Rt 218 [.one (.sl 8 (xs.map Worker.e)),.one (.cl g caps)] [.one (B (xs.any p))]:=by
 rw[←qjz];exact qxG _ _ _ _ ⟨qzo xs p g caps hl hc hp,trivial⟩
theorem qzq(xs:List Record)(p:Record→Bool)(g:Nat)(caps:List D)(hl:xs.length≤8388608)(hc:qaT prog g=true)(hp:∀x∈xs,Rt g ([.agg x.e]++caps.map .one) [.one (B (p x))]):
  Rt 311 [.one (.sl 5 (xs.map Record.e)),.one (.cl g caps)] [.one (I (idxI p xs))]:=by
 have hp':∀x∈xs,∀r,p x=r→Rt g ([.agg x.e]++caps.map .one) [.one (B r)]:=fun x hx r h=>h▸hp x hx
 have l:=qaW (P:=prog) (c:=(qaa f311 0)) xs p (fun i=>qe8 (xs.map Record.e) g caps i) (X:=fun i _=>qma i) qaE (qaf 0)
  (fun i a ha h=>qxn _ _ _ _ _ _ _ _ _ _ ⟨lt1 (lt_of ha),lt0,lt2 (lt_of ha),qac Record.e ha,hc,hp' a (qag ha) false h,rfl,up1 (lt_of ha) hl,trivial⟩)
  (fun i a ha h=>qxm _ _ _ _ _ _ _ _ _ _ ⟨lt1 (lt_of ha),lt0,lt2 (lt_of ha),qac Record.e ha,hc,hp' a (qag ha) true h,rfl,trivial⟩)
  (qxo _ _ _ _ ⟨ge1,trivial⟩)
 rcases l with⟨_,h1,_,h2⟩ | ⟨i,a,_,_,_,h1,_,h2⟩
 ·simp only[idxI,h1];exact qxq _ _ _ ⟨h2,trivial⟩
 ·simp only[idxI,h1];exact qxp _ _ _ _ ⟨h2,trivial⟩
theorem qqH(xs:List Record)(p:Record→Bool)(g:Nat)(caps:List D)(hl:xs.length≤8388608)(hc:qaT prog g=true)(hp:∀x∈xs,Rt g ([.agg x.e]++caps.map .one) [.one (B (p x))]):
  Rt 266 [.one (.sl 5 (xs.map Record.e)),.one (.cl g caps)] [.one (B (xs.any p))]:=by
 rw[←qjz];exact qxH _ _ _ _ ⟨qzq xs p g caps hl hc hp,trivial⟩
theorem qzr(xs:List Done)(p:Done→Bool)(g:Nat)(caps:List D)(hl:xs.length≤8388608)(hc:qaT prog g=true)(hp:∀x∈xs,Rt g ([.agg x.e]++caps.map .one) [.one (B (p x))]):
  Rt 339 [.one (.sl 2 (xs.map Done.e)),.one (.cl g caps)] [.one (I (idxI p xs))]:=by
 have hp':∀x∈xs,∀r,p x=r→Rt g ([.agg x.e]++caps.map .one) [.one (B r)]:=fun x hx r h=>h▸hp x hx
 have l:=qaW (P:=prog) (c:=(qaa f339 0)) xs p (fun i=>qe9 (xs.map Done.e) g caps i) (X:=fun i _=>qmb i) qaE (qaf 0)
  (fun i a ha h=>qxs _ _ _ _ _ _ _ ⟨lt1 (lt_of ha),lt0,lt2 (lt_of ha),qac Done.e ha,hc,hp' a (qag ha) false h,rfl,up1 (lt_of ha) hl,trivial⟩)
  (fun i a ha h=>qxr _ _ _ _ _ _ _ ⟨lt1 (lt_of ha),lt0,lt2 (lt_of ha),qac Done.e ha,hc,hp' a (qag ha) true h,rfl,trivial⟩)
  (qxt _ _ _ _ ⟨ge1,trivial⟩)
 rcases l with⟨_,h1,_,h2⟩ | ⟨i,a,_,_,_,h1,_,h2⟩
 ·simp only[idxI,h1];exact qxv _ _ _ ⟨h2,trivial⟩
 ·simp only[idxI,h1];exact qxu _ _ _ _ ⟨h2,trivial⟩
theorem qzs(xs:List Done)(p:Done→Bool)(g:Nat)(caps:List D)(hl:xs.length≤8388608)(hc:qaT prog g=true)(hp:∀x∈xs,Rt g ([.agg x.e]++caps.map .one) [.one (B (p x))]):
  Rt 317 [.one (.sl 2 (xs.map Done.e)),.one (.cl g caps)] [.one (B (xs.any p))]:=by
 rw[←qjz];exact qxI _ _ _ _ ⟨qzr xs p g caps hl hc hp,trivial⟩
theorem qqI(xs:List News)(p:News→Bool)(g:Nat)(caps:List D)(hl:xs.length≤8388608)(hc:qaT prog g=true)(hp:∀x∈xs,Rt g ([.agg x.e]++caps.map .one) [.one (B (p x))]):
  Rt 259 [.one (.sl 3 (xs.map News.e)),.one (.cl g caps)] [.one (I (idxI p xs))]:=by
 have hp':∀x∈xs,∀r,p x=r→Rt g ([.agg x.e]++caps.map .one) [.one (B r)]:=fun x hx r h=>h▸hp x hx
 have l:=qaW (P:=prog) (c:=(qaa f259 0)) xs p (fun i=>qfa (xs.map News.e) g caps i) (X:=fun i _=>qmc i) qaE (qaf 0)
  (fun i a ha h=>qxx _ _ _ _ _ _ _ _ ⟨lt1 (lt_of ha),lt0,lt2 (lt_of ha),qac News.e ha,hc,hp' a (qag ha) false h,rfl,up1 (lt_of ha) hl,trivial⟩)
  (fun i a ha h=>qxw _ _ _ _ _ _ _ _ ⟨lt1 (lt_of ha),lt0,lt2 (lt_of ha),qac News.e ha,hc,hp' a (qag ha) true h,rfl,trivial⟩)
  (qxy _ _ _ _ ⟨ge1,trivial⟩)
 rcases l with⟨_,h1,_,h2⟩ | ⟨i,a,_,_,_,h1,_,h2⟩
 ·simp only[idxI,h1];exact qxA _ _ _ ⟨h2,trivial⟩
 ·simp only[idxI,h1];exact qxz _ _ _ _ ⟨h2,trivial⟩
theorem qzt(xs:List News)(p:News→Bool)(g:Nat)(caps:List D)(hl:xs.length≤8388608)(hc:qaT prog g=true)(hp:∀x∈xs,Rt g ([.agg x.e]++caps.map .one) [.one (B (p x))]):
  Rt 220 [.one (.sl 3 (xs.map News.e)),.one (.cl g caps)] [.one (B (xs.any p))]:=by
 rw[←qjz];exact qxJ _ _ _ _ ⟨qqI xs p g caps hl hc hp,trivial⟩
theorem qzu(xs:List Cell)(p:Cell→Bool)(g:Nat)(caps:List D)(hl:xs.length≤8388608)(hc:qaT prog g=true)(hp:∀x∈xs,Rt g ([.agg x.e]++caps.map .one) [.one (B (p x))]):
  Rt 343 [.one (.sl 4 (xs.map Cell.e)),.one (.cl g caps)] [.one (I (idxI p xs))]:=by
 have hp':∀x∈xs,∀r,p x=r→Rt g ([.agg x.e]++caps.map .one) [.one (B r)]:=fun x hx r h=>h▸hp x hx
 have l:=qaW (P:=prog) (c:=(qaa f343 0)) xs p (fun i=>qfb (xs.map Cell.e) g caps i) (X:=fun i _=>qmd i) qaE (qaf 0)
  (fun i a ha h=>qxC _ _ _ _ _ _ _ _ _ ⟨lt1 (lt_of ha),lt0,lt2 (lt_of ha),qac Cell.e ha,hc,hp' a (qag ha) false h,rfl,up1 (lt_of ha) hl,trivial⟩)
  (fun i a ha h=>qxB _ _ _ _ _ _ _ _ _ ⟨lt1 (lt_of ha),lt0,lt2 (lt_of ha),qac Cell.e ha,hc,hp' a (qag ha) true h,rfl,trivial⟩)
  (qxD _ _ _ _ ⟨ge1,trivial⟩)
 rcases l with⟨_,h1,_,h2⟩ | ⟨i,a,_,_,_,h1,_,h2⟩
 ·simp only[idxI,h1];exact qxF _ _ _ ⟨h2,trivial⟩
 ·simp only[idxI,h1];exact qxE _ _ _ _ ⟨h2,trivial⟩
end Go.Proofs.YtdkobdhckkjmeaaGreat
