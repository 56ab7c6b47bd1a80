import Derived.Test.YthfnndblgbjniaaGreatDoorT2
import Derived.Test.YthfnndblgbjniaaGreatDoorGN
import Derived.Sort.Statements
import Derived.Shelf.SlSortCmp.Insertion
import Derived.WalkKit
import Derived.Deep.RegionLaw
import Derived.Shelf.RegionOpenPlain
import Derived.Lib.SliceRun
import Derived.Lib.JoinLaws
import Derived.Lib.Overlaps
import Derived.Lib.AppendZerosOnto
import Derived.Laws.Externs
import Derived.Deep.LoopGhost
import Derived.Lib.Walk
set_option linter.unusedVariables false
set_option linter.unusedSimpArgs false
namespace Go.Proofs.YthfnndblgbjniaaGreatDoor
open Go.Sx Go.RowKit Go.Proofs.Tryz
def av(n cP hi:Int):Bool:=decide (cP<=n/\n<=hi)
theorem hA(n cP hi:Int):ax 65 [.one (I n),.one (I cP),.one (I hi)] [.one (B (av n cP hi))]:=by
 by_cases h:cP<=n
 ·have e:av n cP hi=decide (n<=hi):=by simp[av,h]
  rw[e];exact aly ⟨by simp only[cW];omega,ad⟩
 rw[show av n cP hi=false by simp[av,h]];exact alz ⟨by simp only[n'];omega,ad⟩
theorem fi(n cP hi:Int)(r:Bool)(h:av n cP hi=r):ax 65 [.one (I n),.one (I cP),.one (I hi)] [.one (B r)]:=h▸hA n cP hi
theorem jA(n cP hi:Int):ax 64 [.one (I n),.one (I cP),.one (I hi)] [.one (B (av n cP hi))]:=by
 by_cases h:cP<=n
 ·have e:av n cP hi=decide (n<=hi):=by simp[av,h]
  rw[e];exact alw ⟨by simp only[cW];omega,ad⟩
 rw[show av n cP hi=false by simp[av,h]];exact alx ⟨by simp only[n'];omega,ad⟩
theorem iv{n cP hi:Int}(r:Bool)(h:av n cP hi=r):ax 64 [.one (I n),.one (I cP),.one (I hi)] [.one (B r)]:=h▸jA n cP hi
def hl(n cP hi:Int):Int:=if hi<cP then cP else if n<cP then cP else if hi<n then hi else n
theorem Ch(n cP hi:Int):ax 68 [.one (I n),.one (I cP),.one (I hi)] [.one (I (hl n cP hi))]:=by
 unfold hl;by_cases U:hi<cP
 ·rw[bU U];exact al8 ⟨by simpa using U,ad⟩
 rw[bE U];by_cases aa:n<cP
 ·rw[bU aa];exact al9 ⟨by simpa using U,by simpa using aa,ad⟩
 rw[bE aa];by_cases aA:hi<n
 ·rw[bU aA];exact ama ⟨by simpa using U,by simpa using aa,by simpa using aA,ad⟩
 rw[bE aA];exact amb ⟨by simpa using U,by simpa using aa,by simpa using aA,ad⟩
theorem aH.flat(r:aH):∀d∈r.e,∃x,d=.v x:=by
 intro d aF;simp only[aH.e,ep,l9,or_false]at aF;rcases aF with rfl | rfl | rfl | rfl | rfl<;>exact⟨_,rfl⟩
theorem Cell.flat(r:Cell):∀d∈r.e,∃x,d=.v x:=by
 intro d aF;simp only[Cell.e,ep,l9,or_false]at aF;rcases aF with rfl | rfl | rfl | rfl<;>exact⟨_,rfl⟩
theorem c'.flat(r:c'):∀d∈r.e,∃x,d=.v x:=by
 intro d aF;simp only[c'.e,ep,l9,or_false]at aF;rcases aF with rfl | rfl | rfl<;>exact⟨_,rfl⟩
theorem hd.flat(r:hd):∀d∈r.e,∃x,d=.v x:=by
 intro d aF;simp only[hd.e,ep,l9,or_false]at aF;rcases aF with rfl | rfl<;>exact⟨_,rfl⟩
theorem Ci{α:Type}(p:α->Bool)(xs:List α)(i:Nat):((xs.take i).filter p).length<=i:=
 rU (rO ..) (by simp;omega)
theorem Qw(a r:Cell):(a.op==r.op&&(a.bh==r.bh&&(a.key==r.key&&a.val==r.val)))=decide (a=r):=by
 obtain⟨o,e,k,v⟩:=a;obtain⟨oN,e',cm,wZ⟩:=r;rw[Bool.eq_iff_iff];simp only[cJ,jl,cW,Cell.mk.injEq]
theorem Tc{P:Program}{c:Code}{st:aD}{e:gQ}{α:Type}(f:α->aD){l gD:α}(h:fJ P c st e (f l))(au:l=gD):fJ P c st e (f gD):=au▸h
theorem an1{P:Program}{f:Nat}{args:List cE}{k:Nat}{l gD:List (List D)}(h:hI P f args [.one (.J k l)])(au:l=gD):hI P f args [.one (.J k gD)]:=au▸h
theorem wJ{α β:Type}(f:α->List β)(c:Nat)(h:∀a,(f a).length<=c):∀xs:List α,(xs.flatMap f).length<=xs.length*c
 | []=>by simp
 | a::xs=>by
  have U:=h a;have aa:=wJ f c h xs;simp only[List.flatMap_cons,ku,gP,gx,Nat.one_mul];omega
theorem dV{p:Prop}[Decidable p](h:p):decide p=true:=j7 h
theorem eC{p:Prop}[Decidable p](h:¬p):decide p=false:=ma h
end Go.Proofs.YthfnndblgbjniaaGreatDoor
namespace Go.Proofs.YthfnndblgbjniaaGreatDoor
open Go.Sx Go.RowKit Go.Proofs.Tryz
def h6(a b:Int):Int:=if a<b then -1 else if b<a then 1 else 0
def q9(l:List Int):Int:=(l.find? (· != 0)).getD 0
theorem Cj(a b:Int):ax 219 [.one (I a),.one (I b)] [.one (I (h6 a b))]:=by
 unfold h6;by_cases h:a<b
 ·rw[bU h];exact alA ⟨dV h,ad⟩
 rw[bE h];by_cases aa:b<a
 ·rw[bU aa];exact alB ⟨eC h,dV aa,ad⟩
 rw[bE aa];exact alC ⟨eC h,eC aa,ad⟩
theorem Qx(a:Int):ax 238 [.one (I a)] [.one (B false)]:=by
 have:=alD a trivial;simpa using this
theorem Qy(a b:Int):ax 231 [.one (I a),.one (I b)] [.one (I (h6 a b))]:=by
 have x:=Qx a;have y:=Qx b;unfold h6;by_cases h:a<b
 ·rw[bU h];exact alE ⟨x,y,rfl,rfl,dV h,ad⟩
 rw[bE h];by_cases aa:b<a
 ·rw[bU aa];exact alF ⟨x,y,rfl,rfl,eC h,dV aa,ad⟩
 rw[bE aa];exact alG ⟨x,y,rfl,rfl,eC h,eC aa,ad⟩
theorem Qz{xs ys:List Int}{i:Nat}{d:Int}(h:(List.zipWith h6 xs ys)[i]?=some d):∃a b,xs[i]?=some a/\ys[i]?=some b/\h6 a b=d:=by
 rw[List.getElem?_zipWith]at h;cases U:xs[i]? with
 | none=>simp[U]at h
 | some a=>
  cases aa:ys[i]? with
  | none=>simp[U,aa]at h
  | some b=>exact⟨a,b,rfl,rfl,by simpa[U,aa]using h⟩
theorem an2(xs ys:List Int)(au:xs.length=ys.length)(hm:xs.length<=8388608):ax 218 [.one (.J 1 (xs.map ba)),.one (.J 1 (ys.map ba))] [.one (I (q9 (List.zipWith h6 xs ys)))]:=by
 have bk:(List.zipWith h6 xs ys).length=xs.length:=by simp[au]
 have l:=gv (P:=prog) (c:=(aq f218 0)) (List.zipWith h6 xs ys) (fun d=>d != 0) (fun i=>uX (xs.map ba) (ys.map ba) i) (X:=fun _ d=>Jq d) eJ (cI 0)
  (fun i d aF h=>by
   obtain⟨a,b,ai,aw,rfl⟩:=Qz aF;exact alI ⟨b3 (aZ ai),bn,bt (aZ ai),bp ba ai,eC (by have:=aZ aw;simp;omega),bn,bt (aZ aw),bp ba aw,Qy a b,h,cT (aZ ai) hm,ad⟩)
  (fun i d aF h=>by
   obtain⟨a,b,ai,aw,rfl⟩:=Qz aF;exact alH ⟨b3 (aZ ai),bn,bt (aZ ai),bp ba ai,eC (by have:=aZ aw;simp;omega),bn,bt (aZ aw),bp ba aw,Qy a b,h,ad⟩)
  (by rw[bk];exact alJ ⟨dv,ad⟩)
 unfold q9;rcases l with⟨U,_,_,aa⟩ | ⟨i,a,_,_,U,_,_,aa⟩
 ·rw[U];exact alL ⟨aa,by simp[au],ad⟩
 rw[U];exact alK ⟨aa,ad⟩
theorem an3(xs ys:List Int)(au:xs.length=ys.length)(hm:xs.length<=8388608):ax 203 [.one (.J 1 (xs.map ba)),.one (.J 1 (ys.map ba))] [.one (I (q9 (List.zipWith h6 xs ys)))]:=
 alM ⟨an2 xs ys au hm,ad⟩
def hB(a b:Cell):Int:=q9 [h6 a.bh b.bh,h6 a.op b.op,h6 a.key b.key,h6 a.val b.val]
theorem QA(a b:Cell):ax 179 [.agg a.e,.agg b.e] [.one (I (hB a b))]:=
 amr ⟨an3 [a.bh,a.op,a.key,a.val] [b.bh,b.op,b.key,b.val] rfl (by simp),ad⟩
theorem Ck(a b:Cell):ax 204 [.agg a.e,.agg b.e] [.one (I (hB a b))]:=by
 have cx:=Cj a.bh b.bh;have cd:=Cj a.op b.op;have cD:=Cj a.key b.key;have eX:=Cj a.val b.val;unfold hB;generalize h6 a.bh b.bh=n4 at*;generalize h6 a.op b.op=j4 at*;generalize h6 a.key b.key=vh at*;generalize h6 a.val b.val=te at*;have l:=gv (P:=prog) (c:=(aq f204 0)) [n4,j4,vh,te] (fun d=>d != 0) (fun i=>ud n4 j4 vh te i) (X:=fun _ d=>Jv d) eJ (cI 0)
  (fun i d aF h=>amt ⟨dV (by have:=aZ aF;simp at this;omega),bn,by have:=aZ aF;simp at this ⊢;omega,bp ba aF,h,⟨by omega,by have:=aZ aF;simp at this;omega⟩,ad⟩)
  (fun i d aF h=>ams ⟨dV (by have:=aZ aF;simp at this;omega),bn,by have:=aZ aF;simp at this ⊢;omega,bp ba aF,h,bn,by have:=aZ aF;simp at this ⊢;omega,bp ba aF,ad⟩)
  (amu ⟨rfl,ad⟩)
 unfold q9;rcases l with⟨U,_,_,aa⟩ | ⟨i,a,_,_,U,_,_,aa⟩
 ·rw[U];exact amw ⟨cx,cd,cD,eX,aa,ad⟩
 rw[U];exact amv ⟨cx,cd,cD,eX,aa,ad⟩
end Go.Proofs.YthfnndblgbjniaaGreatDoor
namespace Go.Proofs.YthfnndblgbjniaaGreatDoor
open Go.Sx Go.RowKit Go.Sort Go.Proofs.Tryz
def oe(u v:List Int):Int:=q9 (List.zipWith h6 u v)
theorem an4(d:Int)(l:List Int):q9 (d::l)=if d=0 then q9 l else d:=by
 unfold q9;by_cases h:d=0
 ·simp[h]
 simp[h]
theorem an5(a b:Int)(u v:List Int):oe (a::u) (b::v)=if a=b then oe u v else h6 a b:=by
 unfold oe;rw[List.zipWith_cons_cons,an4];have:h6 a b=0<->a=b:=by unfold h6;split<;>(try split)<;>constructor<;>intro h<;>omega
 by_cases h:a=b
 ·rw[bU (this.2 h),bU h]
 rw[bE (fun e=>h (this.1 e)),bE h]
theorem QB(a b:Int)(u v:List Int):oe (a::u) (b::v)<0<->a<b\/(a=b/\oe u v<0):=by
 rw[an5];split
 ·constructor
  ·intro h;exact .inr ⟨‹_›,h⟩
  rintro (h | h)
  ·omega
  exact h.2
 ·unfold h6;split<;>(try split)<;>constructor<;>intro h<;>omega
theorem QC:∀(u v w:List Int),u.length=v.length->v.length=w.length->oe u v<0->oe v w<0->oe u w<0
 | [],[],[],_,_,h,_=>h
 | a::u,b::v,c::w,U,aa,aA,aO=>by
  rw[QB] at*;have:=QC u v w (by simpa using U) (by simpa using aa);omega
theorem QD:∀(u v:List Int),u.length=v.length->¬oe u v<0->¬oe v u<0->u=v
 | [],[],_,_,_=>rfl
 | a::u,b::v,U,aA,aO=>by
  rw[QB]at aA aO;have hL:a=b:=by omega
  subst hL;rw[QD u v (by simpa using U) (by omega) (by omega)]
section
variable {α : Type}
abbrev asc(lt:α->α->Bool)(S:List α):Prop:=S.Pairwise fun a b=>(!lt b a)=true
end
end Go.Proofs.YthfnndblgbjniaaGreatDoor
namespace Go.Proofs.YthfnndblgbjniaaGreatDoor
open Go.Sx Go.RowKit Go.Proofs.Tryz
def nH{α:Type}(p:α->Bool)(xs:List α):Int:=match xs.findIdx? p with | some i=>i | none=>-1
theorem PO{α:Type}(p:α->Bool)(xs:List α):decide (nH p xs>=0)=xs.any p:=by
 unfold nH;cases h:xs.findIdx? p with
 | none=>
  have:xs.any p=false:=by
   rw[hv];rw[UO]at h;exact fun a ai=>by simp[h a ai]
  rw[this];rfl
 | some i=>
  rw[ti]at h;obtain⟨hi,aa,_⟩:=h;have:xs.any p=true:=rV.2 ⟨_,rQ hi,aa⟩;rw[this];simp
theorem an6(xs:List aR)(p:aR->Bool)(g:Nat)(bB:List D)(au:xs.length<=8388608)(ap:h9 prog g=true)(hp:∀x∈xs,ax g ([.agg x.e]++bB.map .one) [.one (B (p x))]):
  ax 89 [.one (.J 8 (xs.map aR.e)),.one (.bI g bB)] [.one (I (nH p xs))]:=by
 have nB:∀x∈xs,∀r,p x=r->ax g ([.agg x.e]++bB.map .one) [.one (B r)]:=fun x ao r h=>h▸hp x ao
 have l:=gv (P:=prog) (c:=(aq f89 0)) xs p (fun i=>u2 (xs.map aR.e) g bB i) (X:=fun i _=>Js i) eJ (cI 0)
  (fun i a ai h=>am0 ⟨b3 (aZ ai),bn,bt (aZ ai),bp aR.e ai,ap,nB a (ee ai) false h,rfl,cT (aZ ai) au,ad⟩)
  (fun i a ai h=>amZ ⟨b3 (aZ ai),bn,bt (aZ ai),bp aR.e ai,ap,nB a (ee ai) true h,rfl,ad⟩)
  (am1 ⟨dv,ad⟩)
 rcases l with⟨_,U,_,aa⟩ | ⟨i,a,_,_,_,U,_,aa⟩
 ·simp only[nH,U];exact am3 ⟨aa,ad⟩
 simp only[nH,U];exact am2 ⟨aa,ad⟩
theorem an7(xs:List aR)(p:aR->Bool)(g:Nat)(bB:List D)(au:xs.length<=8388608)(ap:h9 prog g=true)(hp:∀x∈xs,ax g ([.agg x.e]++bB.map .one) [.one (B (p x))]):
  ax 51 [.one (.J 8 (xs.map aR.e)),.one (.bI g bB)] [.one (B (xs.any p))]:=by
 rw[<-PO];exact amo ⟨an6 xs p g bB au ap hp,ad⟩
theorem an8(xs:List ca)(p:ca->Bool)(g:Nat)(bB:List D)(au:xs.length<=8388608)(ap:h9 prog g=true)(hp:∀x∈xs,ax g ([.agg x.e]++bB.map .one) [.one (B (p x))]):
  ax 182 [.one (.J 2 (xs.map ca.e)),.one (.bI g bB)] [.one (I (nH p xs))]:=by
 have nB:∀x∈xs,∀r,p x=r->ax g ([.agg x.e]++bB.map .one) [.one (B r)]:=fun x ao r h=>h▸hp x ao
 have l:=gv (P:=prog) (c:=(aq f182 0)) xs p (fun i=>u3 (xs.map ca.e) g bB i) (X:=fun i _=>Jt i) eJ (cI 0)
  (fun i a ai h=>am5 ⟨b3 (aZ ai),bn,bt (aZ ai),bp ca.e ai,ap,nB a (ee ai) false h,rfl,cT (aZ ai) au,ad⟩)
  (fun i a ai h=>am4 ⟨b3 (aZ ai),bn,bt (aZ ai),bp ca.e ai,ap,nB a (ee ai) true h,rfl,ad⟩)
  (am6 ⟨dv,ad⟩)
 rcases l with⟨_,U,_,aa⟩ | ⟨i,a,_,_,_,U,_,aa⟩
 ·simp only[nH,U];exact am8 ⟨aa,ad⟩
 simp only[nH,U];exact am7 ⟨aa,ad⟩
theorem an9(xs:List ca)(p:ca->Bool)(g:Nat)(bB:List D)(au:xs.length<=8388608)(ap:h9 prog g=true)(hp:∀x∈xs,ax g ([.agg x.e]++bB.map .one) [.one (B (p x))]):
  ax 133 [.one (.J 2 (xs.map ca.e)),.one (.bI g bB)] [.one (B (xs.any p))]:=by
 rw[<-PO];exact amp ⟨an8 xs p g bB au ap hp,ad⟩
theorem aoa(xs:List bR)(p:bR->Bool)(g:Nat)(bB:List D)(au:xs.length<=8388608)(ap:h9 prog g=true)(hp:∀x∈xs,ax g ([.agg x.e]++bB.map .one) [.one (B (p x))]):
  ax 39 [.one (.J 3 (xs.map bR.e)),.one (.bI g bB)] [.one (I (nH p xs))]:=by
 have nB:∀x∈xs,∀r,p x=r->ax g ([.agg x.e]++bB.map .one) [.one (B r)]:=fun x ao r h=>h▸hp x ao
 have l:=gv (P:=prog) (c:=(aq f39 0)) xs p (fun i=>uc (xs.map bR.e) g bB i) (X:=fun i _=>Ju i) eJ (cI 0)
  (fun i a ai h=>ana ⟨b3 (aZ ai),bn,bt (aZ ai),bp bR.e ai,ap,nB a (ee ai) false h,rfl,cT (aZ ai) au,ad⟩)
  (fun i a ai h=>am9 ⟨b3 (aZ ai),bn,bt (aZ ai),bp bR.e ai,ap,nB a (ee ai) true h,rfl,ad⟩)
  (anb ⟨dv,ad⟩)
 rcases l with⟨_,U,_,aa⟩ | ⟨i,a,_,_,_,U,_,aa⟩
 ·simp only[nH,U];exact ane ⟨aa,ad⟩
 simp only[nH,U];exact anc ⟨aa,ad⟩
end Go.Proofs.YthfnndblgbjniaaGreatDoor
namespace Go.Proofs.YthfnndblgbjniaaGreatDoor
open Go.Sx Go.RowKit Go.Proofs.Tryz
def o2(e:Int)(xs:List aH):List aH:=xs.filter fun r=>r.bJ.bh==e
theorem PQ(xs:List aH)(e:Int)(au:xs.length<=8388608):ax 217 [.one (.J 5 (xs.map aH.e)),.one (I e)] [.one (.J 5 ((o2 e xs).map aH.e))]:=by
 let p:=fun r:aH=>r.bJ.bh==e
 have l:=eu (P:=prog) (c:=(aq f217 0)) (cI 0) xs.length (fun i:Nat=>uY (xs.map aH.e) e i (((xs.take i).filter p).map aH.e)) (fun i hi=>by
  obtain⟨a,ai⟩:=cS hi;have b7:=Ci p xs i;have aj:=yn p ai;by_cases hp:p a=true
  ·rw[bU hp]at aj;rw[aj,gy];exact alN ⟨b3 hi,bn,bt hi,bp aH.e ai,hp,bn,bt hi,bp aH.e ai,by simp;omega,by simp;omega,fG a.flat,cT hi au,ad⟩
  rw[bE hp,kt]at aj;rw[aj];exact alc ⟨b3 hi,bn,bt hi,bp aH.e ai,D3.2 hp,cT hi au,ad⟩) (ald ⟨dv,ad⟩)
 rw[jH]at l;exact ale ⟨l,ad⟩
end Go.Proofs.YthfnndblgbjniaaGreatDoor
namespace Go.Proofs.YthfnndblgbjniaaGreatDoor
open Go.Sx Go.RowKit Go.Sort Go.Proofs.Tryz
theorem Cl(xs:List aH)(au:xs.length<=8388608):ax 126 [.one (.J 5 (xs.map aH.e))] [.one (.J 5 (xs.map aH.e))]:=
 al7 ⟨by simp;omega,by simp;omega,dD _ aH.flat _,ad⟩
theorem bb.vf{c:bb}(h:c.sz<=8388608):c.aB.length<=8388608:=by simp only[bb.sz,eO]at h;omega
theorem bb.Bo{c:bb}(h:c.sz<=8388608):c.b2.length<=8388608:=by simp only[bb.sz,eO]at h;omega
end Go.Proofs.YthfnndblgbjniaaGreatDoor
namespace Go.Proofs.YthfnndblgbjniaaGreatDoor
open Go.Sx Go.RowKit Go.Shelf Go.Lib Go.Proofs.Tryz
theorem Cell.EC(xs:List Cell):xs.map Cell.e=gU (xs.map fun r=>r.e.map D.KJ):=by
 simp only[gU,List.map_map];rfl
end Go.Proofs.YthfnndblgbjniaaGreatDoor
namespace Go.Proofs.YthfnndblgbjniaaGreatDoor
open Go.Sx Go.RowKit Go.Proofs.Tryz
def ug(xs:List Cell)(x:Cell):Bool:=xs.any fun a=>decide (a=x)
def mM(xs:List Cell)(x:Cell):Nat:=(xs.findIdx? fun a=>!decide (hB a x<0)).getD xs.length
def mN(xs:List Cell)(x:Cell):List Cell:=if ug xs x then xs else xs.take (mM xs x)++x::xs.drop (mM xs x)
theorem PR(xs:List Cell)(x:Cell):mM xs x<=xs.length:=by
 unfold mM;cases h:xs.findIdx? (fun a=>!decide (hB a x<0)) with
 | none=>simp
 | some i=>
  rw[ti]at h;have:=h.1;simp;omega
theorem PS(xs:List Cell)(x:Cell):(mN xs x).length<=xs.length+1:=by
 unfold mN;split
 ·omega
 have:=PR xs x;simp;omega
theorem PT(xs:List Cell)(x:Cell)(au:xs.length<=8388608):ax 214 [.one (.J 4 (xs.map Cell.e)),.agg x.e] [.one (B (ug xs x))]:=by
 have l:=gv (P:=prog) (c:=(aq f214 0)) xs (fun a=>decide (a=x)) (fun i=>ue (xs.map Cell.e) x.op x.bh x.key x.val i) (X:=fun _ _=>Jw true) eJ (cI 0)
  (fun i a ai h=>amy ⟨b3 (aZ ai),bn,bt (aZ ai),bp Cell.e ai,(Qw a x).trans h,cT (aZ ai) au,ad⟩)
  (fun i a ai h=>amx ⟨b3 (aZ ai),bn,bt (aZ ai),bp Cell.e ai,(Qw a x).trans h,ad⟩)
  (amz ⟨dv,ad⟩)
 unfold ug;rcases l with⟨_,_,U,aa⟩ | ⟨i,a,_,_,_,_,U,aa⟩
 ·rw[U];exact amB ⟨aa,ad⟩
 rw[U];exact amA ⟨aa,ad⟩
theorem PU(xs:List Cell)(x:Cell)(r:Bool)(h:ug xs x=r)(au:xs.length<=8388608):ax 214 [.one (.J 4 (xs.map Cell.e)),.agg x.e] [.one (B r)]:=h▸PT xs x au
theorem aob(xs:List Cell)(au:xs.length<=8388608):ax 127 [.one (.J 4 (xs.map Cell.e))] [.one (.J 4 (xs.map Cell.e))]:=
 amq ⟨by simp;omega,by simp;omega,dD _ Cell.flat _,ad⟩
theorem zb(xs:List Cell)(x:Cell)(au:xs.length<=8388608):ax 215 [.one (.J 4 (xs.map Cell.e)),.agg x.e] [.one (.J 4 ((mN xs x).map Cell.e))]:=by
 unfold mN;cases h:ug xs x with
 | true=>
  rw[bU rfl];exact amC ⟨PU xs x true h au,rfl,by simp;omega,by simp;omega,dD _ Cell.flat _,ad⟩
 | false=>
  rw[bE (by simp)];have l:c0 prog (aq f215 0) (uf (xs.map Cell.e) x.op x.bh x.key x.val 0) (gQ.exit 0) (za (xs.map Cell.e) x.op x.bh x.key x.val (mM xs x)):=by
   have l:=gv (P:=prog) (c:=(aq f215 0)) xs (fun a=>!decide (hB a x<0)) (fun i=>uf (xs.map Cell.e) x.op x.bh x.key x.val i) (X:=fun i _=>za (xs.map Cell.e) x.op x.bh x.key x.val i) (cI 0) (cI 0)
    (fun i a ai h=>amD ⟨b3 (aZ ai),bn,bt (aZ ai),bp Cell.e ai,Ck a x,by simpa using h,cT (aZ ai) au,ad⟩)
    (fun i a ai h=>amE ⟨b3 (aZ ai),bn,bt (aZ ai),bp Cell.e ai,Ck a x,by simpa using h,ad⟩)
    (amF ⟨dv,ad⟩)
   unfold mM;rcases l with⟨_,U,_,aa⟩ | ⟨i,a,_,_,_,U,_,aa⟩
   ·rw[U];exact aa
   rw[U];exact aa
  have hp:=PR xs x;generalize mM xs x=p at*;refine an1 (amG ⟨PU xs x false h au,rfl,l,by simp,by simp,by simp;omega,by simp;omega,by simp;omega,?_,by simp;omega,by simp;omega,fG x.flat,by simp,by simp;omega,by simp,by simp;omega,by simp;omega,?_,ad⟩) ?_
  ·simp only[j5,po,Nat.sub_zero,xb,<-tk];exact dD _ Cell.flat _
  ·simp only[j5,po,<-tk,<-List.map_drop];exact dD _ Cell.flat _
  simp only[j5,po,Nat.sub_zero,xb,List.nil_append,<-tk,<-List.map_drop,gy,lu,rR]
  congr 1
  rw[D6 (by simp)];rfl
end Go.Proofs.YthfnndblgbjniaaGreatDoor
namespace Go.Proofs.YthfnndblgbjniaaGreatDoor
open Go.Sx Go.RowKit Go.Proofs.Tryz
def gK(g:b1)(op:Int):Option Node:=if 0<=op then g.nodes[op.toNat]? else none
variable{g:b1}{a:Int}{w:Node}
theorem Jx(h:gK g a=some w):0<=a/\a<(↑(g.nodes.map Node.e).length:Int)/\(g.nodes.map Node.e)[a.toNat]?=some w.e/\av a 0 (↑(g.nodes.map Node.e).length-1)=true:=by
 unfold gK at h;split at h
 ·have:=(fA.1 h).1;refine⟨‹_›,by simp;omega,by simp[h],?_⟩;simp only[av,cr,cW];omega
 cases h
theorem PV(h:gK g a=none):av a 0 (↑(g.nodes.map Node.e).length-1)=false:=by
 unfold gK at h;simp only[av,cr,n'];split at h
 ·rw[List.getElem?_eq_none_iff]at h;omega
 omega
theorem PW(h:gK g a=some w):w∈g.nodes:=by
 unfold gK at h;split at h
 ·exact fe h
 cases h
theorem b1.Xi(h:g.sz<=8388608):g.nodes.length<=8388608:=by simp only[b1.sz,eO]at h;omega
theorem b1.Bw(h:g.sz<=8388608)(hw:w∈g.nodes):w.outs.length<=8388608:=by
 have:=CS (sz:=Node.sz) hw;simp only[b1.sz,eO]at h;have a8:w.outs.length<=w.sz:=by simp only[Node.sz];omega
 omega
theorem Cm(h:g.sz<=8388608):aK .i64 ((↑(g.nodes.map Node.e).length:Int)-1):=by
 have:=b1.Xi h;exact⟨by simp;omega,by simp;omega⟩
theorem aoc(g:b1)(op:Int)(ay:g.sz<=8388608):ax 132 [.agg g.e,.one (I op)] [.one (B (gK g op).isSome)]:=by
 cases h:gK g op with
 | none=>exact Qs ⟨Cm ay,iv _ (PV h),ad⟩
 | some w=>exact Qs ⟨Cm ay,iv _ (Jx h).2.2.2,ad⟩
theorem PX(g:b1)(op:Int)(r:Bool)(h:(gK g op).isSome=r)(ay:g.sz<=8388608):ax 132 [.agg g.e,.one (I op)] [.one (B r)]:=h▸aoc g op ay
def sO(g:b1)(op:Int):Node×Bool:=match gK g op with | some n=>(n,true) | none=>(⟨0,0,0,[]⟩,false)
theorem aod(n:Int):∀d∈ba n,∃x,d=.v x:=by
 intro d aF;simp only[ba,ep,l9,or_false]at aF;subst aF;exact⟨_,rfl⟩
theorem aoe(g:b1)(op:Int)(ay:g.sz<=8388608):ax 194 [.agg g.e,.one (I op)] [.agg (sO g op).1.e,.one (B (sO g op).2)]:=by
 unfold sO;cases h:gK g op with
 | none=>exact amH ⟨Cm ay,fi _ _ _ _ (PV h),rfl,ad⟩
 | some w=>
  obtain⟨U,aa,aA,aO⟩:=Jx h;have a6:=b1.Bw ay (PW h);exact amI ⟨Cm ay,fi _ _ _ _ aO,rfl,U,aa,aA,by simp;omega,by simp;omega,dD _ aod _,ad⟩
theorem Cn(g:b1)(op:Int)(r:Node×Bool)(h:sO g op=r)(ay:g.sz<=8388608):ax 194 [.agg g.e,.one (I op)] [.agg r.1.e,.one (B r.2)]:=h▸aoe g op ay
