import Derived.Test.YthfnndblgbjniaaGreatDoorT2
import Derived.Test.YthfnndblgbjniaaGreatDoorGN
import Derived.Sort.Statements
import Derived.Shelf.SlSortCmp.Insertion
set_option linter.unusedVariables false
set_option linter.unusedSimpArgs false
namespace Go.Proofs.YthfnndblgbjniaaGreatDoor
open Go.Sx Go.RowKit Go.Proofs.Tryz
def av(n cW hi:Int):Bool:=decide (cW<=n/\n<=hi)
theorem h3(n cW hi:Int):al 65 [.one (I n),.one (I cW),.one (I hi)] [.one (B (av n cW hi))]:=by
 by_cases h:cW<=n
 ·have e:av n cW hi=decide (n<=hi):=by simp[av,h]
  rw[e];exact ars ⟨by simp only[c3];omega,ad⟩
 rw[show av n cW hi=false by simp[av,h]];exact art ⟨by simp only[nR];omega,ad⟩
theorem fM(n cW hi:Int)(r:Bool)(h:av n cW hi=r):al 65 [.one (I n),.one (I cW),.one (I hi)] [.one (B r)]:=h▸h3 n cW hi
theorem kA(n cW hi:Int):al 64 [.one (I n),.one (I cW),.one (I hi)] [.one (B (av n cW hi))]:=by
 by_cases h:cW<=n
 ·have e:av n cW hi=decide (n<=hi):=by simp[av,h]
  rw[e];exact arp ⟨by simp only[c3];omega,ad⟩
 rw[show av n cW hi=false by simp[av,h]];exact arq ⟨by simp only[nR];omega,ad⟩
theorem hl{n cW hi:Int}(r:Bool)(h:av n cW hi=r):al 64 [.one (I n),.one (I cW),.one (I hi)] [.one (B r)]:=h▸kA n cW hi
def hJ(n cW hi:Int):Int:=if hi<cW then cW else if n<cW then cW else if hi<n then hi else n
theorem E0(n cW hi:Int):al 68 [.one (I n),.one (I cW),.one (I hi)] [.one (I (hJ n cW hi))]:=by
 unfold hJ;by_cases U:hi<cW
 ·rw[bL U];exact ary ⟨by simpa using U,ad⟩
 rw[bH U];by_cases aa:n<cW
 ·rw[bL aa];exact arz ⟨by simpa using U,by simpa using aa,ad⟩
 rw[bH aa];by_cases aB:hi<n
 ·rw[bL aB];exact arA ⟨by simpa using U,by simpa using aa,by simpa using aB,ad⟩
 rw[bH aB];exact arB ⟨by simpa using U,by simpa using aa,by simpa using aB,ad⟩
theorem au4(n cW hi:Int):al 67 [.one (I n),.one (I cW),.one (I hi)] [.one (I (hJ n cW hi))]:=by
 unfold hJ;by_cases U:hi<cW
 ·rw[bL U];exact arC ⟨by simpa using U,ad⟩
 rw[bH U];by_cases aa:n<cW
 ·rw[bL aa];exact arD ⟨by simpa using U,by simpa using aa,ad⟩
 rw[bH aa];exact arE ⟨by simpa using U,by simpa using aa,ad⟩
theorem aD.flat(r:aD):∀d∈r.e,∃x,d=.v x:=by
 intro d aI;simp only[aD.e,eK,nP,or_false]at aI;rcases aI with rfl | rfl | rfl | rfl | rfl<;>exact⟨_,rfl⟩
theorem Cell.flat(r:Cell):∀d∈r.e,∃x,d=.v x:=by
 intro d aI;simp only[Cell.e,eK,nP,or_false]at aI;rcases aI with rfl | rfl | rfl | rfl<;>exact⟨_,rfl⟩
theorem cf.flat(r:cf):∀d∈r.e,∃x,d=.v x:=by
 intro d aI;simp only[cf.e,eK,nP,or_false]at aI;rcases aI with rfl | rfl | rfl<;>exact⟨_,rfl⟩
theorem gY.flat(r:gY):∀d∈r.e,∃x,d=.v x:=by
 intro d aI;simp only[gY.e,eK,nP,or_false]at aI;rcases aI with rfl | rfl<;>exact⟨_,rfl⟩
theorem E1{α:Type}(p:α->Bool)(xs:List α)(i:Nat):((xs.take i).filter p).length<=i:=
 tj (pC ..) (by simp;omega)
theorem J0(a r:Cell):(a.op==r.op&&(a.bh==r.bh&&(a.key==r.key&&a.val==r.val)))=decide (a=r):=by
 obtain⟨o,e,k,v⟩:=a;obtain⟨qf,e',cu,mK⟩:=r;rw[Bool.eq_iff_iff];simp only[cH,kE,c3,Cell.mk.injEq]
theorem SI(a r:Cell):(r.op==a.op&&(r.bh==a.bh&&(r.key==a.key&&r.val==a.val)))=decide (a=r):=by
 rw[J0 r a];exact decide_eq_decide.2 ⟨Eq.symm,Eq.symm⟩
theorem wF{P:Program}{c:Code}{st:aF}{e:hD}{α:Type}(f:α->aF){l gH:α}(h:gP P c st e (f l))(ar:l=gH):gP P c st e (f gH):=ar▸h
theorem au5{P:Program}{f:Nat}{args:List cJ}{k:Nat}{l gH:List (List D)}(h:ie P f args [.one (.J k l)])(ar:l=gH):ie P f args [.one (.J k gH)]:=ar▸h
theorem xG{α β:Type}(f:α->List β)(c:Nat)(h:∀a,(f a).length<=c):∀xs:List α,(xs.flatMap f).length<=xs.length*c
 | []=>by simp
 | a::xs=>by
  have U:=h a;have aa:=xG f c h xs;simp only[List.flatMap_cons,lL,ic,hq,Nat.one_mul];omega
theorem dm{p:Prop}[Decidable p](h:p):decide p=true:=kF h
theorem dX{p:Prop}[Decidable p](h:¬p):decide p=false:=mg h
end Go.Proofs.YthfnndblgbjniaaGreatDoor
namespace Go.Proofs.YthfnndblgbjniaaGreatDoor
open Go.Sx Go.RowKit Go.Proofs.Tryz
def jq(a b:Int):Int:=if a<b then -1 else if b<a then 1 else 0
def sA(l:List Int):Int:=(l.find? (· != 0)).getD 0
theorem E2(a b:Int):al 219 [.one (I a),.one (I b)] [.one (I (jq a b))]:=by
 unfold jq;by_cases h:a<b
 ·rw[bL h];exact aru ⟨dm h,ad⟩
 rw[bH h];by_cases aa:b<a
 ·rw[bL aa];exact arv ⟨dX h,dm aa,ad⟩
 rw[bH aa];exact asX ⟨dX h,dX aa,ad⟩
theorem SJ(a:Int):al 238 [.one (I a)] [.one (B false)]:=by
 have:=asY a trivial;simpa using this
theorem SK(a b:Int):al 231 [.one (I a),.one (I b)] [.one (I (jq a b))]:=by
 have x:=SJ a;have y:=SJ b;unfold jq;by_cases h:a<b
 ·rw[bL h];exact asZ ⟨x,y,rfl,rfl,dm h,ad⟩
 rw[bH h];by_cases aa:b<a
 ·rw[bL aa];exact as0 ⟨x,y,rfl,rfl,dX h,dm aa,ad⟩
 rw[bH aa];exact as1 ⟨x,y,rfl,rfl,dX h,dX aa,ad⟩
theorem SL{xs ys:List Int}{i:Nat}{d:Int}(h:(List.zipWith jq xs ys)[i]?=some d):∃a b,xs[i]?=some a/\ys[i]?=some b/\jq a b=d:=by
 rw[List.getElem?_zipWith]at h;cases U:xs[i]? with
 | none=>simp[U]at h
 | some a=>
  cases aa:ys[i]? with
  | none=>simp[U,aa]at h
  | some b=>exact⟨a,b,rfl,rfl,by simpa[U,aa]using h⟩
theorem au6(xs ys:List Int)(ar:xs.length=ys.length)(hm:xs.length<=8388608):al 218 [.one (.J 1 (xs.map bb)),.one (.J 1 (ys.map bb))] [.one (I (sA (List.zipWith jq xs ys)))]:=by
 have bp:(List.zipWith jq xs ys).length=xs.length:=by simp[ar]
 have l:=gI (P:=prog) (c:=(ap f218 0)) (List.zipWith jq xs ys) (fun d=>d != 0) (fun i=>vN (xs.map bb) (ys.map bb) i) (X:=fun _ d=>Kp d) ff (cy 0)
  (fun i d aI h=>by
   obtain⟨a,b,aj,ay,rfl⟩:=SL aI;exact as3 ⟨cc (a7 aj),bB,bI (a7 aj),bC bb aj,dX (by have:=a7 ay;simp;omega),bB,bI (a7 ay),bC bb ay,SK a b,h,dc (a7 aj) hm,ad⟩)
  (fun i d aI h=>by
   obtain⟨a,b,aj,ay,rfl⟩:=SL aI;exact as2 ⟨cc (a7 aj),bB,bI (a7 aj),bC bb aj,dX (by have:=a7 ay;simp;omega),bB,bI (a7 ay),bC bb ay,SK a b,h,ad⟩)
  (by rw[bp];exact as4 ⟨dG,ad⟩)
 unfold sA;rcases l with⟨U,_,_,aa⟩ | ⟨i,a,_,_,U,_,_,aa⟩
 ·rw[U];exact as6 ⟨aa,by simp[ar],ad⟩
 rw[U];exact as5 ⟨aa,ad⟩
theorem au7(xs ys:List Int)(ar:xs.length=ys.length)(hm:xs.length<=8388608):al 203 [.one (.J 1 (xs.map bb)),.one (.J 1 (ys.map bb))] [.one (I (sA (List.zipWith jq xs ys)))]:=
 as7 ⟨au6 xs ys ar hm,ad⟩
def h4(a b:Cell):Int:=sA [jq a.bh b.bh,jq a.op b.op,jq a.key b.key,jq a.val b.val]
theorem E3(a b:Cell):al 179 [.agg a.e,.agg b.e] [.one (I (h4 a b))]:=
 asW ⟨au7 [a.bh,a.op,a.key,a.val] [b.bh,b.op,b.key,b.val] rfl (by simp),ad⟩
theorem E4(a b:Cell):al 204 [.agg a.e,.agg b.e] [.one (I (h4 a b))]:=by
 have cC:=E2 a.bh b.bh;have cg:=E2 a.op b.op;have cE:=E2 a.key b.key;have fG:=E2 a.val b.val;unfold h4;generalize jq a.bh b.bh=ix at*;generalize jq a.op b.op=jB at*;generalize jq a.key b.key=wH at*;generalize jq a.val b.val=uR at*;have l:=gI (P:=prog) (c:=(ap f204 0)) [ix,jB,wH,uR] (fun d=>d != 0) (fun i=>vX ix jB wH uR i) (X:=fun _ d=>JY d) ff (cy 0)
  (fun i d aI h=>auo ⟨dm (by have:=a7 aI;simp at this;omega),bB,by have:=a7 aI;simp at this ⊢;omega,bC bb aI,h,⟨by omega,by have:=a7 aI;simp at this;omega⟩,ad⟩)
  (fun i d aI h=>aun ⟨dm (by have:=a7 aI;simp at this;omega),bB,by have:=a7 aI;simp at this ⊢;omega,bC bb aI,h,bB,by have:=a7 aI;simp at this ⊢;omega,bC bb aI,ad⟩)
  (aup ⟨rfl,ad⟩)
 unfold sA;rcases l with⟨U,_,_,aa⟩ | ⟨i,a,_,_,U,_,_,aa⟩
 ·rw[U];exact aty ⟨cC,cg,cE,fG,aa,ad⟩
 rw[U];exact atx ⟨cC,cg,cE,fG,aa,ad⟩
end Go.Proofs.YthfnndblgbjniaaGreatDoor
namespace Go.Proofs.YthfnndblgbjniaaGreatDoor
open Go.Sx Go.RowKit Go.Sort Go.Proofs.Tryz
def pK(u v:List Int):Int:=sA (List.zipWith jq u v)
theorem au8(d:Int)(l:List Int):sA (d::l)=if d=0 then sA l else d:=by
 unfold sA;by_cases h:d=0
 ·simp[h]
 simp[h]
theorem au9(a b:Int)(u v:List Int):pK (a::u) (b::v)=if a=b then pK u v else jq a b:=by
 unfold pK;rw[List.zipWith_cons_cons,au8];have:jq a b=0<->a=b:=by unfold jq;split<;>(try split)<;>constructor<;>intro h<;>omega
 by_cases h:a=b
 ·rw[bL (this.2 h),bL h]
 rw[bH (fun e=>h (this.1 e)),bH h]
theorem SM(a b:Int)(u v:List Int):pK (a::u) (b::v)<0<->a<b\/(a=b/\pK u v<0):=by
 rw[au9];split
 ·constructor
  ·intro h;exact .inr ⟨‹_›,h⟩
  rintro (h | h)
  ·omega
  exact h.2
 ·unfold jq;split<;>(try split)<;>constructor<;>intro h<;>omega
theorem SN:∀(u v w:List Int),u.length=v.length->v.length=w.length->pK u v<0->pK v w<0->pK u w<0
 | [],[],[],_,_,h,_=>h
 | a::u,b::v,c::w,U,aa,aB,aJ=>by
  rw[SM] at*;have:=SN u v w (by simpa using U) (by simpa using aa);omega
theorem SO:∀(u v:List Int),u.length=v.length->¬pK u v<0->¬pK v u<0->u=v
 | [],[],_,_,_=>rfl
 | a::u,b::v,U,aB,aJ=>by
  rw[SM]at aB aJ;have fD:a=b:=by omega
  subst fD;rw[SO u v (by simpa using U) (by omega) (by omega)]
section
variable {α : Type}
abbrev axb(lt:α->α->Bool)(S:List α):Prop:=S.Pairwise fun a b=>(!lt b a)=true
end
end Go.Proofs.YthfnndblgbjniaaGreatDoor
namespace Go.Proofs.YthfnndblgbjniaaGreatDoor
open Go.Sx Go.RowKit Go.Proofs.Tryz
def l0{α:Type}(p:α->Bool)(xs:List α):Int:=match xs.findIdx? p with | some i=>i | none=>-1
theorem SP{α:Type}(p:α->Bool)(xs:List α):decide (l0 p xs>=0)=xs.any p:=by
 unfold l0;cases h:xs.findIdx? p with
 | none=>
  have:xs.any p=false:=by
   rw[hW];rw[Gf]at h;exact fun a aj=>by simp[h a aj]
  rw[this];rfl
 | some i=>
  rw[tg]at h;obtain⟨hi,aa,_⟩:=h;have:xs.any p=true:=rU.2 ⟨_,oP hi,aa⟩;rw[this];simp
theorem ava(xs:List aD)(p:aD->Bool)(g:Nat)(bt:List D)(ar:xs.length<=8388608)(ao:hj prog g=true)(hp:∀x∈xs,al g ([.agg x.e]++bt.map .one) [.one (B (p x))]):
  al 212 [.one (.J 5 (xs.map aD.e)),.one (.a8 g bt)] [.one (I (l0 p xs))]:=by
 have lu:∀x∈xs,∀r,p x=r->al g ([.agg x.e]++bt.map .one) [.one (B r)]:=fun x aq r h=>h▸hp x aq
 have l:=gI (P:=prog) (c:=(ap f212 0)) xs p (fun i=>vR (xs.map aD.e) g bt i) (X:=fun i _=>JS i) ff (cy 0)
  (fun i a aj h=>asz ⟨cc (a7 aj),bB,bI (a7 aj),bC aD.e aj,ao,lu a (eQ aj) false h,rfl,dc (a7 aj) ar,ad⟩)
  (fun i a aj h=>asy ⟨cc (a7 aj),bB,bI (a7 aj),bC aD.e aj,ao,lu a (eQ aj) true h,rfl,ad⟩)
  (asA ⟨dG,ad⟩)
 rcases l with⟨_,U,_,aa⟩ | ⟨i,a,_,_,_,U,_,aa⟩
 ·simp only[l0,U];exact asC ⟨aa,ad⟩
 simp only[l0,U];exact asB ⟨aa,ad⟩
theorem avb(xs:List aD)(p:aD->Bool)(g:Nat)(bt:List D)(ar:xs.length<=8388608)(ao:hj prog g=true)(hp:∀x∈xs,al g ([.agg x.e]++bt.map .one) [.one (B (p x))]):
  al 191 [.one (.J 5 (xs.map aD.e)),.one (.a8 g bt)] [.one (B (xs.any p))]:=by
 rw[<-SP];exact asS ⟨ava xs p g bt ar ao hp,ad⟩
theorem avc(xs:List cz)(p:cz->Bool)(g:Nat)(bt:List D)(ar:xs.length<=8388608)(ao:hj prog g=true)(hp:∀x∈xs,al g ([.agg x.e]++bt.map .one) [.one (B (p x))]):
  al 182 [.one (.J 2 (xs.map cz.e)),.one (.a8 g bt)] [.one (I (l0 p xs))]:=by
 have lu:∀x∈xs,∀r,p x=r->al g ([.agg x.e]++bt.map .one) [.one (B r)]:=fun x aq r h=>h▸hp x aq
 have l:=gI (P:=prog) (c:=(ap f182 0)) xs p (fun i=>vS (xs.map cz.e) g bt i) (X:=fun i _=>JT i) ff (cy 0)
  (fun i a aj h=>asE ⟨cc (a7 aj),bB,bI (a7 aj),bC cz.e aj,ao,lu a (eQ aj) false h,rfl,dc (a7 aj) ar,ad⟩)
  (fun i a aj h=>asD ⟨cc (a7 aj),bB,bI (a7 aj),bC cz.e aj,ao,lu a (eQ aj) true h,rfl,ad⟩)
  (asF ⟨dG,ad⟩)
 rcases l with⟨_,U,_,aa⟩ | ⟨i,a,_,_,_,U,_,aa⟩
 ·simp only[l0,U];exact asH ⟨aa,ad⟩
 simp only[l0,U];exact asG ⟨aa,ad⟩
theorem avd(xs:List cz)(p:cz->Bool)(g:Nat)(bt:List D)(ar:xs.length<=8388608)(ao:hj prog g=true)(hp:∀x∈xs,al g ([.agg x.e]++bt.map .one) [.one (B (p x))]):
  al 133 [.one (.J 2 (xs.map cz.e)),.one (.a8 g bt)] [.one (B (xs.any p))]:=by
 rw[<-SP];exact asT ⟨avc xs p g bt ar ao hp,ad⟩
theorem ave(xs:List bR)(p:bR->Bool)(g:Nat)(bt:List D)(ar:xs.length<=8388608)(ao:hj prog g=true)(hp:∀x∈xs,al g ([.agg x.e]++bt.map .one) [.one (B (p x))]):
  al 39 [.one (.J 3 (xs.map bR.e)),.one (.a8 g bt)] [.one (I (l0 p xs))]:=by
 have lu:∀x∈xs,∀r,p x=r->al g ([.agg x.e]++bt.map .one) [.one (B r)]:=fun x aq r h=>h▸hp x aq
 have l:=gI (P:=prog) (c:=(ap f39 0)) xs p (fun i=>vT (xs.map bR.e) g bt i) (X:=fun i _=>JU i) ff (cy 0)
  (fun i a aj h=>asJ ⟨cc (a7 aj),bB,bI (a7 aj),bC bR.e aj,ao,lu a (eQ aj) false h,rfl,dc (a7 aj) ar,ad⟩)
  (fun i a aj h=>asI ⟨cc (a7 aj),bB,bI (a7 aj),bC bR.e aj,ao,lu a (eQ aj) true h,rfl,ad⟩)
  (asK ⟨dG,ad⟩)
 rcases l with⟨_,U,_,aa⟩ | ⟨i,a,_,_,_,U,_,aa⟩
 ·simp only[l0,U];exact asM ⟨aa,ad⟩
 simp only[l0,U];exact asL ⟨aa,ad⟩
theorem avf(xs:List Cell)(p:Cell->Bool)(g:Nat)(bt:List D)(ar:xs.length<=8388608)(ao:hj prog g=true)(hp:∀x∈xs,al g ([.agg x.e]++bt.map .one) [.one (B (p x))]):
  al 234 [.one (.J 4 (xs.map Cell.e)),.one (.a8 g bt)] [.one (I (l0 p xs))]:=by
 have lu:∀x∈xs,∀r,p x=r->al g ([.agg x.e]++bt.map .one) [.one (B r)]:=fun x aq r h=>h▸hp x aq
 have l:=gI (P:=prog) (c:=(ap f234 0)) xs p (fun i=>vU (xs.map Cell.e) g bt i) (X:=fun i _=>JV i) ff (cy 0)
  (fun i a aj h=>asO ⟨cc (a7 aj),bB,bI (a7 aj),bC Cell.e aj,ao,lu a (eQ aj) false h,rfl,dc (a7 aj) ar,ad⟩)
  (fun i a aj h=>asN ⟨cc (a7 aj),bB,bI (a7 aj),bC Cell.e aj,ao,lu a (eQ aj) true h,rfl,ad⟩)
  (asP ⟨dG,ad⟩)
 rcases l with⟨_,U,_,aa⟩ | ⟨i,a,_,_,_,U,_,aa⟩
 ·simp only[l0,U];exact asR ⟨aa,ad⟩
 simp only[l0,U];exact asQ ⟨aa,ad⟩
end Go.Proofs.YthfnndblgbjniaaGreatDoor
namespace Go.Proofs.YthfnndblgbjniaaGreatDoor
open Go.Sx Go.RowKit Go.Proofs.Tryz
def l8(e:Int)(xs:List aD):List aD:=xs.filter fun r=>r.bw.bh==e
theorem SQ(xs:List aD)(e:Int)(ar:xs.length<=8388608):al 217 [.one (.J 5 (xs.map aD.e)),.one (I e)] [.one (.J 5 ((l8 e xs).map aD.e))]:=by
 let p:=fun r:aD=>r.bw.bh==e
 have l:=er (P:=prog) (c:=(ap f217 0)) (cy 0) xs.length (fun i:Nat=>vO (xs.map aD.e) e i (((xs.take i).filter p).map aD.e)) (fun i hi=>by
  obtain⟨a,aj⟩:=c2 hi;have b8:=E1 p xs i;have ak:=yi p aj;by_cases hp:p a=true
  ·rw[bL hp]at ak;rw[ak,gx];exact as8 ⟨cc hi,bB,bI hi,bC aD.e aj,hp,bB,bI hi,bC aD.e aj,by simp;omega,by simp;omega,fA a.flat,dc hi ar,ad⟩
  rw[bH hp,iz]at ak;rw[ak];exact as9 ⟨cc hi,bB,bI hi,bC aD.e aj,NG.2 hp,dc hi ar,ad⟩) (ata ⟨dG,ad⟩)
 rw[kX]at l;exact atb ⟨l,ad⟩
theorem SR(xs:List aD)(e:Int)(ar:xs.length<=8388608):al 193 [.one (.J 5 (xs.map aD.e)),.one (I e)] [.one (.J 5 ((l8 e xs).map aD.e))]:=by
 let p:=fun r:aD=>r.bw.bh==e
 have l:=er (P:=prog) (c:=(ap f193 0)) (cy 0) xs.length (fun i:Nat=>vP (xs.map aD.e) e i (((xs.take i).filter p).map aD.e)) (fun i hi=>by
  obtain⟨a,aj⟩:=c2 hi;have b8:=E1 p xs i;have ak:=yi p aj;by_cases hp:p a=true
  ·rw[bL hp]at ak;rw[ak,gx];exact atc ⟨cc hi,bB,bI hi,bC aD.e aj,hp,by simp;omega,by simp;omega,fA a.flat,dc hi ar,ad⟩
  rw[bH hp,iz]at ak;rw[ak];exact atd ⟨cc hi,bB,bI hi,bC aD.e aj,NG.2 hp,dc hi ar,ad⟩) (ate ⟨dG,ad⟩)
 rw[kX]at l;exact atf ⟨l,ad⟩
end Go.Proofs.YthfnndblgbjniaaGreatDoor
namespace Go.Proofs.YthfnndblgbjniaaGreatDoor
open Go.Sx Go.RowKit Go.Sort Go.Proofs.Tryz
theorem E5(xs:List aD)(ar:xs.length<=8388608):al 126 [.one (.J 5 (xs.map aD.e))] [.one (.J 5 (xs.map aD.e))]:=
 arx ⟨by simp;omega,by simp;omega,dE _ aD.flat _,ad⟩
theorem bi.Bu{c:bi}(h:c.sz<=8388608):c.az.length<=8388608:=by simp only[bi.sz,fr]at h;omega
theorem bi.Dj{c:bi}(h:c.sz<=8388608):c.bU.length<=8388608:=by simp only[bi.sz,fr]at h;omega
end Go.Proofs.YthfnndblgbjniaaGreatDoor
namespace Go.Proofs.YthfnndblgbjniaaGreatDoor
open Go.Sx Go.RowKit Go.Proofs.Tryz
def h5(w:aR)(e:Int):Bool:=w.bX.any fun d=>d.bh==e
theorem aR.N2{w:aR}(h:w.sz<=8388608):w.bX.length<=8388608:=by simp only[aR.sz]at h;omega
theorem bi.Fx{c:bi}(h:c.sz<=8388608){w:aR}(ar:w∈c.az):w.sz<=8388608:=by
 have:=DB (sz:=aR.sz) ar;simp only[bi.sz,fr]at h;omega
theorem avg(w:aR)(e:Int)(hw:w.sz<=8388608):al 21 [.agg w.e,.one (I e)] [.one (B (h5 w e))]:=by
 have ar:=aR.N2 hw;have l:=gI (P:=prog) (c:=(ap f21 0)) w.bX (fun d=>d.bh==e) (fun i=>vQ (w.queue.map aD.e) (w.ck.map aD.e) (w.cb.map aD.e) (w.cells.map Cell.e) (w.bJ.map bb) (w.bV.map cp) (w.bt.map cp) (w.bX.map cz.e) e i) (X:=fun _ _=>Kq true) ff (cy 0)
  (fun i a aj h=>ath ⟨cc (a7 aj),bB,bI (a7 aj),bC cz.e aj,h,dc (a7 aj) ar,ad⟩)
  (fun i a aj h=>atg ⟨cc (a7 aj),bB,bI (a7 aj),bC cz.e aj,h,ad⟩)
  (ati ⟨dG,ad⟩)
 unfold h5;rcases l with⟨_,_,U,aa⟩ | ⟨i,a,_,_,_,_,U,aa⟩
 ·rw[U];exact atk ⟨aa,ad⟩
 rw[U];exact atj ⟨aa,ad⟩
theorem SS(xs:List cz)(e:Int)(ar:xs.length<=8388608):al 82 [.one (.J 2 (xs.map cz.e)),.one (I e)] [.one (B (xs.any fun d=>d.bh==e))]:=
 atl ⟨avd xs (fun d=>d.bh==e) _ _ ar (by kernel_rfl) (fun x _=>atm trivial),ad⟩
theorem avh(w:aR)(e:Int)(hw:w.sz<=8388608):al 43 [.agg w.e,.one (I e)] [.one (B (h5 w e))]:=
 asx ⟨SS w.bX e (aR.N2 hw),ad⟩
def yw(c:bi)(e:Int):Bool:=c.az.any fun w=>h5 w e
def rO(c:bi)(e:Int):Bool:=c.news.any fun x=>x.bh==e
theorem J1(w:aR)(e:Int)(r:Bool)(h:h5 w e=r)(hw:w.sz<=8388608):al 21 [.agg w.e,.one (I e)] [.one (B r)]:=h▸avg w e hw
theorem Pf{α:Type}{f:α->List D}(xs:List α)(b:Bool)(h:decide (xs.length=0)=b):((↑(xs.map f).length:Int)==0)=b:=by
 subst h;by_cases h:xs.length=0
 ·simp[h]
 rw[show decide (xs.length=0)=false from dX h];simp only[cr,yC,nQ];omega
