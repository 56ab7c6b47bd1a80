import Derived.Test.YtdchjefneblpgaaGreatT2
import Derived.Test.YtdchjefneblpgaaGreatGN
import Derived.Sort.Statements
import Derived.Shelf.SlSortCmp.Insertion
set_option linter.unusedVariables false
set_option linter.unusedSimpArgs false
namespace Go.Proofs.YtdchjefneblpgaaGreat
open Go.Sx Go.RowKit Go.Proofs.Tryz
def aq(n cP hi:Int):Bool:=decide (cP<=n/\n<=hi)
theorem hI(n cP hi:Int):ar 168 [.one (I n),.one (I cP),.one (I hi)] [.one (B (aq n cP hi))]:=by
 by_cases h:cP<=n
 ·have e:aq n cP hi=decide (n<=hi):=by simp[aq,h]
  rw[e];exact amD ⟨by simp only[cW];omega,aa⟩
 rw[show aq n cP hi=false by simp[aq,h]];exact amF ⟨by simp only[oB];omega,aa⟩
theorem fk(n cP hi:Int)(r:Bool)(h:aq n cP hi=r):ar 168 [.one (I n),.one (I cP),.one (I hi)] [.one (B r)]:=h▸hI n cP hi
theorem jU(n cP hi:Int):ar 190 [.one (I n),.one (I cP),.one (I hi)] [.one (B (aq n cP hi))]:=by
 by_cases h:cP<=n
 ·have e:aq n cP hi=decide (n<=hi):=by simp[aq,h]
  rw[e];exact amB ⟨by simp only[cW];omega,aa⟩
 rw[show aq n cP hi=false by simp[aq,h]];exact amC ⟨by simp only[oB];omega,aa⟩
theorem h4{n cP hi:Int}(r:Bool)(h:aq n cP hi=r):ar 190 [.one (I n),.one (I cP),.one (I hi)] [.one (B r)]:=h▸jU n cP hi
def hq(n cP hi:Int):Int:=if hi<cP then cP else if n<cP then cP else if hi<n then hi else n
theorem CT(n cP hi:Int):ar 130 [.one (I n),.one (I cP),.one (I hi)] [.one (I (hq n cP hi))]:=by
 unfold hq;by_cases h1:hi<cP
 ·rw[bM h1];exact alx ⟨by simpa using h1,aa⟩
 rw[bG h1];by_cases U:n<cP
 ·rw[bM U];exact aly ⟨by simpa using h1,by simpa using U,aa⟩
 rw[bG U];by_cases ax:hi<n
 ·rw[bM ax];exact akX ⟨by simpa using h1,by simpa using U,by simpa using ax,aa⟩
 rw[bG ax];exact akY ⟨by simpa using h1,by simpa using U,by simpa using ax,aa⟩
theorem aB.flat(r:aB):∀d∈r.e,∃x,d=.v x:=by
 intro d aG;simp only[aB.e,ep,nG,or_false]at aG;rcases aG with rfl | rfl | rfl | rfl | rfl<;>exact⟨_,rfl⟩
theorem Cell.flat(r:Cell):∀d∈r.e,∃x,d=.v x:=by
 intro d aG;simp only[Cell.e,ep,nG,or_false]at aG;rcases aG with rfl | rfl | rfl | rfl<;>exact⟨_,rfl⟩
theorem c9.flat(r:c9):∀d∈r.e,∃x,d=.v x:=by
 intro d aG;simp only[c9.e,ep,nG,or_false]at aG;rcases aG with rfl | rfl | rfl<;>exact⟨_,rfl⟩
theorem gd.flat(r:gd):∀d∈r.e,∃x,d=.v x:=by
 intro d aG;simp only[gd.e,ep,nG,or_false]at aG;rcases aG with rfl | rfl<;>exact⟨_,rfl⟩
theorem JY{α:Type}(p:α->Bool)(xs:List α)(i:Nat):((xs.take i).filter p).length<=i:=
 sc (qK ..) (by simp;omega)
theorem JZ(a r:Cell):(a.op==r.op&&(a.bc==r.bc&&(a.key==r.key&&a.val==r.val)))=decide (a=r):=by
 obtain⟨o,e,k,v⟩:=a;obtain⟨pg,e',ch,oq⟩:=r;rw[Bool.eq_iff_iff];simp only[cF,jL,cW,Cell.mk.injEq]
theorem Q4(a r:Cell):(r.op==a.op&&(r.bc==a.bc&&(r.key==a.key&&r.val==a.val)))=decide (a=r):=by
 rw[JZ r a];exact decide_eq_decide.2 ⟨Eq.symm,Eq.symm⟩
theorem K5{P:Program}{c:Code}{st:aD}{e:gQ}{α:Type}(f:α->aD){l fU:α}(h:gf P c st e (f l))(ap:l=fU):gf P c st e (f fU):=ap▸h
theorem am5{P:Program}{f:Nat}{args:List cz}{k:Nat}{l fU:List (List D)}(h:hA P f args [.one (.J k l)])(ap:l=fU):hA P f args [.one (.J k fU)]:=ap▸h
theorem w4{α β:Type}(f:α->List β)(c:Nat)(h:∀a,(f a).length<=c):∀xs:List α,(xs.flatMap f).length<=xs.length*c
 | []=>by simp
 | a::xs=>by
  have h1:=h a;have U:=w4 f c h xs;simp only[List.flatMap_cons,kH,hz,gB,Nat.one_mul];omega
theorem dM{p:Prop}[Decidable p](h:p):decide p=true:=kh h
theorem eL{p:Prop}[Decidable p](h:¬p):decide p=false:=mu h
end Go.Proofs.YtdchjefneblpgaaGreat
namespace Go.Proofs.YtdchjefneblpgaaGreat
open Go.Sx Go.RowKit Go.Proofs.Tryz
def io(a b:Int):Int:=if a<b then -1 else if b<a then 1 else 0
def rC(l:List Int):Int:=(l.find? (· != 0)).getD 0
theorem CU(a b:Int):ar 322 [.one (I a),.one (I b)] [.one (I (io a b))]:=by
 unfold io;by_cases h:a<b
 ·rw[bM h];exact amG ⟨dM h,aa⟩
 rw[bG h];by_cases U:b<a
 ·rw[bM U];exact amH ⟨eL h,dM U,aa⟩
 rw[bG U];exact amI ⟨eL h,eL U,aa⟩
theorem Q5(a:Int):ar 388 [.one (I a)] [.one (B false)]:=by
 have:=amJ a trivial;simpa using this
theorem Q6(a b:Int):ar 382 [.one (I a),.one (I b)] [.one (I (io a b))]:=by
 have x:=Q5 a;have y:=Q5 b;unfold io;by_cases h:a<b
 ·rw[bM h];exact amK ⟨x,y,rfl,rfl,dM h,aa⟩
 rw[bG h];by_cases U:b<a
 ·rw[bM U];exact amL ⟨x,y,rfl,rfl,eL h,dM U,aa⟩
 rw[bG U];exact amM ⟨x,y,rfl,rfl,eL h,eL U,aa⟩
theorem Q7{xs ys:List Int}{i:Nat}{d:Int}(h:(List.zipWith io xs ys)[i]?=some d):∃a b,xs[i]?=some a/\ys[i]?=some b/\io a b=d:=by
 rw[List.getElem?_zipWith]at h;cases h1:xs[i]? with
 | none=>simp[h1]at h
 | some a=>
  cases U:ys[i]? with
  | none=>simp[h1,U]at h
  | some b=>exact⟨a,b,rfl,rfl,by simpa[h1,U]using h⟩
theorem am6(xs ys:List Int)(ap:xs.length=ys.length)(hm:xs.length<=8388608):ar 364 [.one (.J 1 (xs.map a6)),.one (.J 1 (ys.map a6))] [.one (I (rC (List.zipWith io xs ys)))]:=by
 have bl:(List.zipWith io xs ys).length=xs.length:=by simp[ap]
 have l:=gy (P:=prog) (c:=(ao f364 0)) (List.zipWith io xs ys) (fun d=>d != 0) (fun i=>vj (xs.map a6) (ys.map a6) i) (X:=fun _ d=>JQ d) e7 (cH 0)
  (fun i d aG h=>by
   obtain⟨a,b,ah,aw,rfl⟩:=Q7 aG;exact amO ⟨b6 (a1 ah),bw,bE (a1 ah),bA a6 ah,eL (by have:=a1 aw;simp;omega),bw,bE (a1 aw),bA a6 aw,Q6 a b,h,dc (a1 ah) hm,aa⟩)
  (fun i d aG h=>by
   obtain⟨a,b,ah,aw,rfl⟩:=Q7 aG;exact amN ⟨b6 (a1 ah),bw,bE (a1 ah),bA a6 ah,eL (by have:=a1 aw;simp;omega),bw,bE (a1 aw),bA a6 aw,Q6 a b,h,aa⟩)
  (by rw[bl];exact amP ⟨dz,aa⟩)
 unfold rC;rcases l with⟨h1,_,_,U⟩ | ⟨i,a,_,_,h1,_,_,U⟩
 ·rw[h1];exact amR ⟨U,by simp[ap],aa⟩
 rw[h1];exact amQ ⟨U,aa⟩
theorem am7(xs ys:List Int)(ap:xs.length=ys.length)(hm:xs.length<=8388608):ar 335 [.one (.J 1 (xs.map a6)),.one (.J 1 (ys.map a6))] [.one (I (rC (List.zipWith io xs ys)))]:=
 amS ⟨am6 xs ys ap hm,aa⟩
def hr(a b:Cell):Int:=rC [io a.bc b.bc,io a.op b.op,io a.key b.key,io a.val b.val]
theorem CV(a b:Cell):ar 304 [.agg a.e,.agg b.e] [.one (I (hr a b))]:=
 amr ⟨am7 [a.bc,a.op,a.key,a.val] [b.bc,b.op,b.key,b.val] rfl (by simp),aa⟩
theorem CW(a b:Cell):ar 307 [.agg a.e,.agg b.e] [.one (I (hr a b))]:=by
 have cy:=CU a.bc b.bc;have ca:=CU a.op b.op;have cC:=CU a.key b.key;have ff:=CU a.val b.val;unfold hr;generalize io a.bc b.bc=ou at*;generalize io a.op b.op=kf at*;generalize io a.key b.key=vw at*;generalize io a.val b.val=tB at*;have l:=gy (P:=prog) (c:=(ao f307 0)) [ou,kf,vw,tB] (fun d=>d != 0) (fun i=>uH ou kf vw tB i) (X:=fun _ d=>JW d) e7 (cH 0)
  (fun i d aG h=>anT ⟨dM (by have:=a1 aG;simp at this;omega),bw,by have:=a1 aG;simp at this ⊢;omega,bA a6 aG,h,⟨by omega,by have:=a1 aG;simp at this;omega⟩,aa⟩)
  (fun i d aG h=>anS ⟨dM (by have:=a1 aG;simp at this;omega),bw,by have:=a1 aG;simp at this ⊢;omega,bA a6 aG,h,bw,by have:=a1 aG;simp at this ⊢;omega,bA a6 aG,aa⟩)
  (anU ⟨rfl,aa⟩)
 unfold rC;rcases l with⟨h1,_,_,U⟩ | ⟨i,a,_,_,h1,_,_,U⟩
 ·rw[h1];exact anW ⟨cy,ca,cC,ff,U,aa⟩
 rw[h1];exact anV ⟨cy,ca,cC,ff,U,aa⟩
end Go.Proofs.YtdchjefneblpgaaGreat
namespace Go.Proofs.YtdchjefneblpgaaGreat
open Go.Sx Go.RowKit Go.Sort Go.Proofs.Tryz
def oI(u v:List Int):Int:=rC (List.zipWith io u v)
theorem am8(d:Int)(l:List Int):rC (d::l)=if d=0 then rC l else d:=by
 unfold rC;by_cases h:d=0
 ·simp[h]
 simp[h]
theorem aoC(a b:Int)(u v:List Int):oI (a::u) (b::v)=if a=b then oI u v else io a b:=by
 unfold oI;rw[List.zipWith_cons_cons,am8];have:io a b=0<->a=b:=by unfold io;split<;>(try split)<;>constructor<;>intro h<;>omega
 by_cases h:a=b
 ·rw[bM (this.2 h),bM h]
 rw[bG (fun e=>h (this.1 e)),bG h]
theorem Q8(a b:Int)(u v:List Int):oI (a::u) (b::v)<0<->a<b\/(a=b/\oI u v<0):=by
 rw[aoC];split
 ·constructor
  ·intro h;exact .inr ⟨‹_›,h⟩
  rintro (h | h)
  ·omega
  exact h.2
 ·unfold io;split<;>(try split)<;>constructor<;>intro h<;>omega
theorem Q9:∀(u v w:List Int),u.length=v.length->v.length=w.length->oI u v<0->oI v w<0->oI u w<0
 | [],[],[],_,_,h,_=>h
 | a::u,b::v,c::w,h1,U,ax,aJ=>by
  rw[Q8] at*;have:=Q9 u v w (by simpa using h1) (by simpa using U);omega
theorem Q':∀(u v:List Int),u.length=v.length->¬oI u v<0->¬oI v u<0->u=v
 | [],[],_,_,_=>rfl
 | a::u,b::v,h1,ax,aJ=>by
  rw[Q8]at ax aJ;have hU:a=b:=by omega
  subst hU;rw[Q' u v (by simpa using h1) (by omega) (by omega)]
section
variable {α : Type}
abbrev as1(lt:α->α->Bool)(S:List α):Prop:=S.Pairwise fun a b=>(!lt b a)=true
end
end Go.Proofs.YtdchjefneblpgaaGreat
namespace Go.Proofs.YtdchjefneblpgaaGreat
open Go.Sx Go.RowKit Go.Proofs.Tryz
def rv{α:Type}(p:α->Bool)(xs:List α):Int:=match xs.findIdx? p with | some i=>i | none=>-1
theorem aoD{α:Type}(p:α->Bool)(xs:List α):decide (rv p xs>=0)=xs.any p:=by
 unfold rv;cases h:xs.findIdx? p with
 | none=>
  have:xs.any p=false:=by
   rw[hd];rw[EJ]at h;exact fun a ah=>by simp[h a ah]
  rw[this];rfl
 | some i=>
  rw[tE]at h;obtain⟨hi,U,_⟩:=h;have:xs.any p=true:=qP.2 ⟨_,qM hi,U⟩;rw[this];simp
theorem aoE(xs:List cw)(p:cw->Bool)(g:Nat)(br:List D)(ap:xs.length<=8388608)(al:iv prog g=true)(hp:∀x∈xs,ar g ([.agg x.e]++br.map .one) [.one (B (p x))]):
  ar 352 [.one (.J 2 (xs.map cw.e)),.one (.cl g br)] [.one (I (rv p xs))]:=by
 have o4:∀x∈xs,∀r,p x=r->ar g ([.agg x.e]++br.map .one) [.one (B r)]:=fun x ak r h=>h▸hp x ak
 have l:=gy (P:=prog) (c:=(ao f352 0)) xs p (fun i=>vm (xs.map cw.e) g br i) (X:=fun i _=>JS i) e7 (cH 0)
  (fun i a ah h=>amf ⟨b6 (a1 ah),bw,bE (a1 ah),bA cw.e ah,al,o4 a (eA ah) false h,rfl,dc (a1 ah) ap,aa⟩)
  (fun i a ah h=>ame ⟨b6 (a1 ah),bw,bE (a1 ah),bA cw.e ah,al,o4 a (eA ah) true h,rfl,aa⟩)
  (amg ⟨dz,aa⟩)
 rcases l with⟨_,h1,_,U⟩ | ⟨i,a,_,_,_,h1,_,U⟩
 ·simp only[rv,h1];exact ami ⟨U,aa⟩
 simp only[rv,h1];exact amh ⟨U,aa⟩
theorem aoF(xs:List cw)(p:cw->Bool)(g:Nat)(br:List D)(ap:xs.length<=8388608)(al:iv prog g=true)(hp:∀x∈xs,ar g ([.agg x.e]++br.map .one) [.one (B (p x))]):
  ar 328 [.one (.J 2 (xs.map cw.e)),.one (.cl g br)] [.one (B (xs.any p))]:=by
 rw[<-aoD];exact amo ⟨aoE xs p g br ap al hp,aa⟩
theorem aoG(xs:List Cell)(p:Cell->Bool)(g:Nat)(br:List D)(ap:xs.length<=8388608)(al:iv prog g=true)(hp:∀x∈xs,ar g ([.agg x.e]++br.map .one) [.one (B (p x))]):
  ar 375 [.one (.J 4 (xs.map Cell.e)),.one (.cl g br)] [.one (I (rv p xs))]:=by
 have o4:∀x∈xs,∀r,p x=r->ar g ([.agg x.e]++br.map .one) [.one (B r)]:=fun x ak r h=>h▸hp x ak
 have l:=gy (P:=prog) (c:=(ao f375 0)) xs p (fun i=>vn (xs.map Cell.e) g br i) (X:=fun i _=>JT i) e7 (cH 0)
  (fun i a ah h=>amk ⟨b6 (a1 ah),bw,bE (a1 ah),bA Cell.e ah,al,o4 a (eA ah) false h,rfl,dc (a1 ah) ap,aa⟩)
  (fun i a ah h=>amj ⟨b6 (a1 ah),bw,bE (a1 ah),bA Cell.e ah,al,o4 a (eA ah) true h,rfl,aa⟩)
  (aml ⟨dz,aa⟩)
 rcases l with⟨_,h1,_,U⟩ | ⟨i,a,_,_,_,h1,_,U⟩
 ·simp only[rv,h1];exact amn ⟨U,aa⟩
 simp only[rv,h1];exact amm ⟨U,aa⟩
