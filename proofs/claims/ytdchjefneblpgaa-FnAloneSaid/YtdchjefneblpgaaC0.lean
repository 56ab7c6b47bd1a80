import Derived.Test.YtdchjefneblpgaaT2
import Derived.Test.YtdchjefneblpgaaGN
import Derived.Sort.Statements
import Derived.Shelf.SlSortCmp.Insertion
set_option linter.unusedVariables false
set_option linter.unusedSimpArgs false
namespace Go.Proofs.Ytdchjefneblpgaa
open Go.Sx Go.RowKit Go.Proofs.Try
def af(n cp hi:Int):Bool:=decide (cp<=n/\n<=hi)
theorem ht(n cp hi:Int):aA 56 [.one (I n),.one (I cp),.one (I hi)] [.one (B (af n cp hi))]:=by
 by_cases h:cp<=n
 ·have e:af n cp hi=decide (n<=hi):=by simp[af,h]
  rw[e];exact SH ⟨by simp only[cF];omega,aj⟩
 rw[show af n cp hi=false by simp[af,h]];exact R7 ⟨by simp only[mG];omega,aj⟩
theorem Lm{n cp hi:Int}{r:Bool}(h:af n cp hi=r):aA 56 [.one (I n),.one (I cp),.one (I hi)] [.one (B r)]:=h▸ht n cp hi
theorem j'(n cp hi:Int):aA 49 [.one (I n),.one (I cp),.one (I hi)] [.one (B (af n cp hi))]:=by
 by_cases h:cp<=n
 ·have e:af n cp hi=decide (n<=hi):=by simp[af,h]
  rw[e];exact SF ⟨by simp only[cF];omega,aj⟩
 rw[show af n cp hi=false by simp[af,h]];exact SG ⟨by simp only[mG];omega,aj⟩
theorem Ln{n cp hi:Int}{r:Bool}(h:af n cp hi=r):aA 49 [.one (I n),.one (I cp),.one (I hi)] [.one (B r)]:=h▸j' n cp hi
def r8(n cp hi:Int):Int:=if hi<cp then cp else if n<cp then cp else if hi<n then hi else n
theorem Uu(n cp hi:Int):aA 67 [.one (I n),.one (I cp),.one (I hi)] [.one (I (r8 n cp hi))]:=by
 unfold r8;by_cases J:hi<cp
 ·rw[bb J];exact SB ⟨by simpa using J,aj⟩
 rw[aZ J];by_cases U:n<cp
 ·rw[bb U];exact SC ⟨by simpa using J,by simpa using U,aj⟩
 rw[aZ U];by_cases ax:hi<n
 ·rw[bb ax];exact SD ⟨by simpa using J,by simpa using U,by simpa using ax,aj⟩
 rw[aZ ax];exact SE ⟨by simpa using J,by simpa using U,by simpa using ax,aj⟩
theorem aQ.flat(r:aQ):∀d∈r.e,∃x,d=.v x:=by
 intro d ay;simp only[aQ.e,dj,nZ,or_false]at ay;rcases ay with rfl | rfl | rfl | rfl | rfl<;>exact⟨_,rfl⟩
theorem Cell.flat(r:Cell):∀d∈r.e,∃x,d=.v x:=by
 intro d ay;simp only[Cell.e,dj,nZ,or_false]at ay;rcases ay with rfl | rfl | rfl | rfl<;>exact⟨_,rfl⟩
theorem n2.flat(r:n2):∀d∈r.e,∃x,d=.v x:=by
 intro d ay;simp only[n2.e,dj,nZ,or_false]at ay;rcases ay with rfl | rfl | rfl<;>exact⟨_,rfl⟩
theorem fl.flat(r:fl):∀d∈r.e,∃x,d=.v x:=by
 intro d ay;simp only[fl.e,dj,nZ,or_false]at ay;rcases ay with rfl | rfl<;>exact⟨_,rfl⟩
theorem pO{α:Type}(p:α->Bool)(xs:List α)(i:Nat):((xs.take i).filter p).length<=i:=
 k2 (mC ..) (by simp;omega)
theorem r9(a r:Cell):(a.op==r.op&&(a.aV==r.aV&&(a.key==r.key&&a.val==r.val)))=decide (a=r):=by
 obtain⟨o,e,k,v⟩:=a;obtain⟨nz,e',bS,my⟩:=r;rw[Bool.eq_iff_iff];simp only[b0,fR,cF,Cell.mk.injEq]
theorem Lo(a r:Cell):(r.op==a.op&&(r.aV==a.aV&&(r.key==a.key&&r.val==a.val)))=decide (a=r):=by
 rw[r9 r a];exact decide_eq_decide.2 ⟨Eq.symm,Eq.symm⟩
theorem uI{P:Program}{c:Code}{st:aG}{e:fH}{α:Type}(f:α->aG){l ff:α}(h:eS P c st e (f l))(ak:l=ff):eS P c st e (f ff):=ak▸h
theorem Uv{P:Program}{f:Nat}{args:List b7}{k:Nat}{l ff:List (List D)}(h:gm P f args [.one (.aa k l)])(ak:l=ff):gm P f args [.one (.aa k ff)]:=ak▸h
theorem e3{p:Prop}[Decidable p](h:p):decide p=true:=p9 h
theorem gG{p:Prop}[Decidable p](h:¬p):decide p=false:=oZ h
end Go.Proofs.Ytdchjefneblpgaa
namespace Go.Proofs.Ytdchjefneblpgaa
open Go.Sx Go.RowKit Go.Proofs.Try
def hq(a b:Int):Int:=if a<b then -1 else if b<a then 1 else 0
def ot(l:List Int):Int:=(l.find? (· != 0)).getD 0
theorem y9(a b:Int):aA 87 [.one (I a),.one (I b)] [.one (I (hq a b))]:=by
 unfold hq;by_cases h:a<b
 ·rw[bb h];exact R8 ⟨e3 h,aj⟩
 rw[aZ h];by_cases U:b<a
 ·rw[bb U];exact R9 ⟨gG h,e3 U,aj⟩
 rw[aZ U];exact R' ⟨gG h,gG U,aj⟩
theorem Lp(a:Int):aA 97 [.one (I a)] [.one (B false)]:=by
 have:=Sa a trivial;simpa using this
theorem Lq(a b:Int):aA 95 [.one (I a),.one (I b)] [.one (I (hq a b))]:=by
 have x:=Lp a;have y:=Lp b;unfold hq;by_cases h:a<b
 ·rw[bb h];exact Sb ⟨x,y,rfl,rfl,e3 h,aj⟩
 rw[aZ h];by_cases U:b<a
 ·rw[bb U];exact Sc ⟨x,y,rfl,rfl,gG h,e3 U,aj⟩
 rw[aZ U];exact Sd ⟨x,y,rfl,rfl,gG h,gG U,aj⟩
theorem Lr{xs ys:List Int}{i:Nat}{d:Int}(h:(List.zipWith hq xs ys)[i]?=some d):∃a b,xs[i]?=some a/\ys[i]?=some b/\hq a b=d:=by
 rw[List.getElem?_zipWith]at h;cases J:xs[i]? with
 | none=>simp[J]at h
 | some a=>
  cases U:ys[i]? with
  | none=>simp[J,U]at h
  | some b=>exact⟨a,b,rfl,rfl,by simpa[J,U]using h⟩
theorem Uw(xs ys:List Int)(ak:xs.length=ys.length)(hm:xs.length<=8388608):aA 93 [.one (.aa 1 (xs.map aY)),.one (.aa 1 (ys.map aY))] [.one (I (ot (List.zipWith hq xs ys)))]:=by
 have aL:(List.zipWith hq xs ys).length=xs.length:=by simp[ak]
 have l:=oD (P:=prog) (c:=(aF f93 0)) (List.zipWith hq xs ys) (fun d=>d != 0) (fun i=>sI (xs.map aY) (ys.map aY) i) (X:=fun _ d=>Ej d) jo (di 0)
  (fun i d ay h=>by
   obtain⟨a,b,aC,ah,rfl⟩:=Lr ay;exact Sf ⟨dr (ct aC),c1,dh (ct aC),c2 aY aC,gG (by have:=ct ah;simp;omega),c1,dh (ct ah),c2 aY ah,Lq a b,h,eN (ct aC) hm,aj⟩)
  (fun i d ay h=>by
   obtain⟨a,b,aC,ah,rfl⟩:=Lr ay;exact Se ⟨dr (ct aC),c1,dh (ct aC),c2 aY aC,gG (by have:=ct ah;simp;omega),c1,dh (ct ah),c2 aY ah,Lq a b,h,aj⟩)
  (by rw[aL];exact TI ⟨fb,aj⟩)
 unfold ot;rcases l with⟨J,_,_,U⟩ | ⟨i,a,_,_,J,_,_,U⟩
 ·rw[J];exact TK ⟨U,by simp[ak],aj⟩
 rw[J];exact TJ ⟨U,aj⟩
theorem Ux(xs ys:List Int)(ak:xs.length=ys.length)(hm:xs.length<=8388608):aA 89 [.one (.aa 1 (xs.map aY)),.one (.aa 1 (ys.map aY))] [.one (I (ot (List.zipWith hq xs ys)))]:=
 TL ⟨Uw xs ys ak hm,aj⟩
def eH(a b:Cell):Int:=ot [hq a.aV b.aV,hq a.op b.op,hq a.key b.key,hq a.val b.val]
theorem Ls(a b:Cell):aA 84 [.agg a.e,.agg b.e] [.one (I (eH a b))]:=
 TX ⟨Ux [a.aV,a.op,a.key,a.val] [b.aV,b.op,b.key,b.val] rfl (by simp),aj⟩
theorem Lt(a b:Cell):aA 77 [.agg a.e,.agg b.e] [.one (I (eH a b))]:=by
 have cu:=y9 a.aV b.aV;have cc:=y9 a.op b.op;have c7:=y9 a.key b.key;have gw:=y9 a.val b.val;unfold eH;generalize hq a.aV b.aV=jR at*;generalize hq a.op b.op=iu at*;generalize hq a.key b.key=rj at*;generalize hq a.val b.val=p8 at*;have l:=oD (P:=prog) (c:=(aF f77 0)) [jR,iu,rj,p8] (fun d=>d != 0) (fun i=>sN jR iu rj p8 i) (X:=fun _ d=>En d) jo (di 0)
  (fun i d ay h=>Tb ⟨e3 (by have:=ct ay;simp at this;omega),c1,by have:=ct ay;simp at this ⊢;omega,c2 aY ay,h,⟨by omega,by have:=ct ay;simp at this;omega⟩,aj⟩)
  (fun i d ay h=>Ta ⟨e3 (by have:=ct ay;simp at this;omega),c1,by have:=ct ay;simp at this ⊢;omega,c2 aY ay,h,c1,by have:=ct ay;simp at this ⊢;omega,c2 aY ay,aj⟩)
  (Tc ⟨rfl,aj⟩)
 unfold ot;rcases l with⟨J,_,_,U⟩ | ⟨i,a,_,_,J,_,_,U⟩
 ·rw[J];exact Te ⟨cu,cc,c7,gw,U,aj⟩
 rw[J];exact Td ⟨cu,cc,c7,gw,U,aj⟩
end Go.Proofs.Ytdchjefneblpgaa
namespace Go.Proofs.Ytdchjefneblpgaa
open Go.Sx Go.RowKit Go.Sort Go.Proofs.Try
def k'(u v:List Int):Int:=ot (List.zipWith hq u v)
theorem Uy(d:Int)(l:List Int):ot (d::l)=if d=0 then ot l else d:=by
 unfold ot;by_cases h:d=0
 ·simp[h]
 simp[h]
theorem Uz(a b:Int)(u v:List Int):k' (a::u) (b::v)=if a=b then k' u v else hq a b:=by
 unfold k';rw[List.zipWith_cons_cons,Uy];have:hq a b=0<->a=b:=by unfold hq;split<;>(try split)<;>constructor<;>intro h<;>omega
 by_cases h:a=b
 ·rw[bb (this.2 h),bb h]
 rw[aZ (fun e=>h (this.1 e)),aZ h]
theorem Ep(a b:Int)(u v:List Int):k' (a::u) (b::v)<0<->a<b\/(a=b/\k' u v<0):=by
 rw[Uz];split
 ·constructor
  ·intro h;exact .inr ⟨‹_›,h⟩
  rintro (h | h)
  ·omega
  exact h.2
 ·unfold hq;split<;>(try split)<;>constructor<;>intro h<;>omega
theorem Lu:∀u:List Int,¬k' u u<0
 | []=>by simp[k',ot]
 | a::u=>by rw[Ep];have:=Lu u;omega
theorem Lv:∀(u v w:List Int),u.length=v.length->v.length=w.length->k' u v<0->k' v w<0->k' u w<0
 | [],[],[],_,_,h,_=>h
 | a::u,b::v,c::w,J,U,ax,aJ=>by
  rw[Ep] at*;have:=Lv u v w (by simpa using J) (by simpa using U);omega
theorem Lw:∀(u v:List Int),u.length=v.length->¬k' u v<0->¬k' v u<0->u=v
 | [],[],_,_,_=>rfl
 | a::u,b::v,J,ax,aJ=>by
  rw[Ep]at ax aJ;have jj:a=b:=by omega
  subst jj;rw[Lw u v (by simpa using J) (by omega) (by omega)]
section
variable {α : Type}
abbrev aeC(lt:α->α->Bool)(S:List α):Prop:=S.Pairwise fun a b=>(!lt b a)=true
end
end Go.Proofs.Ytdchjefneblpgaa
namespace Go.Proofs.Ytdchjefneblpgaa
open Go.Sx Go.RowKit Go.Proofs.Try
def yn{α:Type}(p:α->Bool)(xs:List α):Int:=match xs.findIdx? p with | some i=>i | none=>-1
theorem UA(xs:List Cell)(p:Cell->Bool)(g:Nat)(cD:List D)(ak:xs.length<=8388608)(ai:hM prog g=true)(hp:∀x∈xs,aA g ([.agg x.e]++cD.map .one) [.one (B (p x))]):
  aA 88 [.one (.aa 4 (xs.map Cell.e)),.one (.da g cD)] [.one (I (yn p xs))]:=by
 have qw:∀x∈xs,∀r,p x=r->aA g ([.agg x.e]++cD.map .one) [.one (B r)]:=fun x ae r h=>h▸hp x ae
 have l:=oD (P:=prog) (c:=(aF f88 0)) xs p (fun i=>sK (xs.map Cell.e) g cD i) (X:=fun i _=>Ek i) jo (di 0)
  (fun i a aC h=>TR ⟨dr (ct aC),c1,dh (ct aC),c2 Cell.e aC,ai,qw a (h7 aC) false h,rfl,eN (ct aC) ak,aj⟩)
  (fun i a aC h=>TQ ⟨dr (ct aC),c1,dh (ct aC),c2 Cell.e aC,ai,qw a (h7 aC) true h,rfl,aj⟩)
  (TS ⟨fb,aj⟩)
 rcases l with⟨_,J,_,U⟩ | ⟨i,a,_,_,_,J,_,U⟩
 ·simp only[yn,J];exact TU ⟨U,aj⟩
 simp only[yn,J];exact TT ⟨U,aj⟩
