import Derived.Test.YtdchjefneblpgaaGreatT2
import Derived.Test.YtdchjefneblpgaaGreatGN
import Derived.Sort.Statements
import Derived.Shelf.SlSortCmp.Insertion
set_option linter.unusedVariables false
set_option linter.unusedSimpArgs false
namespace Go.Proofs.YtdchjefneblpgaaGreat
open Go.Sx Go.RowKit Go.Proofs.Tryz
def ar(n cZ hi:Int):Bool:=decide (cZ<=n/\n<=hi)
theorem iJ(n cZ hi:Int):aw 168 [.one (I n),.one (I cZ),.one (I hi)] [.one (B (ar n cZ hi))]:=by
 by_cases h:cZ<=n
 ·have e:ar n cZ hi=decide (n<=hi):=by simp[ar,h]
  rw[e];exact asW ⟨by simp only[cr];omega,ad⟩
 rw[show ar n cZ hi=false by simp[ar,h]];exact auo ⟨by simp only[kA];omega,ad⟩
theorem fD{n cZ hi:Int}(r:Bool)(h:ar n cZ hi=r):aw 168 [.one (I n),.one (I cZ),.one (I hi)] [.one (B r)]:=h▸iJ n cZ hi
theorem kR(n cZ hi:Int):aw 190 [.one (I n),.one (I cZ),.one (I hi)] [.one (B (ar n cZ hi))]:=by
 by_cases h:cZ<=n
 ·have e:ar n cZ hi=decide (n<=hi):=by simp[ar,h]
  rw[e];exact asU ⟨by simp only[cr];omega,ad⟩
 rw[show ar n cZ hi=false by simp[ar,h]];exact asV ⟨by simp only[kA];omega,ad⟩
theorem jL{n cZ hi:Int}(r:Bool)(h:ar n cZ hi=r):aw 190 [.one (I n),.one (I cZ),.one (I hi)] [.one (B r)]:=h▸kR n cZ hi
def gG(n cZ hi:Int):Int:=if hi<cZ then cZ else if n<cZ then cZ else if hi<n then hi else n
theorem EK(n cZ hi:Int):aw 130 [.one (I n),.one (I cZ),.one (I hi)] [.one (I (gG n cZ hi))]:=by
 unfold gG;by_cases h1:hi<cZ
 ·rw[bi h1];exact atd ⟨by simpa using h1,ad⟩
 rw[ba h1];by_cases U:n<cZ
 ·rw[bi U];exact ate ⟨by simpa using h1,by simpa using U,ad⟩
 rw[ba U];by_cases ax:hi<n
 ·rw[bi ax];exact atf ⟨by simpa using h1,by simpa using U,by simpa using ax,ad⟩
 rw[ba ax];exact atg ⟨by simpa using h1,by simpa using U,by simpa using ax,ad⟩
theorem avL(n cZ hi:Int):aw 167 [.one (I n),.one (I cZ),.one (I hi)] [.one (I (gG n cZ hi))]:=by
 unfold gG;by_cases h1:hi<cZ
 ·rw[bi h1];exact ath ⟨by simpa using h1,ad⟩
 rw[ba h1];by_cases U:n<cZ
 ·rw[bi U];exact ati ⟨by simpa using h1,by simpa using U,ad⟩
 rw[ba U];exact atj ⟨by simpa using h1,by simpa using U,ad⟩
theorem aB.flat(r:aB):∀d∈r.e,∃x,d=.v x:=by
 intro d aE;simp only[aB.e,ez,n1,or_false]at aE;rcases aE with rfl | rfl | rfl | rfl | rfl<;>exact⟨_,rfl⟩
theorem Cell.flat(r:Cell):∀d∈r.e,∃x,d=.v x:=by
 intro d aE;simp only[Cell.e,ez,n1,or_false]at aE;rcases aE with rfl | rfl | rfl | rfl<;>exact⟨_,rfl⟩
theorem cP.flat(r:cP):∀d∈r.e,∃x,d=.v x:=by
 intro d aE;simp only[cP.e,ez,n1,or_false]at aE;rcases aE with rfl | rfl | rfl<;>exact⟨_,rfl⟩
theorem hG.flat(r:hG):∀d∈r.e,∃x,d=.v x:=by
 intro d aE;simp only[hG.e,ez,n1,or_false]at aE;rcases aE with rfl | rfl<;>exact⟨_,rfl⟩
theorem LS{α:Type}(p:α->Bool)(xs:List α)(i:Nat):((xs.take i).filter p).length<=i:=
 nc (r9 ..) (by simp;omega)
theorem F9(a r:aB):(a.op==r.op&&(a.bq.bh==r.bq.bh&&a.bq.di==r.bq.di&&(a.key==r.key&&a.val==r.val)))=decide (a=r):=by
 obtain⟨o,⟨e,t⟩,k,v⟩:=a;obtain⟨oB,⟨e',dt⟩,cn,r5⟩:=r;rw[Bool.eq_iff_iff];simp only[cm,ed,cr,aB.mk.injEq,hG.mk.injEq]
theorem y9(a r:Cell):(a.op==r.op&&(a.bh==r.bh&&(a.key==r.key&&a.val==r.val)))=decide (a=r):=by
 obtain⟨o,e,k,v⟩:=a;obtain⟨oB,e',cn,r5⟩:=r;rw[Bool.eq_iff_iff];simp only[cm,ed,cr,Cell.mk.injEq]
theorem XU{P:Program}{c:Code}{st:aF}{e:hE}{α:Type}(f:α->aF){l hg:α}(h:gl P c st e (f l))(ag:l=hg):gl P c st e (f hg):=ag▸h
theorem avM{P:Program}{f:Nat}{args:List cQ}{k:Nat}{l hg:List (List D)}(h:iX P f args [.one (.J k l)])(ag:l=hg):iX P f args [.one (.J k hg)]:=ag▸h
theorem y'{α β:Type}(f:α->List β)(c:Nat)(h:∀a,(f a).length<=c):∀xs:List α,(xs.flatMap f).length<=xs.length*c
 | []=>by simp
 | a::xs=>by
  have h1:=h a;have U:=y' f c h xs;simp only[List.flatMap_cons,jy,dK,fA,Nat.one_mul];omega
theorem bU{p:Prop}[Decidable p](h:p):decide p=true:=iV h
theorem bY{p:Prop}[Decidable p](h:¬p):decide p=false:=lN h
end Go.Proofs.YtdchjefneblpgaaGreat
namespace Go.Proofs.YtdchjefneblpgaaGreat
open Go.Sx Go.RowKit Go.Proofs.Tryz
def ju(a b:Int):Int:=if a<b then -1 else if b<a then 1 else 0
def sY(l:List Int):Int:=(l.find? (· != 0)).getD 0
theorem EL(a b:Int):aw 322 [.one (I a),.one (I b)] [.one (I (ju a b))]:=by
 unfold ju;by_cases h:a<b
 ·rw[bi h];exact aup ⟨bU h,ad⟩
 rw[ba h];by_cases U:b<a
 ·rw[bi U];exact auq ⟨bY h,bU U,ad⟩
 rw[ba U];exact aur ⟨bY h,bY U,ad⟩
theorem SX(a:Int):aw 388 [.one (I a)] [.one (B false)]:=by
 have:=aus a trivial;simpa using this
theorem SY(a b:Int):aw 382 [.one (I a),.one (I b)] [.one (I (ju a b))]:=by
 have x:=SX a;have y:=SX b;unfold ju;by_cases h:a<b
 ·rw[bi h];exact aut ⟨x,y,rfl,rfl,bU h,ad⟩
 rw[ba h];by_cases U:b<a
 ·rw[bi U];exact auu ⟨x,y,rfl,rfl,bY h,bU U,ad⟩
 rw[ba U];exact auv ⟨x,y,rfl,rfl,bY h,bY U,ad⟩
theorem SZ{xs ys:List Int}{i:Nat}{d:Int}(h:(List.zipWith ju xs ys)[i]?=some d):∃a b,xs[i]?=some a/\ys[i]?=some b/\ju a b=d:=by
 rw[List.getElem?_zipWith]at h;cases h1:xs[i]? with
 | none=>simp[h1]at h
 | some a=>
  cases U:ys[i]? with
  | none=>simp[h1,U]at h
  | some b=>exact⟨a,b,rfl,rfl,by simpa[h1,U]using h⟩
theorem avN(xs ys:List Int)(ag:xs.length=ys.length)(hm:xs.length<=8388608):aw 364 [.one (.J 1 (xs.map bb)),.one (.J 1 (ys.map bb))] [.one (I (sY (List.zipWith ju xs ys)))]:=by
 have a6:(List.zipWith ju xs ys).length=xs.length:=by simp[ag]
 have l:=hM (P:=prog) (c:=(aq f364 0)) (List.zipWith ju xs ys) (fun d=>d != 0) (fun i=>wz (xs.map bb) (ys.map bb) i) (X:=fun _ d=>LN d) dZ (cC 0)
  (fun i d aE h=>by
   obtain⟨a,b,ae,aj,rfl⟩:=SZ aE;exact auy ⟨bV (aP ae),bk,bm (aP ae),bl bb ae,bY (by have:=aP aj;simp;omega),bk,bm (aP aj),bl bb aj,SY a b,h,c3 (aP ae) hm,ad⟩)
  (fun i d aE h=>by
   obtain⟨a,b,ae,aj,rfl⟩:=SZ aE;exact auw ⟨bV (aP ae),bk,bm (aP ae),bl bb ae,bY (by have:=aP aj;simp;omega),bk,bm (aP aj),bl bb aj,SY a b,h,ad⟩)
  (by rw[a6];exact auz ⟨dk,ad⟩)
 unfold sY;rcases l with⟨h1,_,_,U⟩ | ⟨i,a,_,_,h1,_,_,U⟩
 ·rw[h1];exact auB ⟨U,by simp[ag],ad⟩
 rw[h1];exact auA ⟨U,ad⟩
theorem avO(xs ys:List Int)(ag:xs.length=ys.length)(hm:xs.length<=8388608):aw 335 [.one (.J 1 (xs.map bb)),.one (.J 1 (ys.map bb))] [.one (I (sY (List.zipWith ju xs ys)))]:=
 auC ⟨avN xs ys ag hm,ad⟩
def iK(a b:Cell):Int:=sY [ju a.bh b.bh,ju a.op b.op,ju a.key b.key,ju a.val b.val]
theorem S0(a b:Cell):aw 304 [.agg a.e,.agg b.e] [.one (I (iK a b))]:=
 aud ⟨avO [a.bh,a.op,a.key,a.val] [b.bh,b.op,b.key,b.val] rfl (by simp),ad⟩
theorem EM(a b:Cell):aw 307 [.agg a.e,.agg b.e] [.one (I (iK a b))]:=by
 have cv:=EL a.bh b.bh;have ca:=EL a.op b.op;have cD:=EL a.key b.key;have ff:=EL a.val b.val;unfold iK;generalize ju a.bh b.bh=lK at*;generalize ju a.op b.op=ho at*;generalize ju a.key b.key=iS at*;generalize ju a.val b.val=tv at*;have l:=hM (P:=prog) (c:=(aq f307 0)) [lK,ho,iS,tv] (fun d=>d != 0) (fun i=>wE lK ho iS tv i) (X:=fun _ d=>LQ d) dZ (cC 0)
  (fun i d aE h=>auf ⟨bU (by have:=aP aE;simp at this;omega),bk,by have:=aP aE;simp at this ⊢;omega,bl bb aE,h,⟨by omega,by have:=aP aE;simp at this;omega⟩,ad⟩)
  (fun i d aE h=>aue ⟨bU (by have:=aP aE;simp at this;omega),bk,by have:=aP aE;simp at this ⊢;omega,bl bb aE,h,bk,by have:=aP aE;simp at this ⊢;omega,bl bb aE,ad⟩)
  (aug ⟨rfl,ad⟩)
 unfold sY;rcases l with⟨h1,_,_,U⟩ | ⟨i,a,_,_,h1,_,_,U⟩
 ·rw[h1];exact aui ⟨cv,ca,cD,ff,U,ad⟩
 rw[h1];exact auh ⟨cv,ca,cD,ff,U,ad⟩
end Go.Proofs.YtdchjefneblpgaaGreat
namespace Go.Proofs.YtdchjefneblpgaaGreat
open Go.Sx Go.RowKit Go.Sort Go.Proofs.Tryz
def pX(u v:List Int):Int:=sY (List.zipWith ju u v)
theorem auZ(d:Int)(l:List Int):sY (d::l)=if d=0 then sY l else d:=by
 unfold sY;by_cases h:d=0
 ·simp[h]
 simp[h]
theorem au0(a b:Int)(u v:List Int):pX (a::u) (b::v)=if a=b then pX u v else ju a b:=by
 unfold pX;rw[List.zipWith_cons_cons,auZ];have:ju a b=0<->a=b:=by unfold ju;split<;>(try split)<;>constructor<;>intro h<;>omega
 by_cases h:a=b
 ·rw[bi (this.2 h),bi h]
 rw[ba (fun e=>h (this.1 e)),ba h]
theorem S1(a b:Int)(u v:List Int):pX (a::u) (b::v)<0<->a<b\/(a=b/\pX u v<0):=by
 rw[au0];split
 ·constructor
  ·intro h;exact .inr ⟨‹_›,h⟩
  rintro (h | h)
  ·omega
  exact h.2
 ·unfold ju;split<;>(try split)<;>constructor<;>intro h<;>omega
theorem S2:∀(u v w:List Int),u.length=v.length->v.length=w.length->pX u v<0->pX v w<0->pX u w<0
 | [],[],[],_,_,h,_=>h
 | a::u,b::v,c::w,h1,U,ax,aK=>by
  rw[S1] at*;have:=S2 u v w (by simpa using h1) (by simpa using U);omega
theorem Sq:∀(u v:List Int),u.length=v.length->¬pX u v<0->¬pX v u<0->u=v
 | [],[],_,_,_=>rfl
 | a::u,b::v,h1,ax,aK=>by
  rw[S1]at ax aK;have ek:a=b:=by omega
  subst ek;rw[Sq u v (by simpa using h1) (by omega) (by omega)]
section
variable {α : Type}
abbrev ayF(lt:α->α->Bool)(S:List α):Prop:=S.Pairwise fun a b=>(!lt b a)=true
end
end Go.Proofs.YtdchjefneblpgaaGreat
namespace Go.Proofs.YtdchjefneblpgaaGreat
open Go.Sx Go.RowKit Go.Proofs.Tryz
def AR{α:Type}(p:α->Bool)(xs:List α):Int:=match xs.findIdx? p with | some i=>i | none=>-1
theorem au1{α:Type}(p:α->Bool)(xs:List α):decide (AR p xs>=0)=xs.any p:=by
 unfold AR;cases h:xs.findIdx? p with
 | none=>
  have:xs.any p=false:=by
   rw[fh];rw[O2]at h;exact fun a ae=>by simp[h a ae]
  rw[this];rfl
 | some i=>
  rw[zN]at h;obtain⟨hi,U,_⟩:=h;have:xs.any p=true:=nd.2 ⟨_,zP hi,U⟩;rw[this];simp
theorem au2(xs:List cx)(p:cx->Bool)(g:Nat)(bB:List D)(ag:xs.length<=8388608)(ak:jJ prog g=true)(hp:∀x∈xs,aw g ([.agg x.e]++bB.map .one) [.one (B (p x))]):
  aw 352 [.one (.J 2 (xs.map cx.e)),.one (.cl g bB)] [.one (I (AR p xs))]:=by
 have yp:∀x∈xs,∀r,p x=r->aw g ([.agg x.e]++bB.map .one) [.one (B r)]:=fun x aa r h=>h▸hp x aa
 have l:=hM (P:=prog) (c:=(aq f352 0)) xs p (fun i=>wD (xs.map cx.e) g bB i) (X:=fun i _=>LP i) dZ (cC 0)
  (fun i a ae h=>at8 ⟨bV (aP ae),bk,bm (aP ae),bl cx.e ae,ak,yp a (cS ae) false h,rfl,c3 (aP ae) ag,ad⟩)
  (fun i a ae h=>at7 ⟨bV (aP ae),bk,bm (aP ae),bl cx.e ae,ak,yp a (cS ae) true h,rfl,ad⟩)
  (at9 ⟨dk,ad⟩)
 rcases l with⟨_,h1,_,U⟩ | ⟨i,a,_,_,_,h1,_,U⟩
 ·simp only[AR,h1];exact aub ⟨U,ad⟩
 simp only[AR,h1];exact aua ⟨U,ad⟩
theorem au3(xs:List cx)(p:cx->Bool)(g:Nat)(bB:List D)(ag:xs.length<=8388608)(ak:jJ prog g=true)(hp:∀x∈xs,aw g ([.agg x.e]++bB.map .one) [.one (B (p x))]):
  aw 328 [.one (.J 2 (xs.map cx.e)),.one (.cl g bB)] [.one (B (xs.any p))]:=by
 rw[<-au1];exact auc ⟨au2 xs p g bB ag ak hp,ad⟩
