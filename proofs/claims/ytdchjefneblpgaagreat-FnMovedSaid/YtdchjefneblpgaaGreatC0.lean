import Derived.Test.YtdchjefneblpgaaGreatT2
import Derived.Test.YtdchjefneblpgaaGreatGN
import Derived.Sort.Statements
import Derived.Shelf.SlSortCmp.Insertion
set_option linter.unusedVariables false
set_option linter.unusedSimpArgs false
namespace Go.Proofs.YtdchjefneblpgaaGreat
open Go.Sx Go.RowKit Go.Proofs.Tryz
def ap(n cQ hi:Int):Bool:=decide (cQ<=n/\n<=hi)
theorem ia(n cQ hi:Int):av 168 [.one (I n),.one (I cQ),.one (I hi)] [.one (B (ap n cQ hi))]:=by
 by_cases h:cQ<=n
 ·have e:ap n cQ hi=decide (n<=hi):=by simp[ap,h]
  rw[e];exact amb ⟨by simp only[cK];omega,aa⟩
 rw[show ap n cQ hi=false by simp[ap,h]];exact amc ⟨by simp only[ki];omega,aa⟩
theorem fu{n cQ hi:Int}(r:Bool)(h:ap n cQ hi=r):av 168 [.one (I n),.one (I cQ),.one (I hi)] [.one (B r)]:=h▸ia n cQ hi
theorem kf(n cQ hi:Int):av 190 [.one (I n),.one (I cQ),.one (I hi)] [.one (B (ap n cQ hi))]:=by
 by_cases h:cQ<=n
 ·have e:ap n cQ hi=decide (n<=hi):=by simp[ap,h]
  rw[e];exact al9 ⟨by simp only[cK];omega,aa⟩
 rw[show ap n cQ hi=false by simp[ap,h]];exact ama ⟨by simp only[ki];omega,aa⟩
theorem hS{n cQ hi:Int}(r:Bool)(h:ap n cQ hi=r):av 190 [.one (I n),.one (I cQ),.one (I hi)] [.one (B r)]:=h▸kf n cQ hi
def hT(n cQ hi:Int):Int:=if hi<cQ then cQ else if n<cQ then cQ else if hi<n then hi else n
theorem Dg(n cQ hi:Int):av 130 [.one (I n),.one (I cQ),.one (I hi)] [.one (I (hT n cQ hi))]:=by
 unfold hT;by_cases h1:hi<cQ
 ·rw[br h1];exact amL ⟨by simpa using h1,aa⟩
 rw[bg h1];by_cases U:n<cQ
 ·rw[br U];exact amM ⟨by simpa using h1,by simpa using U,aa⟩
 rw[bg U];by_cases ax:hi<n
 ·rw[br ax];exact amN ⟨by simpa using h1,by simpa using U,by simpa using ax,aa⟩
 rw[bg ax];exact amO ⟨by simpa using h1,by simpa using U,by simpa using ax,aa⟩
theorem aA.flat(r:aA):∀d∈r.e,∃x,d=.v x:=by
 intro d aE;simp only[aA.e,et,mX,or_false]at aE;rcases aE with rfl | rfl | rfl | rfl | rfl<;>exact⟨_,rfl⟩
theorem Cell.flat(r:Cell):∀d∈r.e,∃x,d=.v x:=by
 intro d aE;simp only[Cell.e,et,mX,or_false]at aE;rcases aE with rfl | rfl | rfl | rfl<;>exact⟨_,rfl⟩
theorem df.flat(r:df):∀d∈r.e,∃x,d=.v x:=by
 intro d aE;simp only[df.e,et,mX,or_false]at aE;rcases aE with rfl | rfl | rfl<;>exact⟨_,rfl⟩
theorem gr.flat(r:gr):∀d∈r.e,∃x,d=.v x:=by
 intro d aE;simp only[gr.e,et,mX,or_false]at aE;rcases aE with rfl | rfl<;>exact⟨_,rfl⟩
theorem Ru{α:Type}(p:α->Bool)(xs:List α)(i:Nat):((xs.take i).filter p).length<=i:=
 ui (ud ..) (by simp;omega)
theorem Rv(a r:Cell):(a.op==r.op&&(a.bf==r.bf&&(a.key==r.key&&a.val==r.val)))=decide (a=r):=by
 obtain⟨o,e,k,v⟩:=a;obtain⟨oJ,e',cm,Lp⟩:=r;rw[Bool.eq_iff_iff];simp only[cq,dY,cK,Cell.mk.injEq]
theorem wb{P:Program}{c:Code}{st:aH}{e:hb}{α:Type}(f:α->aH){l gU:α}(h:fz P c st e (f l))(ak:l=gU):fz P c st e (f gU):=ak▸h
theorem am6{P:Program}{f:Nat}{args:List cF}{k:Nat}{l gU:List (List D)}(h:im P f args [.one (.J k l)])(ak:l=gU):im P f args [.one (.J k gU)]:=ak▸h
theorem xI{α β:Type}(f:α->List β)(c:Nat)(h:∀a,(f a).length<=c):∀xs:List α,(xs.flatMap f).length<=xs.length*c
 | []=>by simp
 | a::xs=>by
  have h1:=h a;have U:=xI f c h xs;simp only[List.flatMap_cons,hs,dH,fo,Nat.one_mul];omega
theorem dZ{p:Prop}[Decidable p](h:p):decide p=true:=j3 h
theorem eD{p:Prop}[Decidable p](h:¬p):decide p=false:=ly h
end Go.Proofs.YtdchjefneblpgaaGreat
namespace Go.Proofs.YtdchjefneblpgaaGreat
open Go.Sx Go.RowKit Go.Proofs.Tryz
def gw(a b:Int):Int:=if a<b then -1 else if b<a then 1 else 0
def kr(l:List Int):Int:=(l.find? (· != 0)).getD 0
theorem sh(a b:Int):av 322 [.one (I a),.one (I b)] [.one (I (gw a b))]:=by
 unfold gw;by_cases h:a<b
 ·rw[br h];exact amd ⟨dZ h,aa⟩
 rw[bg h];by_cases U:b<a
 ·rw[br U];exact ame ⟨eD h,dZ U,aa⟩
 rw[bg U];exact amf ⟨eD h,eD U,aa⟩
theorem Rw(a:Int):av 388 [.one (I a)] [.one (B false)]:=by
 have:=amg a trivial;simpa using this
theorem Rx(a b:Int):av 382 [.one (I a),.one (I b)] [.one (I (gw a b))]:=by
 have x:=Rw a;have y:=Rw b;unfold gw;by_cases h:a<b
 ·rw[br h];exact amh ⟨x,y,rfl,rfl,dZ h,aa⟩
 rw[bg h];by_cases U:b<a
 ·rw[br U];exact ami ⟨x,y,rfl,rfl,eD h,dZ U,aa⟩
 rw[bg U];exact amj ⟨x,y,rfl,rfl,eD h,eD U,aa⟩
theorem QI{xs ys:List Int}{i:Nat}{d:Int}(h:(List.zipWith gw xs ys)[i]?=some d):∃a b,xs[i]?=some a/\ys[i]?=some b/\gw a b=d:=by
 rw[List.getElem?_zipWith]at h;cases h1:xs[i]? with
 | none=>simp[h1]at h
 | some a=>
  cases U:ys[i]? with
  | none=>simp[h1,U]at h
  | some b=>exact⟨a,b,rfl,rfl,by simpa[h1,U]using h⟩
theorem aoA(xs ys:List Int)(ak:xs.length=ys.length)(hm:xs.length<=8388608):av 364 [.one (.J 1 (xs.map a8)),.one (.J 1 (ys.map a8))] [.one (I (kr (List.zipWith gw xs ys)))]:=by
 have bd:(List.zipWith gw xs ys).length=xs.length:=by simp[ak]
 have l:=hh (P:=prog) (c:=(ar f364 0)) (List.zipWith gw xs ys) (fun d=>d != 0) (fun i=>vR (xs.map a8) (ys.map a8) i) (X:=fun _ d=>Ke d) fi (cM 0)
  (fun i d aE h=>by
   obtain⟨a,b,aj,aq,rfl⟩:=QI aE;exact aml ⟨cf (a6 aj),bG,bL (a6 aj),bF a8 aj,eD (by have:=a6 aq;simp;omega),bG,bL (a6 aq),bF a8 aq,Rx a b,h,dw (a6 aj) hm,aa⟩)
  (fun i d aE h=>by
   obtain⟨a,b,aj,aq,rfl⟩:=QI aE;exact amk ⟨cf (a6 aj),bG,bL (a6 aj),bF a8 aj,eD (by have:=a6 aq;simp;omega),bG,bL (a6 aq),bF a8 aq,Rx a b,h,aa⟩)
  (by rw[bd];exact amm ⟨dU,aa⟩)
 unfold kr;rcases l with⟨h1,_,_,U⟩ | ⟨i,a,_,_,h1,_,_,U⟩
 ·rw[h1];exact amo ⟨U,by simp[ak],aa⟩
 rw[h1];exact amn ⟨U,aa⟩
theorem aoB(xs ys:List Int)(ak:xs.length=ys.length)(hm:xs.length<=8388608):av 335 [.one (.J 1 (xs.map a8)),.one (.J 1 (ys.map a8))] [.one (I (kr (List.zipWith gw xs ys)))]:=
 amp ⟨aoA xs ys ak hm,aa⟩
def ib(a b:Cell):Int:=kr [gw a.bf b.bf,gw a.op b.op,gw a.key b.key,gw a.val b.val]
theorem QJ(a b:Cell):av 304 [.agg a.e,.agg b.e] [.one (I (ib a b))]:=
 anS ⟨aoB [a.bf,a.op,a.key,a.val] [b.bf,b.op,b.key,b.val] rfl (by simp),aa⟩
theorem Dh(a b:Cell):av 307 [.agg a.e,.agg b.e] [.one (I (ib a b))]:=by
 have cn:=sh a.bf b.bf;have ca:=sh a.op b.op;have cB:=sh a.key b.key;have e6:=sh a.val b.val;unfold ib;generalize gw a.bf b.bf=k0 at*;generalize gw a.op b.op=ij at*;generalize gw a.key b.key=qh at*;generalize gw a.val b.val=o4 at*;have l:=hh (P:=prog) (c:=(ar f307 0)) [k0,ij,qh,o4] (fun d=>d != 0) (fun i=>vW k0 ij qh o4 i) (X:=fun _ d=>Ki d) fi (cM 0)
  (fun i d aE h=>anU ⟨dZ (by have:=a6 aE;simp at this;omega),bG,by have:=a6 aE;simp at this ⊢;omega,bF a8 aE,h,⟨by omega,by have:=a6 aE;simp at this;omega⟩,aa⟩)
  (fun i d aE h=>anT ⟨dZ (by have:=a6 aE;simp at this;omega),bG,by have:=a6 aE;simp at this ⊢;omega,bF a8 aE,h,bG,by have:=a6 aE;simp at this ⊢;omega,bF a8 aE,aa⟩)
  (anV ⟨rfl,aa⟩)
 unfold kr;rcases l with⟨h1,_,_,U⟩ | ⟨i,a,_,_,h1,_,_,U⟩
 ·rw[h1];exact anX ⟨cn,ca,cB,e6,U,aa⟩
 rw[h1];exact anW ⟨cn,ca,cB,e6,U,aa⟩
end Go.Proofs.YtdchjefneblpgaaGreat
namespace Go.Proofs.YtdchjefneblpgaaGreat
open Go.Sx Go.RowKit Go.Sort Go.Proofs.Tryz
def jm(u v:List Int):Int:=kr (List.zipWith gw u v)
theorem vg(d:Int)(l:List Int):kr (d::l)=if d=0 then kr l else d:=by
 unfold kr;by_cases h:d=0
 ·simp[h]
 simp[h]
theorem QK:∀(hD oF:List Int),kr (kr hD::oF)=kr (hD++oF)
 | [],oF=>by rw[vg];simp[kr]
 | d::hD,oF=>by
  rw[List.cons_append,vg d (hD++oF),vg d hD];by_cases h:d=0
  ·rw[br h,br h];exact QK hD oF
  rw[bg h,bg h,vg,bg h]
theorem aoC(a b:Int)(u v:List Int):jm (a::u) (b::v)=if a=b then jm u v else gw a b:=by
 unfold jm;rw[List.zipWith_cons_cons,vg];have:gw a b=0<->a=b:=by unfold gw;split<;>(try split)<;>constructor<;>intro h<;>omega
 by_cases h:a=b
 ·rw[br (this.2 h),br h]
 rw[bg (fun e=>h (this.1 e)),bg h]
theorem Di(a b:Int)(u v:List Int):jm (a::u) (b::v)<0<->a<b\/(a=b/\jm u v<0):=by
 rw[aoC];split
 ·constructor
  ·intro h;exact .inr ⟨‹_›,h⟩
  rintro (h | h)
  ·omega
  exact h.2
 ·unfold gw;split<;>(try split)<;>constructor<;>intro h<;>omega
theorem QL:∀u:List Int,¬jm u u<0
 | []=>by simp[jm,kr]
 | a::u=>by rw[Di];have:=QL u;omega
theorem Kk:∀(u v w:List Int),u.length=v.length->v.length=w.length->jm u v<0->jm v w<0->jm u w<0
 | [],[],[],_,_,h,_=>h
 | a::u,b::v,c::w,h1,U,ax,aK=>by
  rw[Di] at*;have:=Kk u v w (by simpa using h1) (by simpa using U);omega
theorem QM:∀(u v w:List Int),u.length=v.length->v.length=w.length->¬jm u v<0->¬jm v w<0->¬jm u w<0
 | [],[],[],_,_,h,_=>h
 | a::u,b::v,c::w,h1,U,ax,aK=>by
  rw[Di] at*;have:=QM u v w (by simpa using h1) (by simpa using U);omega
theorem Kl:∀(u v:List Int),u.length=v.length->¬jm u v<0->¬jm v u<0->u=v
 | [],[],_,_,_=>rfl
 | a::u,b::v,h1,ax,aK=>by
  rw[Di]at ax aK;have fc:a=b:=by omega
  subst fc;rw[Kl u v (by simpa using h1) (by omega) (by omega)]
theorem aoD{α:Type}(key:α->List Int)(n:Nat)(aT:∀a,(key a).length=n):SWO (ltOf fun a b=>jm (key a) (key b)) where
 irrefl x:=by simp only[ltOf,ki];exact QL _
 trans x y z h1 U:=by
  simp only[ltOf,cK] at*;exact Kk _ _ _ (by rw[aT,aT]) (by rw[aT,aT]) h1 U
 ntrans x y z h1 U:=by
  simp only[ltOf,ki] at*;exact QM _ _ _ (by rw[aT,aT]) (by rw[aT,aT]) h1 U
theorem aoE{α:Type}(key:α->List Int)(n:Nat)(aT:∀a,(key a).length=n)(hi:∀a b,key a=key b->a=b)(x y:α)(h1:(ltOf fun a b=>jm (key a) (key b)) x y=false)(U:(ltOf fun a b=>jm (key a) (key b)) y x=false):x=y:=by
 simp only[ltOf,ki] at*;exact hi _ _ (Kl _ _ (by rw[aT,aT]) h1 U)
section
variable {α : Type}
def kQ(lt:α->α->Bool)(x:α)(S:List α):Nat->Nat
 | 0=>0
 | k+1=>match S[k]? with | some y=>if lt x y then kQ lt x S k else k+1 | none=>k+1
def oE(lt:α->α->Bool)(S:List α)(x:α):List α:=S.take (kQ lt x S S.length)++x::S.drop (kQ lt x S S.length)
def kh(lt:α->α->Bool)(xs:List α):List α:=xs.foldl (oE lt) []
theorem Km(lt:α->α->Bool)(x:α)(S:List α):∀k,kQ lt x S k<=k
 | 0=>fK _
 | k+1=>by
  simp only[kQ];have:=Km lt x S k;split
  ·split<;>omega
  omega
theorem QN(lt:α->α->Bool)(x:α)(S:List α):∀k j y,kQ lt x S k<=j->j<k->S[j]?=some y->lt x y=true
 | 0,j,y,_,h,_=>by omega
 | k+1,j,y,h1,U,bn=>by
  simp only[kQ]at h1;split at h1
  ·rename_i z bd;split at h1
   ·rename_i ak;by_cases e:j=k
    ·subst e;rw[bd]at bn;cases bn;exact ak
    exact QN lt x S k j y h1 (by omega) bn
   omega
  omega
theorem QO(lt:α->α->Bool)(x:α)(S:List α):∀k y,0<kQ lt x S k->S[kQ lt x S k-1]?=some y->lt x y=false
 | 0,y,h,_=>by simp[kQ]at h
 | k+1,y,h,bn=>by
  simp only[kQ]at h bn;split at h
  ·rename_i z bd;simp only[bd]at bn;split at h
   ·rename_i ak;rw[br ak]at bn;exact QO lt x S k y h bn
   rename_i ak;rw[bg ak,Nat.add_sub_cancel,bd]at bn;cases bn;simpa using ak
  rename_i bd;simp only[bd]at bn;rw[Nat.add_sub_cancel,bd]at bn;cases bn
theorem QP(lt:α->α->Bool)(S:List α)(x:α):(oE lt S x).Perm (x::S):=by
 unfold oE;refine (List.perm_middle).trans ?_;rw[Fi]
theorem aoF(lt:α->α->Bool)(S:List α)(x:α):(oE lt S x).length=S.length+1:=(QP lt S x).length_eq
abbrev wl(lt:α->α->Bool)(S:List α):Prop:=S.Pairwise fun a b=>(!lt b a)=true
theorem aoG{lt:α->α->Bool}(hO:SWO lt){S:List α}(yG:wl lt S)(x:α):wl lt (oE lt S x):=by
 have asym:∀a b,lt a b=true->lt b a=false:=by
  intro a b h;cases U:lt b a with
  | false=>rfl
  | true=>have:=hO.trans _ _ _ h U;rw[hO.irrefl]at this;cases this
 unfold oE;obtain⟨p,hp⟩:∃p,p=kQ lt x S S.length:=⟨_,rfl⟩
 have XQ:=Km lt x S S.length;have M7:=QN lt x S S.length;have nt:=QO lt x S S.length;rw[<-hp]at XQ M7 nt ⊢;have bJ:S.take p++S.drop p=S:=Fi _ _;have F1:=yG;unfold wl at F1;rw[<-bJ,List.pairwise_append]at F1;obtain⟨h1,U,ax⟩:=F1;have Ye:∀b∈S.drop p,lt x b=true:=by
  intro b aq;obtain⟨j,a'⟩:=o7.1 aq;rw[jZ]at a';exact M7 (p+j) b (by omega) (eu.1 a').1 a'
 have F4:∀a∈S.take p,lt x a=false:=by
  intro a aj;obtain⟨j,a'⟩:=o7.1 aj;rw[j1]at a';split at a'
  ·rename_i atz;have yX:p-1<S.length:=by omega
   have aq:=nt S[p-1] (by omega) (gp yX);by_cases e:j=p-1
   ·subst e;rw[gp yX]at a';cases a';exact aq
   have ko:j<S.length:=by omega
   have:=List.pairwise_iff_getElem.1 yG j (p-1) ko yX (by omega);rw[gp ko]at a';cases a';exact hO.ntrans _ _ _ aq (by simpa using this)
  cases a'
 unfold wl;rw[List.pairwise_append];refine⟨h1,List.pairwise_cons.2 ⟨fun b aq=>by simp[asym _ _ (Ye b aq)],U⟩,fun a aj b aq=>?_⟩;rcases et.1 aq with rfl | aq
 ·simp[F4 a aj]
 exact ax a aj b aq
theorem Kn{lt:α->α->Bool}(hO:SWO lt):∀(xs S:List α),wl lt S->wl lt (xs.foldl (oE lt) S)/\(xs.foldl (oE lt) S).Perm (S++xs)
 | [],S,h=>⟨h,by simp⟩
 | x::xs,S,h=>by
  obtain⟨h1,U⟩:=Kn hO xs (oE lt S x) (aoG hO h x);refine⟨h1,U.trans ?_⟩;refine ((QP lt S x).append_right xs).trans ?_;exact (List.perm_middle (l₁:=S) (a:=x) (l₂:=xs)).symm
theorem aoH{lt:α->α->Bool}{xs:List α}{i:Nat}{a:α}(h:xs[i]?=some a):kh lt (xs.take (i+1))=oE lt (kh lt (xs.take i)) a:=by
 simp[kh,sE,h,List.foldl_append]
theorem Jz(lt:α->α->Bool):∀(xs S:List α),(xs.foldl (oE lt) S).length=S.length+xs.length
 | [],S=>rfl
 | x::xs,S=>by
  rw[List.foldl_cons,Jz lt xs,aoF,dH];omega
end
end Go.Proofs.YtdchjefneblpgaaGreat
namespace Go.Proofs.YtdchjefneblpgaaGreat
open Go.Sx Go.RowKit Go.Proofs.Tryz
def zg{α:Type}(p:α->Bool)(xs:List α):Int:=match xs.findIdx? p with | some i=>i | none=>-1
theorem aoI{α:Type}(p:α->Bool)(xs:List α):decide (zg p xs>=0)=xs.any p:=by
 unfold zg;cases h:xs.findIdx? p with
 | none=>
  have:xs.any p=false:=by
   rw[hr];rw[Mu]at h;exact fun a aj=>by simp[h a aj]
  rw[this];rfl
 | some i=>
  rw[x8]at h;obtain⟨hi,U,_⟩:=h;have:xs.any p=true:=qk.2 ⟨_,x9 hi,U⟩;rw[this];simp
theorem aoJ(xs:List cD)(p:cD->Bool)(g:Nat)(bK:List D)(ak:xs.length<=8388608)(ah:lj prog g=true)(hp:∀x∈xs,av g ([.agg x.e]++bK.map .one) [.one (B (p x))]):
  av 352 [.one (.J 2 (xs.map cD.e)),.one (.cl g bK)] [.one (I (zg p xs))]:=by
 have wO:∀x∈xs,∀r,p x=r->av g ([.agg x.e]++bK.map .one) [.one (B r)]:=fun x ag r h=>h▸hp x ag
 have l:=hh (P:=prog) (c:=(ar f352 0)) xs p (fun i=>vV (xs.map cD.e) g bK i) (X:=fun i _=>Kh i) fi (cM 0)
  (fun i a aj h=>anM ⟨cf (a6 aj),bG,bL (a6 aj),bF cD.e aj,ah,wO a (eX aj) false h,rfl,dw (a6 aj) ak,aa⟩)
  (fun i a aj h=>anL ⟨cf (a6 aj),bG,bL (a6 aj),bF cD.e aj,ah,wO a (eX aj) true h,rfl,aa⟩)
  (anN ⟨dU,aa⟩)
 rcases l with⟨_,h1,_,U⟩ | ⟨i,a,_,_,_,h1,_,U⟩
 ·simp only[zg,h1];exact anP ⟨U,aa⟩
 simp only[zg,h1];exact anO ⟨U,aa⟩
theorem aoK(xs:List cD)(p:cD->Bool)(g:Nat)(bK:List D)(ak:xs.length<=8388608)(ah:lj prog g=true)(hp:∀x∈xs,av g ([.agg x.e]++bK.map .one) [.one (B (p x))]):
  av 328 [.one (.J 2 (xs.map cD.e)),.one (.cl g bK)] [.one (B (xs.any p))]:=by
 rw[<-aoI];exact anQ ⟨aoJ xs p g bK ak ah hp,aa⟩
