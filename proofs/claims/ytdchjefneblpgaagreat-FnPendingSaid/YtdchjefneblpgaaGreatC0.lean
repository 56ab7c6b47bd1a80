import Derived.Test.YtdchjefneblpgaaGreatT2
import Derived.Test.YtdchjefneblpgaaGreatGN
import Derived.Sort.Statements
import Derived.Shelf.SlSortCmp.Insertion
set_option linter.unusedVariables false
set_option linter.unusedSimpArgs false
namespace Go.Proofs.YtdchjefneblpgaaGreat
open Go.Sx Go.RowKit Go.Proofs.Tryz
def aW(n cV hi:Int):Bool:=decide (cV<=n/\n<=hi)
theorem iN(n cV hi:Int):aK 168 [.one (I n),.one (I cV),.one (I hi)] [.one (B (aW n cV hi))]:=by
 by_cases h:cV<=n
 ·have e:aW n cV hi=decide (n<=hi):=by simp[aW,h]
  rw[e];exact akm ⟨by simp only[ci];omega,aj⟩
 rw[show aW n cV hi=false by simp[aW,h]];exact alP ⟨by simp only[jO];omega,aj⟩
theorem fL{n cV hi:Int}(r:Bool)(h:aW n cV hi=r):aK 168 [.one (I n),.one (I cV),.one (I hi)] [.one (B r)]:=h▸iN n cV hi
theorem aoV(n cV hi:Int):aK 190 [.one (I n),.one (I cV),.one (I hi)] [.one (B (aW n cV hi))]:=by
 by_cases h:cV<=n
 ·have e:aW n cV hi=decide (n<=hi):=by simp[aW,h]
  rw[e];exact akk ⟨by simp only[ci];omega,aj⟩
 rw[show aW n cV hi=false by simp[aW,h]];exact akl ⟨by simp only[jO];omega,aj⟩
theorem RB{n cV hi:Int}{r:Bool}(h:aW n cV hi=r):aK 190 [.one (I n),.one (I cV),.one (I hi)] [.one (B r)]:=h▸aoV n cV hi
def hf(n cV hi:Int):Int:=if hi<cV then cV else if n<cV then cV else if hi<n then hi else n
theorem EX(n cV hi:Int):aK 130 [.one (I n),.one (I cV),.one (I hi)] [.one (I (hf n cV hi))]:=by
 unfold hf;by_cases h1:hi<cV
 ·rw[a6 h1];exact akG ⟨by simpa using h1,aj⟩
 rw[aX h1];by_cases U:n<cV
 ·rw[a6 U];exact akH ⟨by simpa using h1,by simpa using U,aj⟩
 rw[aX U];by_cases au:hi<n
 ·rw[a6 au];exact akI ⟨by simpa using h1,by simpa using U,by simpa using au,aj⟩
 rw[aX au];exact akJ ⟨by simpa using h1,by simpa using U,by simpa using au,aj⟩
theorem aA.flat(r:aA):∀d∈r.e,∃x,d=.v x:=by
 intro d ax;simp only[aA.e,dG,mr,or_false]at ax;rcases ax with rfl | rfl | rfl | rfl | rfl<;>exact⟨_,rfl⟩
theorem Cell.flat(r:Cell):∀d∈r.e,∃x,d=.v x:=by
 intro d ax;simp only[Cell.e,dG,mr,or_false]at ax;rcases ax with rfl | rfl | rfl | rfl<;>exact⟨_,rfl⟩
theorem cE.flat(r:cE):∀d∈r.e,∃x,d=.v x:=by
 intro d ax;simp only[cE.e,dG,mr,or_false]at ax;rcases ax with rfl | rfl | rfl<;>exact⟨_,rfl⟩
theorem bD.flat(r:bD):∀d∈r.e,∃x,d=.v x:=by
 intro d ax;simp only[bD.e,dG,mr,or_false]at ax;rcases ax with rfl | rfl<;>exact⟨_,rfl⟩
theorem vV{α:Type}(p:α->Bool)(xs:List α)(i:Nat):((xs.take i).filter p).length<=i:=
 ni (qL ..) (by simp;omega)
theorem I1(a r:Cell):(a.op==r.op&&(a.a8==r.a8&&(a.key==r.key&&a.val==r.val)))=decide (a=r):=by
 obtain⟨o,e,k,v⟩:=a;obtain⟨pg,e',b8,la⟩:=r;rw[Bool.eq_iff_iff];simp only[ca,eu,ci,Cell.mk.injEq]
theorem RC(a r:Cell):(r.op==a.op&&(r.a8==a.a8&&(r.key==a.key&&r.val==a.val)))=decide (a=r):=by
 rw[I1 r a];exact decide_eq_decide.2 ⟨Eq.symm,Eq.symm⟩
theorem pH{P:Program}{c:Code}{st:aE}{e:gO}{α:Type}(f:α->aE){l ht:α}(h:fP P c st e (f l))(af:l=ht):fP P c st e (f ht):=af▸h
theorem aoW{P:Program}{f:Nat}{args:List cH}{k:Nat}{l ht:List (List D)}(h:iW P f args [.one (.J k l)])(af:l=ht):iW P f args [.one (.J k ht)]:=af▸h
theorem yA{α β:Type}(f:α->List β)(c:Nat)(h:∀a,(f a).length<=c):∀xs:List α,(xs.flatMap f).length<=xs.length*c
 | []=>by simp
 | a::xs=>by
  have h1:=h a;have U:=yA f c h xs;simp only[List.flatMap_cons,eK,dn,fB,Nat.one_mul];omega
theorem dU{p:Prop}[Decidable p](h:p):decide p=true:=ji h
theorem eX{p:Prop}[Decidable p](h:¬p):decide p=false:=mu h
end Go.Proofs.YtdchjefneblpgaaGreat
namespace Go.Proofs.YtdchjefneblpgaaGreat
open Go.Sx Go.RowKit Go.Proofs.Tryz
def hc(a b:Int):Int:=if a<b then -1 else if b<a then 1 else 0
def kY(l:List Int):Int:=(l.find? (· != 0)).getD 0
theorem sY(a b:Int):aK 322 [.one (I a),.one (I b)] [.one (I (hc a b))]:=by
 unfold hc;by_cases h:a<b
 ·rw[a6 h];exact alQ ⟨dU h,aj⟩
 rw[aX h];by_cases U:b<a
 ·rw[a6 U];exact alR ⟨eX h,dU U,aj⟩
 rw[aX U];exact alS ⟨eX h,eX U,aj⟩
theorem QN(a:Int):aK 388 [.one (I a)] [.one (B false)]:=by
 have:=alT a trivial;simpa using this
theorem QO(a b:Int):aK 382 [.one (I a),.one (I b)] [.one (I (hc a b))]:=by
 have x:=QN a;have y:=QN b;unfold hc;by_cases h:a<b
 ·rw[a6 h];exact alU ⟨x,y,rfl,rfl,dU h,aj⟩
 rw[aX h];by_cases U:b<a
 ·rw[a6 U];exact alV ⟨x,y,rfl,rfl,eX h,dU U,aj⟩
 rw[aX U];exact alW ⟨x,y,rfl,rfl,eX h,eX U,aj⟩
theorem QP{xs ys:List Int}{i:Nat}{d:Int}(h:(List.zipWith hc xs ys)[i]?=some d):∃a b,xs[i]?=some a/\ys[i]?=some b/\hc a b=d:=by
 rw[List.getElem?_zipWith]at h;cases h1:xs[i]? with
 | none=>simp[h1]at h
 | some a=>
  cases U:ys[i]? with
  | none=>simp[h1,U]at h
  | some b=>exact⟨a,b,rfl,rfl,by simpa[h1,U]using h⟩
theorem aoX(xs ys:List Int)(af:xs.length=ys.length)(hm:xs.length<=8388608):aK 364 [.one (.J 1 (xs.map cv)),.one (.J 1 (ys.map cv))] [.one (I (kY (List.zipWith hc xs ys)))]:=by
 have aR:(List.zipWith hc xs ys).length=xs.length:=by simp[af]
 have l:=jb (P:=prog) (c:=(az f364 0)) (List.zipWith hc xs ys) (fun d=>d != 0) (fun i=>wq (xs.map cv) (ys.map cv) i) (X:=fun _ d=>Jn d) hd (cL 0)
  (fun i d ax h=>by
   obtain⟨a,b,ag,ah,rfl⟩:=QP ax;exact alY ⟨cg (bh ag),bG,bJ (bh ag),bF cv ag,eX (by have:=bh ah;simp;omega),bG,bJ (bh ah),bF cv ah,QO a b,h,cY (bh ag) hm,aj⟩)
  (fun i d ax h=>by
   obtain⟨a,b,ag,ah,rfl⟩:=QP ax;exact alX ⟨cg (bh ag),bG,bJ (bh ag),bF cv ag,eX (by have:=bh ah;simp;omega),bG,bJ (bh ah),bF cv ah,QO a b,h,aj⟩)
  (by rw[aR];exact alZ ⟨dH,aj⟩)
 unfold kY;rcases l with⟨h1,_,_,U⟩ | ⟨i,a,_,_,h1,_,_,U⟩
 ·rw[h1];exact al1 ⟨U,by simp[af],aj⟩
 rw[h1];exact al0 ⟨U,aj⟩
theorem I2(xs ys:List Int)(af:xs.length=ys.length)(hm:xs.length<=8388608):aK 335 [.one (.J 1 (xs.map cv)),.one (.J 1 (ys.map cv))] [.one (I (kY (List.zipWith hc xs ys)))]:=
 al2 ⟨aoX xs ys af hm,aj⟩
def ik(a b:Cell):Int:=kY [hc a.a8 b.a8,hc a.op b.op,hc a.key b.key,hc a.val b.val]
theorem QQ(a b:Cell):aK 304 [.agg a.e,.agg b.e] [.one (I (ik a b))]:=
 amI ⟨I2 [a.a8,a.op,a.key,a.val] [b.a8,b.op,b.key,b.val] rfl (by simp),aj⟩
theorem EY(a b:Cell):aK 307 [.agg a.e,.agg b.e] [.one (I (ik a b))]:=by
 have cd:=sY a.a8 b.a8;have bY:=sY a.op b.op;have cr:=sY a.key b.key;have fl:=sY a.val b.val;unfold ik;generalize hc a.a8 b.a8=kp at*;generalize hc a.op b.op=gM at*;generalize hc a.key b.key=hY at*;generalize hc a.val b.val=pK at*;have l:=jb (P:=prog) (c:=(az f307 0)) [kp,gM,hY,pK] (fun d=>d != 0) (fun i=>wE kp gM hY pK i) (X:=fun _ d=>IY d) hd (cL 0)
  (fun i d ax h=>an2 ⟨dU (by have:=bh ax;simp at this;omega),bG,by have:=bh ax;simp at this ⊢;omega,bF cv ax,h,⟨by omega,by have:=bh ax;simp at this;omega⟩,aj⟩)
  (fun i d ax h=>an1 ⟨dU (by have:=bh ax;simp at this;omega),bG,by have:=bh ax;simp at this ⊢;omega,bF cv ax,h,bG,by have:=bh ax;simp at this ⊢;omega,bF cv ax,aj⟩)
  (an3 ⟨rfl,aj⟩)
 unfold kY;rcases l with⟨h1,_,_,U⟩ | ⟨i,a,_,_,h1,_,_,U⟩
 ·rw[h1];exact an5 ⟨cd,bY,cr,fl,U,aj⟩
 rw[h1];exact an4 ⟨cd,bY,cr,fl,U,aj⟩
end Go.Proofs.YtdchjefneblpgaaGreat
namespace Go.Proofs.YtdchjefneblpgaaGreat
open Go.Sx Go.RowKit Go.Sort Go.Proofs.Tryz
def jU(u v:List Int):Int:=kY (List.zipWith hc u v)
theorem ud(d:Int)(l:List Int):kY (d::l)=if d=0 then kY l else d:=by
 unfold kY;by_cases h:d=0
 ·simp[h]
 simp[h]
theorem QR:∀(gT rh:List Int),kY (kY gT::rh)=kY (gT++rh)
 | [],rh=>by rw[ud];simp[kY]
 | d::gT,rh=>by
  rw[List.cons_append,ud d (gT++rh),ud d gT];by_cases h:d=0
  ·rw[a6 h,a6 h];exact QR gT rh
  rw[aX h,aX h,ud,aX h]
theorem aoY(a b:Int)(u v:List Int):jU (a::u) (b::v)=if a=b then jU u v else hc a b:=by
 unfold jU;rw[List.zipWith_cons_cons,ud];have:hc a b=0<->a=b:=by unfold hc;split<;>(try split)<;>constructor<;>intro h<;>omega
 by_cases h:a=b
 ·rw[a6 (this.2 h),a6 h]
 rw[aX (fun e=>h (this.1 e)),aX h]
theorem D9(a b:Int)(u v:List Int):jU (a::u) (b::v)<0<->a<b\/(a=b/\jU u v<0):=by
 rw[aoY];split
 ·constructor
  ·intro h;exact .inr ⟨‹_›,h⟩
  rintro (h | h)
  ·omega
  exact h.2
 ·unfold hc;split<;>(try split)<;>constructor<;>intro h<;>omega
theorem QS:∀u:List Int,¬jU u u<0
 | []=>by simp[jU,kY]
 | a::u=>by rw[D9];have:=QS u;omega
theorem I3:∀(u v w:List Int),u.length=v.length->v.length=w.length->jU u v<0->jU v w<0->jU u w<0
 | [],[],[],_,_,h,_=>h
 | a::u,b::v,c::w,h1,U,au,aH=>by
  rw[D9] at*;have:=I3 u v w (by simpa using h1) (by simpa using U);omega
theorem QT:∀(u v w:List Int),u.length=v.length->v.length=w.length->¬jU u v<0->¬jU v w<0->¬jU u w<0
 | [],[],[],_,_,h,_=>h
 | a::u,b::v,c::w,h1,U,au,aH=>by
  rw[D9] at*;have:=QT u v w (by simpa using h1) (by simpa using U);omega
theorem I4:∀(u v:List Int),u.length=v.length->¬jU u v<0->¬jU v u<0->u=v
 | [],[],_,_,_=>rfl
 | a::u,b::v,h1,au,aH=>by
  rw[D9]at au aH;have dW:a=b:=by omega
  subst dW;rw[I4 u v (by simpa using h1) (by omega) (by omega)]
theorem QU{α:Type}(key:α->List Int)(n:Nat)(aL:∀a,(key a).length=n):SWO (ltOf fun a b=>jU (key a) (key b)) where
 irrefl x:=by simp only[ltOf,jO];exact QS _
 trans x y z h1 U:=by
  simp only[ltOf,ci] at*;exact I3 _ _ _ (by rw[aL,aL]) (by rw[aL,aL]) h1 U
 ntrans x y z h1 U:=by
  simp only[ltOf,jO] at*;exact QT _ _ _ (by rw[aL,aL]) (by rw[aL,aL]) h1 U
theorem QV{α:Type}(key:α->List Int)(n:Nat)(aL:∀a,(key a).length=n)(hi:∀a b,key a=key b->a=b)(x y:α)(h1:(ltOf fun a b=>jU (key a) (key b)) x y=false)(U:(ltOf fun a b=>jU (key a) (key b)) y x=false):x=y:=by
 simp only[ltOf,jO] at*;exact hi _ _ (I4 _ _ (by rw[aL,aL]) h1 U)
section
variable {α : Type}
def iK(lt:α->α->Bool)(x:α)(S:List α):Nat->Nat
 | 0=>0
 | k+1=>match S[k]? with | some y=>if lt x y then iK lt x S k else k+1 | none=>k+1
def nG(lt:α->α->Bool)(S:List α)(x:α):List α:=S.take (iK lt x S S.length)++x::S.drop (iK lt x S S.length)
def gx(lt:α->α->Bool)(xs:List α):List α:=xs.foldl (nG lt) []
theorem D'(lt:α->α->Bool)(x:α)(S:List α):∀k,iK lt x S k<=k
 | 0=>dm _
 | k+1=>by
  simp only[iK];have:=D' lt x S k;split
  ·split<;>omega
  omega
theorem I5(lt:α->α->Bool)(x:α)(S:List α):∀k j y,iK lt x S k<=j->j<k->S[j]?=some y->lt x y=true
 | 0,j,y,_,h,_=>by omega
 | k+1,j,y,h1,U,a1=>by
  simp only[iK]at h1;split at h1
  ·rename_i z aR;split at h1
   ·rename_i af;by_cases e:j=k
    ·subst e;rw[aR]at a1;cases a1;exact af
    exact I5 lt x S k j y h1 (by omega) a1
   omega
  omega
theorem Ku(lt:α->α->Bool)(x:α)(S:List α):∀k y,0<iK lt x S k->S[iK lt x S k-1]?=some y->lt x y=false
 | 0,y,h,_=>by simp[iK]at h
 | k+1,y,h,a1=>by
  simp only[iK]at h a1;split at h
  ·rename_i z aR;simp only[aR]at a1;split at h
   ·rename_i af;rw[a6 af]at a1;exact Ku lt x S k y h a1
   rename_i af;rw[aX af,Nat.add_sub_cancel,aR]at a1;cases a1;simpa using af
  rename_i aR;simp only[aR]at a1;rw[Nat.add_sub_cancel,aR]at a1;cases a1
theorem QW(lt:α->α->Bool)(S:List α)(x:α):(nG lt S x).Perm (x::S):=by
 unfold nG;refine (List.perm_middle).trans ?_;rw[zf]
theorem aoZ(lt:α->α->Bool)(S:List α)(x:α):(nG lt S x).length=S.length+1:=(QW lt S x).length_eq
abbrev qR(lt:α->α->Bool)(S:List α):Prop:=S.Pairwise fun a b=>(!lt b a)=true
theorem ao0{lt:α->α->Bool}(hO:SWO lt){S:List α}(fF:qR lt S)(x:α):qR lt (nG lt S x):=by
 have asym:∀a b,lt a b=true->lt b a=false:=by
  intro a b h;cases U:lt b a with
  | false=>rfl
  | true=>have:=hO.trans _ _ _ h U;rw[hO.irrefl]at this;cases this
 unfold nG;obtain⟨p,hp⟩:∃p,p=iK lt x S S.length:=⟨_,rfl⟩
 have NQ:=D' lt x S S.length;have M':=I5 lt x S S.length;have oe:=Ku lt x S S.length;rw[<-hp]at NQ M' oe ⊢;have bm:S.take p++S.drop p=S:=zf _ _;have Gx:=fF;unfold qR at Gx;rw[<-bm,List.pairwise_append]at Gx;obtain⟨h1,U,au⟩:=Gx;have YV:∀b∈S.drop p,lt x b=true:=by
  intro b ah;obtain⟨j,aM⟩:=ng.1 ah;rw[gV]at aM;exact M' (p+j) b (by omega) (dK.1 aM).1 aM
 have GD:∀a∈S.take p,lt x a=false:=by
  intro a ag;obtain⟨j,aM⟩:=ng.1 ag;rw[gX]at aM;split at aM
  ·rename_i arN;have sA:p-1<S.length:=by omega
   have ah:=oe S[p-1] (by omega) (fC sA);by_cases e:j=p-1
   ·subst e;rw[fC sA]at aM;cases aM;exact ah
   have h4:j<S.length:=by omega
   have:=List.pairwise_iff_getElem.1 fF j (p-1) h4 sA (by omega);rw[fC h4]at aM;cases aM;exact hO.ntrans _ _ _ ah (by simpa using this)
  cases aM
 unfold qR;rw[List.pairwise_append];refine⟨h1,List.pairwise_cons.2 ⟨fun b ah=>by simp[asym _ _ (YV b ah)],U⟩,fun a ag b ah=>?_⟩;rcases dG.1 ah with rfl | ah
 ·simp[GD a ag]
 exact au a ag b ah
theorem Ea{lt:α->α->Bool}(hO:SWO lt):∀(xs S:List α),qR lt S->qR lt (xs.foldl (nG lt) S)/\(xs.foldl (nG lt) S).Perm (S++xs)
 | [],S,h=>⟨h,by simp⟩
 | x::xs,S,h=>by
  obtain⟨h1,U⟩:=Ea hO xs (nG lt S x) (ao0 hO h x);refine⟨h1,U.trans ?_⟩;refine ((QW lt S x).append_right xs).trans ?_;exact (List.perm_middle (l₁:=S) (a:=x) (l₂:=xs)).symm
theorem QX{lt:α->α->Bool}(hO:SWO lt)(fs:∀x y,lt x y=false->lt y x=false->x=y)(xs:List α):gx lt xs=xs.mergeSort fun x y=>!lt y x:=by
 obtain⟨h1,U⟩:=Ea hO xs [] List.Pairwise.nil;refine List.Perm.eq_of_pairwise (le:=fun x y=>(!lt y x)=true) ?_ h1 ?_ ((show (gx lt xs).Perm xs from U).trans (List.mergeSort_perm _ _).symm)
 ·intro a b _ _ au aH;simp only[fr]at au aH;exact fs a b aH au
 refine List.pairwise_mergeSort (le:=fun x y=>!lt y x) ?_ ?_ xs
 ·intro a b c au aH;simp only[fr]at au aH ⊢;exact hO.ntrans _ _ _ aH au
 intro a b;simp only[lL,fr];cases au:lt b a with
 | false=>exact .inl rfl
 | true=>
  right;cases aH:lt a b with
  | false=>rfl
  | true=>have:=hO.trans _ _ _ au aH;rw[hO.irrefl]at this;cases this
theorem ao1{lt:α->α->Bool}{xs:List α}{i:Nat}{a:α}(h:xs[i]?=some a):gx lt (xs.take (i+1))=nG lt (gx lt (xs.take i)) a:=by
 simp[gx,lK,h,List.foldl_append]
theorem Eb(lt:α->α->Bool):∀(xs S:List α),(xs.foldl (nG lt) S).length=S.length+xs.length
 | [],S=>rfl
 | x::xs,S=>by
  rw[List.foldl_cons,Eb lt xs,aoZ,dn];omega
end
end Go.Proofs.YtdchjefneblpgaaGreat
namespace Go.Proofs.YtdchjefneblpgaaGreat
open Go.Sx Go.RowKit Go.Proofs.Tryz
def vN{α:Type}(p:α->Bool)(xs:List α):Int:=match xs.findIdx? p with | some i=>i | none=>-1
theorem QY{α:Type}(p:α->Bool)(xs:List α):decide (vN p xs>=0)=xs.any p:=by
 unfold vN;cases h:xs.findIdx? p with
 | none=>
  have:xs.any p=false:=by
   rw[eW];rw[Cj]at h;exact fun a ag=>by simp[h a ag]
  rw[this];rfl
 | some i=>
  rw[qK]at h;obtain⟨hi,U,_⟩:=h;have:xs.any p=true:=lg.2 ⟨_,rZ hi,U⟩;rw[this];simp
theorem ao2(xs:List bD)(p:bD->Bool)(g:Nat)(bA:List D)(af:xs.length<=8388608)(ad:k4 prog g=true)(hp:∀x∈xs,aK g ([.agg x.e]++bA.map .one) [.one (B (p x))]):
  aK 339 [.one (.J 2 (xs.map bD.e)),.one (.cl g bA)] [.one (I (vN p xs))]:=by
 have xJ:∀x∈xs,∀r,p x=r->aK g ([.agg x.e]++bA.map .one) [.one (B r)]:=fun x aa r h=>h▸hp x aa
 have l:=jb (P:=prog) (c:=(az f339 0)) xs p (fun i=>wy (xs.map bD.e) g bA i) (X:=fun i _=>Jq i) hd (cL 0)
  (fun i a ag h=>alh ⟨cg (bh ag),bG,bJ (bh ag),bF bD.e ag,ad,xJ a (c8 ag) false h,rfl,cY (bh ag) af,aj⟩)
  (fun i a ag h=>alg ⟨cg (bh ag),bG,bJ (bh ag),bF bD.e ag,ad,xJ a (c8 ag) true h,rfl,aj⟩)
  (ali ⟨dH,aj⟩)
 rcases l with⟨_,h1,_,U⟩ | ⟨i,a,_,_,_,h1,_,U⟩
 ·simp only[vN,h1];exact alk ⟨U,aj⟩
 simp only[vN,h1];exact alj ⟨U,aj⟩
theorem ao3(xs:List bD)(p:bD->Bool)(g:Nat)(bA:List D)(af:xs.length<=8388608)(ad:k4 prog g=true)(hp:∀x∈xs,aK g ([.agg x.e]++bA.map .one) [.one (B (p x))]):
  aK 308 [.one (.J 2 (xs.map bD.e)),.one (.cl g bA)] [.one (B (xs.any p))]:=by
 rw[<-QY];exact alf ⟨ao2 xs p g bA af ad hp,aj⟩
end Go.Proofs.YtdchjefneblpgaaGreat
namespace Go.Proofs.YtdchjefneblpgaaGreat
open Go.Sx Go.RowKit Go.Proofs.Tryz
def mU(e:Int)(xs:List aA):List aA:=xs.filter fun r=>r.bc.a8==e
theorem Kv(xs:List aA)(e:Int)(af:xs.length<=8388608):aK 116 [.one (.J 5 (xs.map aA.e)),.one (I e)] [.one (.J 5 ((mU e xs).map aA.e))]:=by
 let p:=fun r:aA=>r.bc.a8==e
 have l:=ef (P:=prog) (c:=(az f116 0)) (cL 0) xs.length (fun i:Nat=>wv (xs.map aA.e) e i (((xs.take i).filter p).map aA.e)) (fun i hi=>by
  obtain⟨a,ag⟩:=dv hi;have bl:=vV p xs i;have ae:=ua p ag;by_cases hp:p a=true
  ·rw[a6 hp]at ae;rw[ae,e3];exact alD ⟨cg hi,bG,bJ hi,bF aA.e ag,hp,bG,bJ hi,bF aA.e ag,by simp;omega,by simp;omega,dk a.flat,cY hi af,aj⟩
  rw[aX hp,ix]at ae;rw[ae];exact alE ⟨cg hi,bG,bJ hi,bF aA.e ag,kq.2 hp,cY hi af,aj⟩) (alF ⟨dH,aj⟩)
 rw[hP]at l;exact alG ⟨l,aj⟩
theorem ao4(xs:List aA)(e:Int)(af:xs.length<=8388608):aK 182 [.one (.J 5 (xs.map aA.e)),.one (I e)] [.one (.J 5 ((mU e xs).map aA.e))]:=by
 let p:=fun r:aA=>r.bc.a8==e
 have l:=ef (P:=prog) (c:=(az f182 0)) (cL 0) xs.length (fun i:Nat=>ww (xs.map aA.e) e i (((xs.take i).filter p).map aA.e)) (fun i hi=>by
  obtain⟨a,ag⟩:=dv hi;have bl:=vV p xs i;have ae:=ua p ag;by_cases hp:p a=true
  ·rw[a6 hp]at ae;rw[ae,e3];exact alH ⟨cg hi,bG,bJ hi,bF aA.e ag,hp,by simp;omega,by simp;omega,dk a.flat,cY hi af,aj⟩
  rw[aX hp,ix]at ae;rw[ae];exact alI ⟨cg hi,bG,bJ hi,bF aA.e ag,kq.2 hp,cY hi af,aj⟩) (alJ ⟨dH,aj⟩)
 rw[hP]at l;exact alK ⟨l,aj⟩
