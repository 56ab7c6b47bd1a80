import Derived.Test.YthfnndblgbjniaaGreatT2
import Derived.Test.YthfnndblgbjniaaGreatGN
import Derived.Sort.Statements
import Derived.Shelf.SlSortCmp.Insertion
set_option linter.unusedVariables false
set_option linter.unusedSimpArgs false
namespace Go.Proofs.YthfnndblgbjniaaGreat
open Go.Sx Go.RowKit Go.Proofs.Tryz
def ax(n c7 hi:Int):Bool:=decide (c7<=n/\n<=hi)
theorem js(n c7 hi:Int):ar 44 [.one (I n),.one (I c7),.one (I hi)] [.one (B (ax n c7 hi))]:=by
 by_cases h:c7<=n
 ·have e:ax n c7 hi=decide (n<=hi):=by simp[ax,h]
  rw[e];exact aB6 ⟨by simp only[cj];omega,aa⟩
 rw[show ax n c7 hi=false by simp[ax,h]];exact aB7 ⟨by simp only[kK];omega,aa⟩
theorem fm(n c7 hi:Int)(r:Bool)(h:ax n c7 hi=r):ar 44 [.one (I n),.one (I c7),.one (I hi)] [.one (B r)]:=h▸js n c7 hi
theorem lO(n c7 hi:Int):ar 43 [.one (I n),.one (I c7),.one (I hi)] [.one (B (ax n c7 hi))]:=by
 by_cases h:c7<=n
 ·have e:ax n c7 hi=decide (n<=hi):=by simp[ax,h]
  rw[e];exact aB4 ⟨by simp only[cj];omega,aa⟩
 rw[show ax n c7 hi=false by simp[ax,h]];exact aB5 ⟨by simp only[kK];omega,aa⟩
theorem fY{n c7 hi:Int}(r:Bool)(h:ax n c7 hi=r):ar 43 [.one (I n),.one (I c7),.one (I hi)] [.one (B r)]:=h▸lO n c7 hi
def gd(n c7 hi:Int):Int:=if hi<c7 then c7 else if n<c7 then c7 else if hi<n then hi else n
theorem GZ(n c7 hi:Int):ar 96 [.one (I n),.one (I c7),.one (I hi)] [.one (I (gd n c7 hi))]:=by
 unfold gd;by_cases h1:hi<c7
 ·rw[bq h1];exact aCs ⟨by simpa using h1,aa⟩
 rw[bD h1];by_cases U:n<c7
 ·rw[bq U];exact aCt ⟨by simpa using h1,by simpa using U,aa⟩
 rw[bD U];by_cases aA:hi<n
 ·rw[bq aA];exact aCu ⟨by simpa using h1,by simpa using U,by simpa using aA,aa⟩
 rw[bD aA];exact aCv ⟨by simpa using h1,by simpa using U,by simpa using aA,aa⟩
theorem ahc(n c7 hi:Int):ar 87 [.one (I n),.one (I c7),.one (I hi)] [.one (I (gd n c7 hi))]:=by
 unfold gd;by_cases h1:hi<c7
 ·rw[bq h1];exact aCw ⟨by simpa using h1,aa⟩
 rw[bD h1];by_cases U:n<c7
 ·rw[bq U];exact aCx ⟨by simpa using h1,by simpa using U,aa⟩
 rw[bD U];exact aCy ⟨by simpa using h1,by simpa using U,aa⟩
theorem az.flat(r:az):∀d∈r.e,∃x,d=.v x:=by
 intro d aE;simp only[az.e,ev,od,or_false]at aE;rcases aE with rfl | rfl | rfl | rfl | rfl<;>exact⟨_,rfl⟩
theorem Cell.flat(r:Cell):∀d∈r.e,∃x,d=.v x:=by
 intro d aE;simp only[Cell.e,ev,od,or_false]at aE;rcases aE with rfl | rfl | rfl | rfl<;>exact⟨_,rfl⟩
theorem b7.flat(r:b7):∀d∈r.e,∃x,d=.v x:=by
 intro d aE;simp only[b7.e,ev,od,or_false]at aE;rcases aE with rfl | rfl | rfl<;>exact⟨_,rfl⟩
theorem gQ.flat(r:gQ):∀d∈r.e,∃x,d=.v x:=by
 intro d aE;simp only[gQ.e,ev,od,or_false]at aE;rcases aE with rfl | rfl<;>exact⟨_,rfl⟩
theorem G0{α:Type}(p:α->Bool)(xs:List α)(i:Nat):((xs.take i).filter p).length<=i:=
 nD (o2 ..) (by simp;omega)
theorem NH(a r:Cell):(a.op==r.op&&(a.ba==r.ba&&(a.key==r.key&&a.val==r.val)))=decide (a=r):=by
 obtain⟨o,e,k,v⟩:=a;obtain⟨rN,e',ck,k9⟩:=r;rw[Bool.eq_iff_iff];simp only[cu,kq,cj,Cell.mk.injEq]
theorem VY(a r:Cell):(r.op==a.op&&(r.ba==a.ba&&(r.key==a.key&&r.val==a.val)))=decide (a=r):=by
 rw[NH r a];exact decide_eq_decide.2 ⟨Eq.symm,Eq.symm⟩
theorem oX{P:Program}{c:Code}{st:aD}{e:h3}{α:Type}(f:α->aD){l hf:α}(h:fS P c st e (f l))(al:l=hf):fS P c st e (f hf):=al▸h
theorem ahd{P:Program}{f:Nat}{args:List cR}{k:Nat}{l hf:List (List D)}(h:iF P f args [.one (.J k l)])(al:l=hf):iF P f args [.one (.J k hf)]:=al▸h
theorem z8{α β:Type}(f:α->List β)(c:Nat)(h:∀a,(f a).length<=c):∀xs:List α,(xs.flatMap f).length<=xs.length*c
 | []=>by simp
 | a::xs=>by
  have h1:=h a;have U:=z8 f c h xs;simp only[List.flatMap_cons,f',gT,hK,Nat.one_mul];omega
theorem dh{p:Prop}[Decidable p](h:p):decide p=true:=k' h
theorem ea{p:Prop}[Decidable p](h:¬p):decide p=false:=o8 h
end Go.Proofs.YthfnndblgbjniaaGreat
namespace Go.Proofs.YthfnndblgbjniaaGreat
open Go.Sx Go.RowKit Go.Proofs.Tryz
def hE(a b:Int):Int:=if a<b then -1 else if b<a then 1 else 0
def l8(l:List Int):Int:=(l.find? (· != 0)).getD 0
theorem uS(a b:Int):ar 151 [.one (I a),.one (I b)] [.one (I (hE a b))]:=by
 unfold hE;by_cases h:a<b
 ·rw[bq h];exact aB8 ⟨dh h,aa⟩
 rw[bD h];by_cases U:b<a
 ·rw[bq U];exact aB9 ⟨ea h,dh U,aa⟩
 rw[bD U];exact aCa ⟨ea h,ea U,aa⟩
theorem VZ(a:Int):ar 233 [.one (I a)] [.one (B false)]:=by
 have:=aCb a trivial;simpa using this
theorem V0(a b:Int):ar 221 [.one (I a),.one (I b)] [.one (I (hE a b))]:=by
 have x:=VZ a;have y:=VZ b;unfold hE;by_cases h:a<b
 ·rw[bq h];exact aCc ⟨x,y,rfl,rfl,dh h,aa⟩
 rw[bD h];by_cases U:b<a
 ·rw[bq U];exact aCd ⟨x,y,rfl,rfl,ea h,dh U,aa⟩
 rw[bD U];exact aCe ⟨x,y,rfl,rfl,ea h,ea U,aa⟩
theorem V1{xs ys:List Int}{i:Nat}{d:Int}(h:(List.zipWith hE xs ys)[i]?=some d):∃a b,xs[i]?=some a/\ys[i]?=some b/\hE a b=d:=by
 rw[List.getElem?_zipWith]at h;cases h1:xs[i]? with
 | none=>simp[h1]at h
 | some a=>
  cases U:ys[i]? with
  | none=>simp[h1,U]at h
  | some b=>exact⟨a,b,rfl,rfl,by simpa[h1,U]using h⟩
theorem ahe(xs ys:List Int)(al:xs.length=ys.length)(hm:xs.length<=8388608):ar 203 [.one (.J 1 (xs.map bd)),.one (.J 1 (ys.map bd))] [.one (I (l8 (List.zipWith hE xs ys)))]:=by
 have bb:(List.zipWith hE xs ys).length=xs.length:=by simp[al]
 have l:=gl (P:=prog) (c:=(ap f203 0)) (List.zipWith hE xs ys) (fun d=>d != 0) (fun i=>yo (xs.map bd) (ys.map bd) i) (X:=fun _ d=>Ol d) eC (cn 0)
  (fun i d aE h=>by
   obtain⟨a,b,ah,aw,rfl⟩:=V1 aE;exact aCg ⟨bV (aY ah),bx,bH (aY ah),bA bd ah,ea (by have:=aY aw;simp;omega),bx,bH (aY aw),bA bd aw,V0 a b,h,c0 (aY ah) hm,aa⟩)
  (fun i d aE h=>by
   obtain⟨a,b,ah,aw,rfl⟩:=V1 aE;exact aCf ⟨bV (aY ah),bx,bH (aY ah),bA bd ah,ea (by have:=aY aw;simp;omega),bx,bH (aY aw),bA bd aw,V0 a b,h,aa⟩)
  (by rw[bb];exact aCh ⟨dq,aa⟩)
 unfold l8;rcases l with⟨h1,_,_,U⟩ | ⟨i,a,_,_,h1,_,_,U⟩
 ·rw[h1];exact aCj ⟨U,by simp[al],aa⟩
 rw[h1];exact aCi ⟨U,aa⟩
theorem NI(xs ys:List Int)(al:xs.length=ys.length)(hm:xs.length<=8388608):ar 188 [.one (.J 1 (xs.map bd)),.one (.J 1 (ys.map bd))] [.one (I (l8 (List.zipWith hE xs ys)))]:=
 aCk ⟨ahe xs ys al hm,aa⟩
def i'(a b:Cell):Int:=l8 [hE a.ba b.ba,hE a.op b.op,hE a.key b.key,hE a.val b.val]
theorem G1(a b:Cell):ar 163 [.agg a.e,.agg b.e] [.one (I (i' a b))]:=
 afX ⟨NI [a.ba,a.op,a.key,a.val] [b.ba,b.op,b.key,b.val] rfl (by simp),aa⟩
theorem G2(a b:Cell):ar 166 [.agg a.e,.agg b.e] [.one (I (i' a b))]:=by
 have cy:=uS a.ba b.ba;have ci:=uS a.op b.op;have cI:=uS a.key b.key;have fs:=uS a.val b.val;unfold i';generalize hE a.ba b.ba=gY at*;generalize hE a.op b.op=gN at*;generalize hE a.key b.key=lU at*;generalize hE a.val b.val=sf at*;have l:=gl (P:=prog) (c:=(ap f166 0)) [gY,gN,lU,sf] (fun d=>d != 0) (fun i=>yC gY gN lU sf i) (X:=fun _ d=>NF d) eC (cn 0)
  (fun i d aE h=>ahn ⟨dh (by have:=aY aE;simp at this;omega),bx,by have:=aY aE;simp at this ⊢;omega,bA bd aE,h,⟨by omega,by have:=aY aE;simp at this;omega⟩,aa⟩)
  (fun i d aE h=>ahm ⟨dh (by have:=aY aE;simp at this;omega),bx,by have:=aY aE;simp at this ⊢;omega,bA bd aE,h,bx,by have:=aY aE;simp at this ⊢;omega,bA bd aE,aa⟩)
  (aho ⟨rfl,aa⟩)
 unfold l8;rcases l with⟨h1,_,_,U⟩ | ⟨i,a,_,_,h1,_,_,U⟩
 ·rw[h1];exact ahq ⟨cy,ci,cI,fs,U,aa⟩
 rw[h1];exact ahp ⟨cy,ci,cI,fs,U,aa⟩
end Go.Proofs.YthfnndblgbjniaaGreat
namespace Go.Proofs.YthfnndblgbjniaaGreat
open Go.Sx Go.RowKit Go.Sort Go.Proofs.Tryz
def kQ(u v:List Int):Int:=l8 (List.zipWith hE u v)
theorem wE(d:Int)(l:List Int):l8 (d::l)=if d=0 then l8 l else d:=by
 unfold l8;by_cases h:d=0
 ·simp[h]
 simp[h]
theorem V2:∀(eX nT:List Int),l8 (l8 eX::nT)=l8 (eX++nT)
 | [],nT=>by rw[wE];simp[l8]
 | d::eX,nT=>by
  rw[List.cons_append,wE d (eX++nT),wE d eX];by_cases h:d=0
  ·rw[bq h,bq h];exact V2 eX nT
  rw[bD h,bD h,wE,bD h]
theorem ahf(a b:Int)(u v:List Int):kQ (a::u) (b::v)=if a=b then kQ u v else hE a b:=by
 unfold kQ;rw[List.zipWith_cons_cons,wE];have:hE a b=0<->a=b:=by unfold hE;split<;>(try split)<;>constructor<;>intro h<;>omega
 by_cases h:a=b
 ·rw[bq (this.2 h),bq h]
 rw[bD (fun e=>h (this.1 e)),bD h]
theorem G3(a b:Int)(u v:List Int):kQ (a::u) (b::v)<0<->a<b\/(a=b/\kQ u v<0):=by
 rw[ahf];split
 ·constructor
  ·intro h;exact .inr ⟨‹_›,h⟩
  rintro (h | h)
  ·omega
  exact h.2
 ·unfold hE;split<;>(try split)<;>constructor<;>intro h<;>omega
theorem V3:∀u:List Int,¬kQ u u<0
 | []=>by simp[kQ,l8]
 | a::u=>by rw[G3];have:=V3 u;omega
theorem NJ:∀(u v w:List Int),u.length=v.length->v.length=w.length->kQ u v<0->kQ v w<0->kQ u w<0
 | [],[],[],_,_,h,_=>h
 | a::u,b::v,c::w,h1,U,aA,aJ=>by
  rw[G3] at*;have:=NJ u v w (by simpa using h1) (by simpa using U);omega
theorem V4:∀(u v w:List Int),u.length=v.length->v.length=w.length->¬kQ u v<0->¬kQ v w<0->¬kQ u w<0
 | [],[],[],_,_,h,_=>h
 | a::u,b::v,c::w,h1,U,aA,aJ=>by
  rw[G3] at*;have:=V4 u v w (by simpa using h1) (by simpa using U);omega
theorem NK:∀(u v:List Int),u.length=v.length->¬kQ u v<0->¬kQ v u<0->u=v
 | [],[],_,_,_=>rfl
 | a::u,b::v,h1,aA,aJ=>by
  rw[G3]at aA aJ;have ec:a=b:=by omega
  subst ec;rw[NK u v (by simpa using h1) (by omega) (by omega)]
theorem ahg{α:Type}(key:α->List Int)(n:Nat)(aW:∀a,(key a).length=n):SWO (ltOf fun a b=>kQ (key a) (key b)) where
 irrefl x:=by simp only[ltOf,kK];exact V3 _
 trans x y z h1 U:=by
  simp only[ltOf,cj] at*;exact NJ _ _ _ (by rw[aW,aW]) (by rw[aW,aW]) h1 U
 ntrans x y z h1 U:=by
  simp only[ltOf,kK] at*;exact V4 _ _ _ (by rw[aW,aW]) (by rw[aW,aW]) h1 U
theorem ahh{α:Type}(key:α->List Int)(n:Nat)(aW:∀a,(key a).length=n)(hi:∀a b,key a=key b->a=b)(x y:α)(h1:(ltOf fun a b=>kQ (key a) (key b)) x y=false)(U:(ltOf fun a b=>kQ (key a) (key b)) y x=false):x=y:=by
 simp only[ltOf,kK] at*;exact hi _ _ (NK _ _ (by rw[aW,aW]) h1 U)
section
variable {α : Type}
def mC(lt:α->α->Bool)(x:α)(S:List α):Nat->Nat
 | 0=>0
 | k+1=>match S[k]? with | some y=>if lt x y then mC lt x S k else k+1 | none=>k+1
def qA(lt:α->α->Bool)(S:List α)(x:α):List α:=S.take (mC lt x S S.length)++x::S.drop (mC lt x S S.length)
def me(lt:α->α->Bool)(xs:List α):List α:=xs.foldl (qA lt) []
theorem NL(lt:α->α->Bool)(x:α)(S:List α):∀k,mC lt x S k<=k
 | 0=>fi _
 | k+1=>by
  simp only[mC];have:=NL lt x S k;split
  ·split<;>omega
  omega
theorem V5(lt:α->α->Bool)(x:α)(S:List α):∀k j y,mC lt x S k<=j->j<k->S[j]?=some y->lt x y=true
 | 0,j,y,_,h,_=>by omega
 | k+1,j,y,h1,U,bu=>by
  simp only[mC]at h1;split at h1
  ·rename_i z bb;split at h1
   ·rename_i al;by_cases e:j=k
    ·subst e;rw[bb]at bu;cases bu;exact al
    exact V5 lt x S k j y h1 (by omega) bu
   omega
  omega
theorem V6(lt:α->α->Bool)(x:α)(S:List α):∀k y,0<mC lt x S k->S[mC lt x S k-1]?=some y->lt x y=false
 | 0,y,h,_=>by simp[mC]at h
 | k+1,y,h,bu=>by
  simp only[mC]at h bu;split at h
  ·rename_i z bb;simp only[bb]at bu;split at h
   ·rename_i al;rw[bq al]at bu;exact V6 lt x S k y h bu
   rename_i al;rw[bD al,Nat.add_sub_cancel,bb]at bu;cases bu;simpa using al
  rename_i bb;simp only[bb]at bu;rw[Nat.add_sub_cancel,bb]at bu;cases bu
theorem V7(lt:α->α->Bool)(S:List α)(x:α):(qA lt S x).Perm (x::S):=by
 unfold qA;refine (List.perm_middle).trans ?_;rw[yX]
theorem ahi(lt:α->α->Bool)(S:List α)(x:α):(qA lt S x).length=S.length+1:=(V7 lt S x).length_eq
abbrev y3(lt:α->α->Bool)(S:List α):Prop:=S.Pairwise fun a b=>(!lt b a)=true
theorem ahj{lt:α->α->Bool}(hO:SWO lt){S:List α}(fF:y3 lt S)(x:α):y3 lt (qA lt S x):=by
 have asym:∀a b,lt a b=true->lt b a=false:=by
  intro a b h;cases U:lt b a with
  | false=>rfl
  | true=>have:=hO.trans _ _ _ h U;rw[hO.irrefl]at this;cases this
 unfold qA;obtain⟨p,hp⟩:∃p,p=mC lt x S S.length:=⟨_,rfl⟩
 have aeD:=NL lt x S S.length;have R9:=V5 lt x S S.length;have pr:=V6 lt x S S.length;rw[<-hp]at aeD R9 pr ⊢;have bJ:S.take p++S.drop p=S:=yX _ _;have J7:=fF;unfold y3 at J7;rw[<-bJ,List.pairwise_append]at J7;obtain⟨h1,U,aA⟩:=J7;have afa:∀b∈S.drop p,lt x b=true:=by
  intro b aw;obtain⟨j,bf⟩:=ob.1 aw;rw[lx]at bf;exact R9 (p+j) b (by omega) (ga.1 bf).1 bf
 have J':∀a∈S.take p,lt x a=false:=by
  intro a ah;obtain⟨j,bf⟩:=ob.1 ah;rw[jZ]at bf;split at bf
  ·rename_i aFN;have vE:p-1<S.length:=by omega
   have aw:=pr S[p-1] (by omega) (gU vE);by_cases e:j=p-1
   ·subst e;rw[gU vE]at bf;cases bf;exact aw
   have jG:j<S.length:=by omega
   have:=List.pairwise_iff_getElem.1 fF j (p-1) jG vE (by omega);rw[gU jG]at bf;cases bf;exact hO.ntrans _ _ _ aw (by simpa using this)
  cases bf
 unfold y3;rw[List.pairwise_append];refine⟨h1,List.pairwise_cons.2 ⟨fun b aw=>by simp[asym _ _ (afa b aw)],U⟩,fun a ah b aw=>?_⟩;rcases ev.1 aw with rfl | aw
 ·simp[J' a ah]
 exact aA a ah b aw
theorem NM{lt:α->α->Bool}(hO:SWO lt):∀(xs S:List α),y3 lt S->y3 lt (xs.foldl (qA lt) S)/\(xs.foldl (qA lt) S).Perm (S++xs)
 | [],S,h=>⟨h,by simp⟩
 | x::xs,S,h=>by
  obtain⟨h1,U⟩:=NM hO xs (qA lt S x) (ahj hO h x);refine⟨h1,U.trans ?_⟩;refine ((V7 lt S x).append_right xs).trans ?_;exact (List.perm_middle (l₁:=S) (a:=x) (l₂:=xs)).symm
theorem agK{lt:α->α->Bool}(hO:SWO lt)(hQ:∀x y,lt x y=false->lt y x=false->x=y)(xs:List α):me lt xs=xs.mergeSort fun x y=>!lt y x:=by
 obtain⟨h1,U⟩:=NM hO xs [] List.Pairwise.nil;refine List.Perm.eq_of_pairwise (le:=fun x y=>(!lt y x)=true) ?_ h1 ?_ ((show (me lt xs).Perm xs from U).trans (List.mergeSort_perm _ _).symm)
 ·intro a b _ _ aA aJ;simp only[gp]at aA aJ;exact hQ a b aJ aA
 refine List.pairwise_mergeSort (le:=fun x y=>!lt y x) ?_ ?_ xs
 ·intro a b c aA aJ;simp only[gp]at aA aJ ⊢;exact hO.ntrans _ _ _ aJ aA
 intro a b;simp only[o5,gp];cases aA:lt b a with
 | false=>exact .inl rfl
 | true=>
  right;cases aJ:lt a b with
  | false=>rfl
  | true=>have:=hO.trans _ _ _ aA aJ;rw[hO.irrefl]at this;cases this
theorem agL{lt:α->α->Bool}{xs:List α}{i:Nat}{a:α}(h:xs[i]?=some a):me lt (xs.take (i+1))=qA lt (me lt (xs.take i)) a:=by
 simp[me,o4,h,List.foldl_append]
theorem NN(lt:α->α->Bool):∀(xs S:List α),(xs.foldl (qA lt) S).length=S.length+xs.length
 | [],S=>rfl
 | x::xs,S=>by
  rw[List.foldl_cons,NN lt xs,ahi,gT];omega
end
end Go.Proofs.YthfnndblgbjniaaGreat
namespace Go.Proofs.YthfnndblgbjniaaGreat
open Go.Sx Go.RowKit Go.Proofs.Tryz
def kA{α:Type}(p:α->Bool)(xs:List α):Int:=match xs.findIdx? p with | some i=>i | none=>-1
theorem CY{α:Type}(p:α->Bool)(xs:List α):decide (kA p xs>=0)=xs.any p:=by
 unfold kA;cases h:xs.findIdx? p with
 | none=>
  have:xs.any p=false:=by
   rw[fx];rw[Jm]at h;exact fun a ah=>by simp[h a ah]
  rw[this];rfl
 | some i=>
  rw[u9]at h;obtain⟨hi,U,_⟩:=h;have:xs.any p=true:=o7.2 ⟨_,p9 hi,U⟩;rw[this];simp
theorem agM(xs:List aK)(p:aK->Bool)(g:Nat)(bk:List D)(al:xs.length<=8388608)(ai:fX prog g=true)(hp:∀x∈xs,ar g ([.agg x.e]++bk.map .one) [.one (B (p x))]):
  ar 76 [.one (.J 8 (xs.map aK.e)),.one (.cl g bk)] [.one (I (kA p xs))]:=by
 have kb:∀x∈xs,∀r,p x=r->ar g ([.agg x.e]++bk.map .one) [.one (B r)]:=fun x ag r h=>h▸hp x ag
 have l:=gl (P:=prog) (c:=(ap f76 0)) xs p (fun i=>yu (xs.map aK.e) g bk i) (X:=fun i _=>Nx i) eC (cn 0)
  (fun i a ah h=>aCQ ⟨bV (aY ah),bx,bH (aY ah),bA aK.e ah,ai,kb a (cD ah) false h,rfl,c0 (aY ah) al,aa⟩)
  (fun i a ah h=>aCP ⟨bV (aY ah),bx,bH (aY ah),bA aK.e ah,ai,kb a (cD ah) true h,rfl,aa⟩)
  (aCR ⟨dq,aa⟩)
 rcases l with⟨_,h1,_,U⟩ | ⟨i,a,_,_,_,h1,_,U⟩
 ·simp only[kA,h1];exact aCT ⟨U,aa⟩
 simp only[kA,h1];exact aCS ⟨U,aa⟩
theorem agN(xs:List aK)(p:aK->Bool)(g:Nat)(bk:List D)(al:xs.length<=8388608)(ai:fX prog g=true)(hp:∀x∈xs,ar g ([.agg x.e]++bk.map .one) [.one (B (p x))]):
  ar 29 [.one (.J 8 (xs.map aK.e)),.one (.cl g bk)] [.one (B (xs.any p))]:=by
 rw[<-CY];exact agH ⟨agM xs p g bk al ai hp,aa⟩
theorem agO(xs:List az)(p:az->Bool)(g:Nat)(bk:List D)(al:xs.length<=8388608)(ai:fX prog g=true)(hp:∀x∈xs,ar g ([.agg x.e]++bk.map .one) [.one (B (p x))]):
  ar 122 [.one (.J 5 (xs.map az.e)),.one (.cl g bk)] [.one (I (kA p xs))]:=by
 have kb:∀x∈xs,∀r,p x=r->ar g ([.agg x.e]++bk.map .one) [.one (B r)]:=fun x ag r h=>h▸hp x ag
 have l:=gl (P:=prog) (c:=(ap f122 0)) xs p (fun i=>yv (xs.map az.e) g bk i) (X:=fun i _=>Ny i) eC (cn 0)
  (fun i a ah h=>aCV ⟨bV (aY ah),bx,bH (aY ah),bA az.e ah,ai,kb a (cD ah) false h,rfl,c0 (aY ah) al,aa⟩)
  (fun i a ah h=>aCU ⟨bV (aY ah),bx,bH (aY ah),bA az.e ah,ai,kb a (cD ah) true h,rfl,aa⟩)
  (agk ⟨dq,aa⟩)
 rcases l with⟨_,h1,_,U⟩ | ⟨i,a,_,_,_,h1,_,U⟩
 ·simp only[kA,h1];exact agm ⟨U,aa⟩
 simp only[kA,h1];exact agl ⟨U,aa⟩
theorem V8(xs:List az)(p:az->Bool)(g:Nat)(bk:List D)(al:xs.length<=8388608)(ai:fX prog g=true)(hp:∀x∈xs,ar g ([.agg x.e]++bk.map .one) [.one (B (p x))]):
  ar 82 [.one (.J 5 (xs.map az.e)),.one (.cl g bk)] [.one (B (xs.any p))]:=by
 rw[<-CY];exact agI ⟨agO xs p g bk al ai hp,aa⟩
theorem agP(xs:List cS)(p:cS->Bool)(g:Nat)(bk:List D)(al:xs.length<=8388608)(ai:fX prog g=true)(hp:∀x∈xs,ar g ([.agg x.e]++bk.map .one) [.one (B (p x))]):
  ar 167 [.one (.J 2 (xs.map cS.e)),.one (.cl g bk)] [.one (I (kA p xs))]:=by
 have kb:∀x∈xs,∀r,p x=r->ar g ([.agg x.e]++bk.map .one) [.one (B r)]:=fun x ag r h=>h▸hp x ag
 have l:=gl (P:=prog) (c:=(ap f167 0)) xs p (fun i=>yw (xs.map cS.e) g bk i) (X:=fun i _=>Nz i) eC (cn 0)
  (fun i a ah h=>ago ⟨bV (aY ah),bx,bH (aY ah),bA cS.e ah,ai,kb a (cD ah) false h,rfl,c0 (aY ah) al,aa⟩)
  (fun i a ah h=>agn ⟨bV (aY ah),bx,bH (aY ah),bA cS.e ah,ai,kb a (cD ah) true h,rfl,aa⟩)
  (agp ⟨dq,aa⟩)
 rcases l with⟨_,h1,_,U⟩ | ⟨i,a,_,_,_,h1,_,U⟩
 ·simp only[kA,h1];exact agr ⟨U,aa⟩
 simp only[kA,h1];exact agq ⟨U,aa⟩
theorem agQ(xs:List cS)(p:cS->Bool)(g:Nat)(bk:List D)(al:xs.length<=8388608)(ai:fX prog g=true)(hp:∀x∈xs,ar g ([.agg x.e]++bk.map .one) [.one (B (p x))]):
  ar 119 [.one (.J 2 (xs.map cS.e)),.one (.cl g bk)] [.one (B (xs.any p))]:=by
 rw[<-CY];exact agJ ⟨agP xs p g bk al ai hp,aa⟩
theorem V9(xs:List bT)(p:bT->Bool)(g:Nat)(bk:List D)(al:xs.length<=8388608)(ai:fX prog g=true)(hp:∀x∈xs,ar g ([.agg x.e]++bk.map .one) [.one (B (p x))]):
  ar 78 [.one (.J 3 (xs.map bT.e)),.one (.cl g bk)] [.one (I (kA p xs))]:=by
 have kb:∀x∈xs,∀r,p x=r->ar g ([.agg x.e]++bk.map .one) [.one (B r)]:=fun x ag r h=>h▸hp x ag
 have l:=gl (P:=prog) (c:=(ap f78 0)) xs p (fun i=>yx (xs.map bT.e) g bk i) (X:=fun i _=>NA i) eC (cn 0)
  (fun i a ah h=>agt ⟨bV (aY ah),bx,bH (aY ah),bA bT.e ah,ai,kb a (cD ah) false h,rfl,c0 (aY ah) al,aa⟩)
  (fun i a ah h=>ags ⟨bV (aY ah),bx,bH (aY ah),bA bT.e ah,ai,kb a (cD ah) true h,rfl,aa⟩)
  (agu ⟨dq,aa⟩)
 rcases l with⟨_,h1,_,U⟩ | ⟨i,a,_,_,_,h1,_,U⟩
 ·simp only[kA,h1];exact agw ⟨U,aa⟩
 simp only[kA,h1];exact agv ⟨U,aa⟩
theorem agR(xs:List bT)(p:bT->Bool)(g:Nat)(bk:List D)(al:xs.length<=8388608)(ai:fX prog g=true)(hp:∀x∈xs,ar g ([.agg x.e]++bk.map .one) [.one (B (p x))]):
  ar 32 [.one (.J 3 (xs.map bT.e)),.one (.cl g bk)] [.one (B (xs.any p))]:=by
 rw[<-CY];exact afT ⟨V9 xs p g bk al ai hp,aa⟩
theorem agS(xs:List Cell)(p:Cell->Bool)(g:Nat)(bk:List D)(al:xs.length<=8388608)(ai:fX prog g=true)(hp:∀x∈xs,ar g ([.agg x.e]++bk.map .one) [.one (B (p x))]):
  ar 235 [.one (.J 4 (xs.map Cell.e)),.one (.cl g bk)] [.one (I (kA p xs))]:=by
 have kb:∀x∈xs,∀r,p x=r->ar g ([.agg x.e]++bk.map .one) [.one (B r)]:=fun x ag r h=>h▸hp x ag
 have l:=gl (P:=prog) (c:=(ap f235 0)) xs p (fun i=>yy (xs.map Cell.e) g bk i) (X:=fun i _=>NB i) eC (cn 0)
  (fun i a ah h=>agy ⟨bV (aY ah),bx,bH (aY ah),bA Cell.e ah,ai,kb a (cD ah) false h,rfl,c0 (aY ah) al,aa⟩)
  (fun i a ah h=>agx ⟨bV (aY ah),bx,bH (aY ah),bA Cell.e ah,ai,kb a (cD ah) true h,rfl,aa⟩)
  (agz ⟨dq,aa⟩)
 rcases l with⟨_,h1,_,U⟩ | ⟨i,a,_,_,_,h1,_,U⟩
 ·simp only[kA,h1];exact agB ⟨U,aa⟩
 simp only[kA,h1];exact agA ⟨U,aa⟩
theorem agT(xs:List b7)(p:b7->Bool)(g:Nat)(bk:List D)(al:xs.length<=8388608)(ai:fX prog g=true)(hp:∀x∈xs,ar g ([.agg x.e]++bk.map .one) [.one (B (p x))]):
  ar 86 [.one (.J 3 (xs.map b7.e)),.one (.cl g bk)] [.one (I (kA p xs))]:=by
 have kb:∀x∈xs,∀r,p x=r->ar g ([.agg x.e]++bk.map .one) [.one (B r)]:=fun x ag r h=>h▸hp x ag
 have l:=gl (P:=prog) (c:=(ap f86 0)) xs p (fun i=>yz (xs.map b7.e) g bk i) (X:=fun i _=>NC i) eC (cn 0)
  (fun i a ah h=>agD ⟨bV (aY ah),bx,bH (aY ah),bA b7.e ah,ai,kb a (cD ah) false h,rfl,c0 (aY ah) al,aa⟩)
  (fun i a ah h=>agC ⟨bV (aY ah),bx,bH (aY ah),bA b7.e ah,ai,kb a (cD ah) true h,rfl,aa⟩)
  (agE ⟨dq,aa⟩)
 rcases l with⟨_,h1,_,U⟩ | ⟨i,a,_,_,_,h1,_,U⟩
 ·simp only[kA,h1];exact agG ⟨U,aa⟩
 simp only[kA,h1];exact agF ⟨U,aa⟩
theorem ail(xs:List b7)(p:b7->Bool)(g:Nat)(bk:List D)(al:xs.length<=8388608)(ai:fX prog g=true)(hp:∀x∈xs,ar g ([.agg x.e]++bk.map .one) [.one (B (p x))]):
  ar 47 [.one (.J 3 (xs.map b7.e)),.one (.cl g bk)] [.one (B (xs.any p))]:=by
 rw[<-CY];exact afU ⟨agT xs p g bk al ai hp,aa⟩
