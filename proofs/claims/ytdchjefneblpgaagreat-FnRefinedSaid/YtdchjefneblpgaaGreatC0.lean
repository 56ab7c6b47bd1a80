import Derived.Test.YtdchjefneblpgaaGreatT2
import Derived.Test.YtdchjefneblpgaaGreatGN
import Derived.Sort.Statements
import Derived.Shelf.SlSortCmp.Insertion
set_option linter.unusedVariables false
set_option linter.unusedSimpArgs false
namespace Go.Proofs.YtdchjefneblpgaaGreat
open Go.Sx Go.RowKit Go.Proofs.Tryz
def aw(n de hi:Int):Bool:=decide (de<=n/\n<=hi)
theorem jy(n de hi:Int):al 168 [.one (I n),.one (I de),.one (I hi)] [.one (B (aw n de hi))]:=by
 by_cases h:de<=n
 ·have e:aw n de hi=decide (n<=hi):=by simp[aw,h]
  rw[e];exact axZ ⟨by simp only[cV];omega,aa⟩
 rw[show aw n de hi=false by simp[aw,h]];exact ax0 ⟨by simp only[lp];omega,aa⟩
theorem gb{n de hi:Int}(r:Bool)(h:aw n de hi=r):al 168 [.one (I n),.one (I de),.one (I hi)] [.one (B r)]:=h▸jy n de hi
theorem lH(n de hi:Int):al 190 [.one (I n),.one (I de),.one (I hi)] [.one (B (aw n de hi))]:=by
 by_cases h:de<=n
 ·have e:aw n de hi=decide (n<=hi):=by simp[aw,h]
  rw[e];exact awx ⟨by simp only[cV];omega,aa⟩
 rw[show aw n de hi=false by simp[aw,h]];exact axY ⟨by simp only[lp];omega,aa⟩
theorem hA{n de hi:Int}(r:Bool)(h:aw n de hi=r):al 190 [.one (I n),.one (I de),.one (I hi)] [.one (B r)]:=h▸lH n de hi
def iZ(n de hi:Int):Int:=if hi<de then de else if n<de then de else if hi<n then hi else n
theorem Fq(n de hi:Int):al 130 [.one (I n),.one (I de),.one (I hi)] [.one (I (iZ n de hi))]:=by
 unfold iZ;by_cases h1:hi<de
 ·rw[bm h1];exact awT ⟨by simpa using h1,aa⟩
 rw[bk h1];by_cases U:n<de
 ·rw[bm U];exact awU ⟨by simpa using h1,by simpa using U,aa⟩
 rw[bk U];by_cases ax:hi<n
 ·rw[bm ax];exact awV ⟨by simpa using h1,by simpa using U,by simpa using ax,aa⟩
 rw[bk ax];exact awW ⟨by simpa using h1,by simpa using U,by simpa using ax,aa⟩
theorem aq.flat(r:aq):∀d∈r.e,∃x,d=.v x:=by
 intro d aG;simp only[aq.e,eP,nZ,or_false]at aG;rcases aG with rfl | rfl | rfl | rfl | rfl<;>exact⟨_,rfl⟩
theorem Cell.flat(r:Cell):∀d∈r.e,∃x,d=.v x:=by
 intro d aG;simp only[Cell.e,eP,nZ,or_false]at aG;rcases aG with rfl | rfl | rfl | rfl<;>exact⟨_,rfl⟩
theorem cN.flat(r:cN):∀d∈r.e,∃x,d=.v x:=by
 intro d aG;simp only[cN.e,eP,nZ,or_false]at aG;rcases aG with rfl | rfl | rfl<;>exact⟨_,rfl⟩
theorem gz.flat(r:gz):∀d∈r.e,∃x,d=.v x:=by
 intro d aG;simp only[gz.e,eP,nZ,or_false]at aG;rcases aG with rfl | rfl<;>exact⟨_,rfl⟩
theorem Fs{α:Type}(p:α->Bool)(xs:List α)(i:Nat):((xs.take i).filter p).length<=i:=
 sW (qw ..) (by simp;omega)
theorem xX(a r:aq):(a.op==r.op&&(a.bq.bd==r.bq.bd&&a.bq.dC==r.bq.dC&&(a.key==r.key&&a.val==r.val)))=decide (a=r):=by
 obtain⟨o,⟨e,t⟩,k,v⟩:=a;obtain⟨pj,⟨e',di⟩,cw,nh⟩:=r;rw[Bool.eq_iff_iff];simp only[cx,dE,cV,aq.mk.injEq,gz.mk.injEq]
theorem TU(a r:aq):(r.op==a.op&&(r.bq.bd==a.bq.bd&&r.bq.dC==a.bq.dC&&(r.key==a.key&&r.val==a.val)))=decide (a=r):=by
 rw[xX r a];exact decide_eq_decide.2 ⟨Eq.symm,Eq.symm⟩
theorem M1(a r:Cell):(a.op==r.op&&(a.bd==r.bd&&(a.key==r.key&&a.val==r.val)))=decide (a=r):=by
 obtain⟨o,e,k,v⟩:=a;obtain⟨pj,e',cw,nh⟩:=r;rw[Bool.eq_iff_iff];simp only[cx,dE,cV,Cell.mk.injEq]
theorem TV(a r:Cell):(r.op==a.op&&(r.bd==a.bd&&(r.key==a.key&&r.val==a.val)))=decide (a=r):=by
 rw[M1 r a];exact decide_eq_decide.2 ⟨Eq.symm,Eq.symm⟩
theorem rJ{P:Program}{c:Code}{st:aJ}{e:hY}{α:Type}(f:α->aJ){l hz:α}(h:fT P c st e (f l))(ap:l=hz):fT P c st e (f hz):=ap▸h
theorem azG{P:Program}{f:Nat}{args:List cQ}{k:Nat}{l hz:List (List D)}(h:jn P f args [.one (.J k l)])(ap:l=hz):jn P f args [.one (.J k hz)]:=ap▸h
theorem zr{α β:Type}(f:α->List β)(c:Nat)(h:∀a,(f a).length<=c):∀xs:List α,(xs.flatMap f).length<=xs.length*c
 | []=>by simp
 | a::xs=>by
  have h1:=h a;have U:=zr f c h xs;simp only[List.flatMap_cons,fF,eh,gg,Nat.one_mul];omega
theorem dt{p:Prop}[Decidable p](h:p):decide p=true:=jj h
theorem dQ{p:Prop}[Decidable p](h:¬p):decide p=false:=lQ h
end Go.Proofs.YtdchjefneblpgaaGreat
namespace Go.Proofs.YtdchjefneblpgaaGreat
open Go.Sx Go.RowKit Go.Proofs.Tryz
def hP(a b:Int):Int:=if a<b then -1 else if b<a then 1 else 0
def lX(l:List Int):Int:=(l.find? (· != 0)).getD 0
theorem tQ(a b:Int):al 322 [.one (I a),.one (I b)] [.one (I (hP a b))]:=by
 unfold hP;by_cases h:a<b
 ·rw[bm h];exact ax1 ⟨dt h,aa⟩
 rw[bk h];by_cases U:b<a
 ·rw[bm U];exact ax2 ⟨dQ h,dt U,aa⟩
 rw[bk U];exact ax3 ⟨dQ h,dQ U,aa⟩
theorem TW(a:Int):al 388 [.one (I a)] [.one (B false)]:=by
 have:=ax4 a trivial;simpa using this
theorem Vm(a b:Int):al 382 [.one (I a),.one (I b)] [.one (I (hP a b))]:=by
 have x:=TW a;have y:=TW b;unfold hP;by_cases h:a<b
 ·rw[bm h];exact ax5 ⟨x,y,rfl,rfl,dt h,aa⟩
 rw[bk h];by_cases U:b<a
 ·rw[bm U];exact ax6 ⟨x,y,rfl,rfl,dQ h,dt U,aa⟩
 rw[bk U];exact ax7 ⟨x,y,rfl,rfl,dQ h,dQ U,aa⟩
theorem Vn{xs ys:List Int}{i:Nat}{d:Int}(h:(List.zipWith hP xs ys)[i]?=some d):∃a b,xs[i]?=some a/\ys[i]?=some b/\hP a b=d:=by
 rw[List.getElem?_zipWith]at h;cases h1:xs[i]? with
 | none=>simp[h1]at h
 | some a=>
  cases U:ys[i]? with
  | none=>simp[h1,U]at h
  | some b=>exact⟨a,b,rfl,rfl,by simpa[h1,U]using h⟩
theorem azH(xs ys:List Int)(ap:xs.length=ys.length)(hm:xs.length<=8388608):al 364 [.one (.J 1 (xs.map bh)),.one (.J 1 (ys.map bh))] [.one (I (lX (List.zipWith hP xs ys)))]:=by
 have bi:(List.zipWith hP xs ys).length=xs.length:=by simp[ap]
 have l:=gN (P:=prog) (c:=(ar f364 0)) (List.zipWith hP xs ys) (fun d=>d != 0) (fun i=>xv (xs.map bh) (ys.map bh) i) (X:=fun _ d=>MQ d) e0 (cH 0)
  (fun i d aG h=>by
   obtain⟨a,b,ak,av,rfl⟩:=Vn aG;exact ax9 ⟨b5 (aT ak),bD,bK (aT ak),bE bh ak,dQ (by have:=aT av;simp;omega),bD,bK (aT av),bE bh av,Vm a b,h,dj (aT ak) hm,aa⟩)
  (fun i d aG h=>by
   obtain⟨a,b,ak,av,rfl⟩:=Vn aG;exact ax8 ⟨b5 (aT ak),bD,bK (aT ak),bE bh ak,dQ (by have:=aT av;simp;omega),bD,bK (aT av),bE bh av,Vm a b,h,aa⟩)
  (by rw[bi];exact aya ⟨dT,aa⟩)
 unfold lX;rcases l with⟨h1,_,_,U⟩ | ⟨i,a,_,_,h1,_,_,U⟩
 ·rw[h1];exact ayc ⟨U,by simp[ap],aa⟩
 rw[h1];exact ayb ⟨U,aa⟩
theorem M3(xs ys:List Int)(ap:xs.length=ys.length)(hm:xs.length<=8388608):al 335 [.one (.J 1 (xs.map bh)),.one (.J 1 (ys.map bh))] [.one (I (lX (List.zipWith hP xs ys)))]:=
 ayd ⟨azH xs ys ap hm,aa⟩
def i'(a b:Cell):Int:=lX [hP a.bd b.bd,hP a.op b.op,hP a.key b.key,hP a.val b.val]
theorem Ft(a b:Cell):al 304 [.agg a.e,.agg b.e] [.one (I (i' a b))]:=
 azi ⟨M3 [a.bd,a.op,a.key,a.val] [b.bd,b.op,b.key,b.val] rfl (by simp),aa⟩
theorem Fu(a b:Cell):al 307 [.agg a.e,.agg b.e] [.one (I (i' a b))]:=by
 have ci:=tQ a.bd b.bd;have b6:=tQ a.op b.op;have ct:=tQ a.key b.key;have fB:=tQ a.val b.val;unfold i';generalize hP a.bd b.bd=hs at*;generalize hP a.op b.op=gS at*;generalize hP a.key b.key=rL at*;generalize hP a.val b.val=qq at*;have l:=gN (P:=prog) (c:=(ar f307 0)) [hs,gS,rL,qq] (fun d=>d != 0) (fun i=>w' hs gS rL qq i) (X:=fun _ d=>MZ d) e0 (cH 0)
  (fun i d aG h=>ayr ⟨dt (by have:=aT aG;simp at this;omega),bD,by have:=aT aG;simp at this ⊢;omega,bE bh aG,h,⟨by omega,by have:=aT aG;simp at this;omega⟩,aa⟩)
  (fun i d aG h=>ayq ⟨dt (by have:=aT aG;simp at this;omega),bD,by have:=aT aG;simp at this ⊢;omega,bE bh aG,h,bD,by have:=aT aG;simp at this ⊢;omega,bE bh aG,aa⟩)
  (ays ⟨rfl,aa⟩)
 unfold lX;rcases l with⟨h1,_,_,U⟩ | ⟨i,a,_,_,h1,_,_,U⟩
 ·rw[h1];exact ayu ⟨ci,b6,ct,fB,U,aa⟩
 rw[h1];exact ayt ⟨ci,b6,ct,fB,U,aa⟩
end Go.Proofs.YtdchjefneblpgaaGreat
namespace Go.Proofs.YtdchjefneblpgaaGreat
open Go.Sx Go.RowKit Go.Sort Go.Proofs.Tryz
def kK(u v:List Int):Int:=lX (List.zipWith hP u v)
theorem vw(d:Int)(l:List Int):lX (d::l)=if d=0 then lX l else d:=by
 unfold lX;by_cases h:d=0
 ·simp[h]
 simp[h]
theorem Vo:∀(gr mP:List Int),lX (lX gr::mP)=lX (gr++mP)
 | [],mP=>by rw[vw];simp[lX]
 | d::gr,mP=>by
  rw[List.cons_append,vw d (gr++mP),vw d gr];by_cases h:d=0
  ·rw[bm h,bm h];exact Vo gr mP
  rw[bk h,bk h,vw,bk h]
theorem azI(a b:Int)(u v:List Int):kK (a::u) (b::v)=if a=b then kK u v else hP a b:=by
 unfold kK;rw[List.zipWith_cons_cons,vw];have:hP a b=0<->a=b:=by unfold hP;split<;>(try split)<;>constructor<;>intro h<;>omega
 by_cases h:a=b
 ·rw[bm (this.2 h),bm h]
 rw[bk (fun e=>h (this.1 e)),bk h]
theorem Fv(a b:Int)(u v:List Int):kK (a::u) (b::v)<0<->a<b\/(a=b/\kK u v<0):=by
 rw[azI];split
 ·constructor
  ·intro h;exact .inr ⟨‹_›,h⟩
  rintro (h | h)
  ·omega
  exact h.2
 ·unfold hP;split<;>(try split)<;>constructor<;>intro h<;>omega
theorem Vp:∀u:List Int,¬kK u u<0
 | []=>by simp[kK,lX]
 | a::u=>by rw[Fv];have:=Vp u;omega
theorem M4:∀(u v w:List Int),u.length=v.length->v.length=w.length->kK u v<0->kK v w<0->kK u w<0
 | [],[],[],_,_,h,_=>h
 | a::u,b::v,c::w,h1,U,ax,aF=>by
  rw[Fv] at*;have:=M4 u v w (by simpa using h1) (by simpa using U);omega
theorem Vq:∀(u v w:List Int),u.length=v.length->v.length=w.length->¬kK u v<0->¬kK v w<0->¬kK u w<0
 | [],[],[],_,_,h,_=>h
 | a::u,b::v,c::w,h1,U,ax,aF=>by
  rw[Fv] at*;have:=Vq u v w (by simpa using h1) (by simpa using U);omega
theorem M5:∀(u v:List Int),u.length=v.length->¬kK u v<0->¬kK v u<0->u=v
 | [],[],_,_,_=>rfl
 | a::u,b::v,h1,ax,aF=>by
  rw[Fv]at ax aF;have fk:a=b:=by omega
  subst fk;rw[M5 u v (by simpa using h1) (by omega) (by omega)]
theorem azJ{α:Type}(key:α->List Int)(n:Nat)(aX:∀a,(key a).length=n):SWO (ltOf fun a b=>kK (key a) (key b)) where
 irrefl x:=by simp only[ltOf,lp];exact Vp _
 trans x y z h1 U:=by
  simp only[ltOf,cV] at*;exact M4 _ _ _ (by rw[aX,aX]) (by rw[aX,aX]) h1 U
 ntrans x y z h1 U:=by
  simp only[ltOf,lp] at*;exact Vq _ _ _ (by rw[aX,aX]) (by rw[aX,aX]) h1 U
theorem azK{α:Type}(key:α->List Int)(n:Nat)(aX:∀a,(key a).length=n)(hi:∀a b,key a=key b->a=b)(x y:α)(h1:(ltOf fun a b=>kK (key a) (key b)) x y=false)(U:(ltOf fun a b=>kK (key a) (key b)) y x=false):x=y:=by
 simp only[ltOf,lp] at*;exact hi _ _ (M5 _ _ (by rw[aX,aX]) h1 U)
section
variable {α : Type}
def mo(lt:α->α->Bool)(x:α)(S:List α):Nat->Nat
 | 0=>0
 | k+1=>match S[k]? with | some y=>if lt x y then mo lt x S k else k+1 | none=>k+1
def p5(lt:α->α->Bool)(S:List α)(x:α):List α:=S.take (mo lt x S S.length)++x::S.drop (mo lt x S S.length)
def jh(lt:α->α->Bool)(xs:List α):List α:=xs.foldl (p5 lt) []
theorem M6(lt:α->α->Bool)(x:α)(S:List α):∀k,mo lt x S k<=k
 | 0=>fI _
 | k+1=>by
  simp only[mo];have:=M6 lt x S k;split
  ·split<;>omega
  omega
theorem Vr(lt:α->α->Bool)(x:α)(S:List α):∀k j y,mo lt x S k<=j->j<k->S[j]?=some y->lt x y=true
 | 0,j,y,_,h,_=>by omega
 | k+1,j,y,h1,U,bf=>by
  simp only[mo]at h1;split at h1
  ·rename_i z bi;split at h1
   ·rename_i ap;by_cases e:j=k
    ·subst e;rw[bi]at bf;cases bf;exact ap
    exact Vr lt x S k j y h1 (by omega) bf
   omega
  omega
theorem Vs(lt:α->α->Bool)(x:α)(S:List α):∀k y,0<mo lt x S k->S[mo lt x S k-1]?=some y->lt x y=false
 | 0,y,h,_=>by simp[mo]at h
 | k+1,y,h,bf=>by
  simp only[mo]at h bf;split at h
  ·rename_i z bi;simp only[bi]at bf;split at h
   ·rename_i ap;rw[bm ap]at bf;exact Vs lt x S k y h bf
   rename_i ap;rw[bk ap,Nat.add_sub_cancel,bi]at bf;cases bf;simpa using ap
  rename_i bi;simp only[bi]at bf;rw[Nat.add_sub_cancel,bi]at bf;cases bf
theorem Vt(lt:α->α->Bool)(S:List α)(x:α):(p5 lt S x).Perm (x::S):=by
 unfold p5;refine (List.perm_middle).trans ?_;rw[Ak]
theorem azL(lt:α->α->Bool)(S:List α)(x:α):(p5 lt S x).length=S.length+1:=(Vt lt S x).length_eq
abbrev ye(lt:α->α->Bool)(S:List α):Prop:=S.Pairwise fun a b=>(!lt b a)=true
theorem azM{lt:α->α->Bool}(hO:SWO lt){S:List α}(AW:ye lt S)(x:α):ye lt (p5 lt S x):=by
 have asym:∀a b,lt a b=true->lt b a=false:=by
  intro a b h;cases U:lt b a with
  | false=>rfl
  | true=>have:=hO.trans _ _ _ h U;rw[hO.irrefl]at this;cases this
 unfold p5;obtain⟨p,hp⟩:∃p,p=mo lt x S S.length:=⟨_,rfl⟩
 have acQ:=M6 lt x S S.length;have Q1:=Vr lt x S S.length;have o4:=Vs lt x S S.length;rw[<-hp]at acQ Q1 o4 ⊢;have bG:S.take p++S.drop p=S:=Ak _ _;have IU:=AW;unfold ye at IU;rw[<-bG,List.pairwise_append]at IU;obtain⟨h1,U,ax⟩:=IU;have adm:∀b∈S.drop p,lt x b=true:=by
  intro b av;obtain⟨j,a1⟩:=nj.1 av;rw[gH]at a1;exact Q1 (p+j) b (by omega) (ek.1 a1).1 a1
 have IX:∀a∈S.take p,lt x a=false:=by
  intro a ak;obtain⟨j,a1⟩:=nj.1 ak;rw[gI]at a1;split at a1
  ·rename_i aCV;have yE:p-1<S.length:=by omega
   have av:=o4 S[p-1] (by omega) (fJ yE);by_cases e:j=p-1
   ·subst e;rw[fJ yE]at a1;cases a1;exact av
   have jF:j<S.length:=by omega
   have:=List.pairwise_iff_getElem.1 AW j (p-1) jF yE (by omega);rw[fJ jF]at a1;cases a1;exact hO.ntrans _ _ _ av (by simpa using this)
  cases a1
 unfold ye;rw[List.pairwise_append];refine⟨h1,List.pairwise_cons.2 ⟨fun b av=>by simp[asym _ _ (adm b av)],U⟩,fun a ak b av=>?_⟩;rcases eP.1 av with rfl | av
 ·simp[IX a ak]
 exact ax a ak b av
theorem zt{lt:α->α->Bool}(hO:SWO lt):∀(xs S:List α),ye lt S->ye lt (xs.foldl (p5 lt) S)/\(xs.foldl (p5 lt) S).Perm (S++xs)
 | [],S,h=>⟨h,by simp⟩
 | x::xs,S,h=>by
  obtain⟨h1,U⟩:=zt hO xs (p5 lt S x) (azM hO h x);refine⟨h1,U.trans ?_⟩;refine ((Vt lt S x).append_right xs).trans ?_;exact (List.perm_middle (l₁:=S) (a:=x) (l₂:=xs)).symm
theorem azN{lt:α->α->Bool}(hO:SWO lt)(jr:∀x y,lt x y=false->lt y x=false->x=y)(xs:List α):jh lt xs=xs.mergeSort fun x y=>!lt y x:=by
 obtain⟨h1,U⟩:=zt hO xs [] List.Pairwise.nil;refine List.Perm.eq_of_pairwise (le:=fun x y=>(!lt y x)=true) ?_ h1 ?_ ((show (jh lt xs).Perm xs from U).trans (List.mergeSort_perm _ _).symm)
 ·intro a b _ _ ax aF;simp only[gT]at ax aF;exact jr a b aF ax
 refine List.pairwise_mergeSort (le:=fun x y=>!lt y x) ?_ ?_ xs
 ·intro a b c ax aF;simp only[gT]at ax aF ⊢;exact hO.ntrans _ _ _ aF ax
 intro a b;simp only[oO,gT];cases ax:lt b a with
 | false=>exact .inl rfl
 | true=>
  right;cases aF:lt a b with
  | false=>rfl
  | true=>have:=hO.trans _ _ _ ax aF;rw[hO.irrefl]at this;cases this
theorem azO{lt:α->α->Bool}{xs:List α}{i:Nat}{a:α}(h:xs[i]?=some a):jh lt (xs.take (i+1))=p5 lt (jh lt (xs.take i)) a:=by
 simp[jh,uq,h,List.foldl_append]
theorem M7(lt:α->α->Bool):∀(xs S:List α),(xs.foldl (p5 lt) S).length=S.length+xs.length
 | [],S=>rfl
 | x::xs,S=>by
  rw[List.foldl_cons,M7 lt xs,azL,eh];omega
end
end Go.Proofs.YtdchjefneblpgaaGreat
namespace Go.Proofs.YtdchjefneblpgaaGreat
open Go.Sx Go.RowKit Go.Proofs.Tryz
def mN{α:Type}(p:α->Bool)(xs:List α):Int:=match xs.findIdx? p with | some i=>i | none=>-1
theorem Vu{α:Type}(p:α->Bool)(xs:List α):decide (mN p xs>=0)=xs.any p:=by
 unfold mN;cases h:xs.findIdx? p with
 | none=>
  have:xs.any p=false:=by
   rw[ik];rw[ya]at h;exact fun a ak=>by simp[h a ak]
  rw[this];rfl
 | some i=>
  rw[qs]at h;obtain⟨hi,U,_⟩:=h;have:xs.any p=true:=qy.2 ⟨_,nn hi,U⟩;rw[this];simp
theorem azP(xs:List aq)(p:aq->Bool)(g:Nat)(bx:List D)(ap:xs.length<=8388608)(aj:hD prog g=true)(hp:∀x∈xs,al g ([.agg x.e]++bx.map .one) [.one (B (p x))]):
  al 330 [.one (.J 5 (xs.map aq.e)),.one (.cl g bx)] [.one (I (mN p xs))]:=by
 have mj:∀x∈xs,∀r,p x=r->al g ([.agg x.e]++bx.map .one) [.one (B r)]:=fun x ah r h=>h▸hp x ah
 have l:=gN (P:=prog) (c:=(ar f330 0)) xs p (fun i=>w4 (xs.map aq.e) g bx i) (X:=fun i _=>MT i) e0 (cH 0)
  (fun i a ak h=>axv ⟨b5 (aT ak),bD,bK (aT ak),bE aq.e ak,aj,mj a (eD ak) false h,rfl,dj (aT ak) ap,aa⟩)
  (fun i a ak h=>axu ⟨b5 (aT ak),bD,bK (aT ak),bE aq.e ak,aj,mj a (eD ak) true h,rfl,aa⟩)
  (axw ⟨dT,aa⟩)
 rcases l with⟨_,h1,_,U⟩ | ⟨i,a,_,_,_,h1,_,U⟩
 ·simp only[mN,h1];exact ayY ⟨U,aa⟩
 simp only[mN,h1];exact axx ⟨U,aa⟩
theorem azQ(xs:List aq)(p:aq->Bool)(g:Nat)(bx:List D)(ap:xs.length<=8388608)(aj:hD prog g=true)(hp:∀x∈xs,al g ([.agg x.e]++bx.map .one) [.one (B (p x))]):
  al 291 [.one (.J 5 (xs.map aq.e)),.one (.cl g bx)] [.one (B (xs.any p))]:=by
 rw[<-Vu];exact aze ⟨azP xs p g bx ap aj hp,aa⟩
theorem azR(xs:List cR)(p:cR->Bool)(g:Nat)(bx:List D)(ap:xs.length<=8388608)(aj:hD prog g=true)(hp:∀x∈xs,al g ([.agg x.e]++bx.map .one) [.one (B (p x))]):
  al 352 [.one (.J 2 (xs.map cR.e)),.one (.cl g bx)] [.one (I (mN p xs))]:=by
 have mj:∀x∈xs,∀r,p x=r->al g ([.agg x.e]++bx.map .one) [.one (B r)]:=fun x ah r h=>h▸hp x ah
 have l:=gN (P:=prog) (c:=(ar f352 0)) xs p (fun i=>w5 (xs.map cR.e) g bx i) (X:=fun i _=>MU i) e0 (cH 0)
  (fun i a ak h=>ay0 ⟨b5 (aT ak),bD,bK (aT ak),bE cR.e ak,aj,mj a (eD ak) false h,rfl,dj (aT ak) ap,aa⟩)
  (fun i a ak h=>ayZ ⟨b5 (aT ak),bD,bK (aT ak),bE cR.e ak,aj,mj a (eD ak) true h,rfl,aa⟩)
  (ay1 ⟨dT,aa⟩)
 rcases l with⟨_,h1,_,U⟩ | ⟨i,a,_,_,_,h1,_,U⟩
 ·simp only[mN,h1];exact ay3 ⟨U,aa⟩
 simp only[mN,h1];exact ay2 ⟨U,aa⟩
theorem azS(xs:List cR)(p:cR->Bool)(g:Nat)(bx:List D)(ap:xs.length<=8388608)(aj:hD prog g=true)(hp:∀x∈xs,al g ([.agg x.e]++bx.map .one) [.one (B (p x))]):
  al 328 [.one (.J 2 (xs.map cR.e)),.one (.cl g bx)] [.one (B (xs.any p))]:=by
 rw[<-Vu];exact azf ⟨azR xs p g bx ap aj hp,aa⟩
theorem azT(xs:List b1)(p:b1->Bool)(g:Nat)(bx:List D)(ap:xs.length<=8388608)(aj:hD prog g=true)(hp:∀x∈xs,al g ([.agg x.e]++bx.map .one) [.one (B (p x))]):
  al 290 [.one (.J 3 (xs.map b1.e)),.one (.cl g bx)] [.one (I (mN p xs))]:=by
 have mj:∀x∈xs,∀r,p x=r->al g ([.agg x.e]++bx.map .one) [.one (B r)]:=fun x ah r h=>h▸hp x ah
 have l:=gN (P:=prog) (c:=(ar f290 0)) xs p (fun i=>w6 (xs.map b1.e) g bx i) (X:=fun i _=>MV i) e0 (cH 0)
  (fun i a ak h=>ay5 ⟨b5 (aT ak),bD,bK (aT ak),bE b1.e ak,aj,mj a (eD ak) false h,rfl,dj (aT ak) ap,aa⟩)
  (fun i a ak h=>ay4 ⟨b5 (aT ak),bD,bK (aT ak),bE b1.e ak,aj,mj a (eD ak) true h,rfl,aa⟩)
  (ay6 ⟨dT,aa⟩)
 rcases l with⟨_,h1,_,U⟩ | ⟨i,a,_,_,_,h1,_,U⟩
 ·simp only[mN,h1];exact ay8 ⟨U,aa⟩
 simp only[mN,h1];exact ay7 ⟨U,aa⟩
theorem azU(xs:List Cell)(p:Cell->Bool)(g:Nat)(bx:List D)(ap:xs.length<=8388608)(aj:hD prog g=true)(hp:∀x∈xs,al g ([.agg x.e]++bx.map .one) [.one (B (p x))]):
  al 375 [.one (.J 4 (xs.map Cell.e)),.one (.cl g bx)] [.one (I (mN p xs))]:=by
 have mj:∀x∈xs,∀r,p x=r->al g ([.agg x.e]++bx.map .one) [.one (B r)]:=fun x ah r h=>h▸hp x ah
 have l:=gN (P:=prog) (c:=(ar f375 0)) xs p (fun i=>w7 (xs.map Cell.e) g bx i) (X:=fun i _=>MW i) e0 (cH 0)
  (fun i a ak h=>aza ⟨b5 (aT ak),bD,bK (aT ak),bE Cell.e ak,aj,mj a (eD ak) false h,rfl,dj (aT ak) ap,aa⟩)
  (fun i a ak h=>ay9 ⟨b5 (aT ak),bD,bK (aT ak),bE Cell.e ak,aj,mj a (eD ak) true h,rfl,aa⟩)
  (azb ⟨dT,aa⟩)
 rcases l with⟨_,h1,_,U⟩ | ⟨i,a,_,_,_,h1,_,U⟩
 ·simp only[mN,h1];exact azd ⟨U,aa⟩
 simp only[mN,h1];exact azc ⟨U,aa⟩
end Go.Proofs.YtdchjefneblpgaaGreat
namespace Go.Proofs.YtdchjefneblpgaaGreat
open Go.Sx Go.RowKit Go.Proofs.Tryz
def mS(e:Int)(xs:List aq):List aq:=xs.filter fun r=>r.bq.bd==e
theorem Vv(xs:List aq)(e:Int)(ap:xs.length<=8388608):al 116 [.one (.J 5 (xs.map aq.e)),.one (I e)] [.one (.J 5 ((mS e xs).map aq.e))]:=by
 let p:=fun r:aq=>r.bq.bd==e
 have l:=fC (P:=prog) (c:=(ar f116 0)) (cH 0) xs.length (fun i:Nat=>xx (xs.map aq.e) e i (((xs.take i).filter p).map aq.e)) (fun i hi=>by
  obtain⟨a,ak⟩:=c9 hi;have b2:=Fs p xs i;have ao:=zj p ak;by_cases hp:p a=true
  ·rw[bm hp]at ao;rw[ao,fQ];exact axO ⟨b5 hi,bD,bK hi,bE aq.e ak,hp,bD,bK hi,bE aq.e ak,by simp;omega,by simp;omega,dD a.flat,dj hi ap,aa⟩
  rw[bk hp,kE]at ao;rw[ao];exact axP ⟨b5 hi,bD,bK hi,bE aq.e ak,jV.2 hp,dj hi ap,aa⟩) (axQ ⟨dT,aa⟩)
 rw[k5]at l;exact axR ⟨l,aa⟩
theorem Vw(xs:List aq)(e:Int)(ap:xs.length<=8388608):al 182 [.one (.J 5 (xs.map aq.e)),.one (I e)] [.one (.J 5 ((mS e xs).map aq.e))]:=by
 let p:=fun r:aq=>r.bq.bd==e
 have l:=fC (P:=prog) (c:=(ar f182 0)) (cH 0) xs.length (fun i:Nat=>w2 (xs.map aq.e) e i (((xs.take i).filter p).map aq.e)) (fun i hi=>by
  obtain⟨a,ak⟩:=c9 hi;have b2:=Fs p xs i;have ao:=zj p ak;by_cases hp:p a=true
  ·rw[bm hp]at ao;rw[ao,fQ];exact axS ⟨b5 hi,bD,bK hi,bE aq.e ak,hp,by simp;omega,by simp;omega,dD a.flat,dj hi ap,aa⟩
  rw[bk hp,kE]at ao;rw[ao];exact axT ⟨b5 hi,bD,bK hi,bE aq.e ak,jV.2 hp,dj hi ap,aa⟩) (axU ⟨dT,aa⟩)
 rw[k5]at l;exact axV ⟨l,aa⟩
